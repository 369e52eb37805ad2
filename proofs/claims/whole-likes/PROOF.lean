import PyProof.Rows.All
import Wide.All
import OpenK.AllK
import Wide.FinOn
import HandS.ForMost
import HandS.Walk
import HandS.Zip
import HandS.IsInst
import HandS.TupAny
import HandS.Deep
import HandS.More
import HandS.RevRange
import HandS.Conv
import HandS.Strs
import HandS.TupSets
import HandS.Defaults
import HandS.WideBits
import KE.DataEq
import KE.GoesNew
import PySem.Challenge.RW_stampgaps_k69_whole_likes_in_lines
import HandS.Codes
import KE.KStateDown
import HandS.Base
import HandS.Call
import HandS.Ends
import HandS.Words
import HandS.WordsExc
import HandS.Head0
import HandS.Head1
import HandS.Head2
import HandS.HeadEnd
import HandS.HeadHook1
import HandS.HeadHook2
set_option Elab.async false
set_option linter.all false
set_option maxRecDepth 100000
set_option maxHeartbeats 0
/-! Abstract slots over data: judgements with canonical readings, above the hand layer. -/
namespace Sg
open PySem PySem.Spec PyProof.Rows L2
/-! ### data stands when the heap grows -/
theorem sqL_mono {K : PySem.W.Frag} {H H' : Hp} {a : Addr} {xs : List V} (e : Same H H') (h : SqL K H a xs) : SqL K H' a xs := e.seq h
theorem sqT_mono {K : PySem.W.Frag} {H H' : Hp} {a : Addr} {xs : List V} (e : Same H H') (h : SqT K H a xs) : SqT K H' a xs := by
  rcases h with (h | ⟨ob, h⟩) | h
  · exact .inl (.inl (e _ _ h))
  · exact .inl (.inr ⟨ob, e _ _ h⟩)
  · exact .inr h
mutual
theorem dp_mono {K : PySem.W.Frag} {H H' : Hp} (e : Same H H') : ∀ (d : PyData) (v : V), Dp K H v d → Dp K H' v d
  | .none, _, h => by cases h; exact .non
  | .bool b, _, h => by cases h; exact .bl _
  | .int i, _, h => by cases h; exact .int _
  | .str x, _, h => by cases h; exact .str _
  | .list ds, _, h => by
    cases h with
    | lst hs ha => exact .lst (sqL_mono e hs) (dpA_mono e ds _ ha)
  | .tuple ds, _, h => by
    cases h with
    | tup hs ha => exact .tup (sqT_mono e hs) (dpA_mono e ds _ ha)
  | .dict _, _, h => by cases h
theorem dpA_mono {K : PySem.W.Frag} {H H' : Hp} (e : Same H H') : ∀ (ds : List PyData) (vs : List V), DpAll K H vs ds → DpAll K H' vs ds
  | [], _, h => by cases h; exact .nil
  | d :: ds, _, h => by
    cases h with
    | cons h1 h2 => exact .cons (dp_mono e d _ h1) (dpA_mono e ds _ h2)
end
theorem Dpm {K : PySem.W.Frag} {H H' : Hp} {d : PyData} {v : V} (h : Dp K H v d) (e : Same H H') : Dp K H' v d := dp_mono e d v h
theorem Dpam {K : PySem.W.Frag} {H H' : Hp} {ds : List PyData} {vs : List V} (h : DpAll K H vs ds) (e : Same H H') : DpAll K H' vs ds := dpA_mono e ds vs h
section
variable {K : PySem.W.Frag} {H : Hp}
theorem dpa_len : ∀ {vs : List V} {ds : List PyData}, DpAll K H vs ds → vs.length = ds.length
  | _, [], h => by cases h; rfl
  | _, d :: ds, h => by
    cases h with
    | cons h1 h2 => rw [List.length_cons, List.length_cons, dpa_len h2]
theorem dpa_get : ∀ {vs : List V} {ds : List PyData} {i : Nat} {d : PyData}, DpAll K H vs ds → ds[i]? = some d → ∃ v, vs[i]? = some v ∧ Dp K H v d
  | _, [], _, _, _, e => by simp at e
  | _, d :: ds, 0, d', h, e => by
    cases h with
    | cons h1 h2 => simp at e; subst e; exact ⟨_, rfl, h1⟩
  | _, d :: ds, i + 1, d', h, e => by
    cases h with
    | cons h1 h2 =>
      obtain ⟨v, h3, h4⟩ := dpa_get (i := i) h2 (by simpa using e)
      exact ⟨v, by simpa using h3, h4⟩
theorem dpa_app : ∀ {vs ws : List V} {ds es : List PyData}, DpAll K H vs ds → DpAll K H ws es → DpAll K H (vs ++ ws) (ds ++ es)
  | _, _, [], _, h, h' => by cases h; exact h'
  | _, _, d :: ds, _, h, h' => by
    cases h with
    | cons h1 h2 => exact .cons h1 (dpa_app h2 h')
theorem dpa_take : ∀ {vs : List V} {ds : List PyData} (n : Nat), DpAll K H vs ds → DpAll K H (vs.take n) (ds.take n)
  | _, [], n, h => by cases h; simp; exact .nil
  | _, d :: ds, 0, h => by
    cases h with
    | cons h1 h2 => exact .nil
  | _, d :: ds, n + 1, h => by
    cases h with
    | cons h1 h2 => exact .cons h1 (dpa_take n h2)
theorem dpa_drop : ∀ {vs : List V} {ds : List PyData} (n : Nat), DpAll K H vs ds → DpAll K H (vs.drop n) (ds.drop n)
  | _, [], n, h => by cases h; simp; exact .nil
  | _, d :: ds, 0, h => h
  | _, d :: ds, n + 1, h => by
    cases h with
    | cons h1 h2 => exact dpa_drop n h2
theorem dpa_set : ∀ {vs : List V} {ds : List PyData} {v : V} {d : PyData} (n : Nat), DpAll K H vs ds → Dp K H v d → DpAll K H (vs.set n v) (ds.set n d)
  | _, [], _, _, n, h, _ => by cases h; exact .nil
  | _, d :: ds, _, _, 0, h, h' => by
    cases h with
    | cons h1 h2 => exact .cons h' h2
  | _, d :: ds, _, _, n + 1, h, h' => by
    cases h with
    | cons h1 h2 => exact .cons h1 (dpa_set n h2 h')
theorem dpa_ints : ∀ (ns : List Int), DpAll K H (ns.map V.int) (ns.map PyData.int)
  | [] => .nil
  | n :: r => .cons (.int n) (dpa_ints r)
theorem dpa_ints_inv : ∀ {ns : List Int} {vs : List V}, DpAll K H vs (ns.map PyData.int) → vs = ns.map V.int
  | [], _, h => by cases h; rfl
  | n :: r, _, h => by
    cases h with
    | cons h1 h2 =>
      cases h1
      rw [dpa_ints_inv h2]
      rfl
theorem dpa_strs_inv : ∀ {zs : List Str} {vs : List V}, DpAll K H vs (zs.map PyData.str) → vs = zs.map V.str
  | [], _, h => by cases h; rfl
  | n :: r, _, h => by
    cases h with
    | cons h1 h2 =>
      cases h1
      rw [dpa_strs_inv h2]
      rfl
theorem dpa_strs : ∀ (zs : List Str), DpAll K H (zs.map V.str) (zs.map PyData.str)
  | [] => .nil
  | n :: r => .cons (.str n) (dpa_strs r)
theorem dpa_bls_inv : ∀ {bs : List Bool} {vs : List V}, DpAll K H vs (bs.map PyData.bool) → vs = bs.map V.bl
  | [], _, h => by cases h; rfl
  | n :: r, _, h => by
    cases h with
    | cons h1 h2 =>
      cases h1
      rw [dpa_bls_inv h2]
      rfl
end
mutual
theorem dp_plain {K : PySem.W.Frag} {H : Hp} : ∀ (d : PyData) (v : V), Dp K H v d → d.plain = true
  | .none, _, _ => by simp [PyData.plain]
  | .bool b, _, _ => by simp [PyData.plain]
  | .int i, _, _ => by simp [PyData.plain]
  | .str x, _, _ => by simp [PyData.plain]
  | .list ds, _, h => by
    cases h with
    | lst hs ha => simp only [PyData.plain]; exact dpA_plain ds _ ha
  | .tuple ds, _, h => by
    cases h with
    | tup hs ha => simp only [PyData.plain]; exact dpA_plain ds _ ha
  | .dict _, _, h => by cases h
theorem dpA_plain {K : PySem.W.Frag} {H : Hp} : ∀ (ds : List PyData) (vs : List V), DpAll K H vs ds → PyData.plainAll ds = true
  | [], _, _ => by simp [PyData.plainAll]
  | d :: ds, _, h => by
    cases h with
    | cons h1 h2 => simp only [PyData.plainAll, Bool.and_eq_true]; exact ⟨dp_plain d _ h1, dpA_plain ds _ h2⟩
end
/-! ### the abstract state -/
/-- what a slot is known to hold: nothing known; data that stands; a list at a that may be changed -/
inductive Sl where
  | no
  | dat (d : PyData)
  | mut (a : Addr) (ds : List PyData)
/-- what stood at the start: the standing part, the heap, the addresses that may be written -/
structure Bs where
  S : Hp
  H : Hp
  M : Addr → Prop
structure Ab (K : PySem.W.Frag) (B : Bs) (S H : Hp) (σ : L2.St) (ρ : List Sl) : Prop where
  sub : Same S H
  s0 : Same B.S S
  fr : ∀ a o, ¬ B.M a → B.H a = some o → H a = some o
  dom : ∀ a, H a = none → B.H a = none
  new : ∀ a, B.H a ≠ none → B.S a = none → S a = none
  len : σ.length = ρ.length
  dat : ∀ (i : Nat) (d : PyData), ρ[i]? = some (Sl.dat d) → ∃ v, σ[i]? = some (some v) ∧ Dp K S v d
  mt : ∀ (i : Nat) (a : Addr) (ds : List PyData), ρ[i]? = some (Sl.mut a ds) → σ[i]? = some (some (.ref a)) ∧ S a = none ∧ (B.M a ∨ B.H a = none) ∧ ∃ vs, H a = some (.lst vs) ∧ DpAll K S vs ds
  sep : ∀ (i j : Nat) (a : Addr) (ds es : List PyData), ρ[i]? = some (Sl.mut a ds) → ρ[j]? = some (Sl.mut a es) → i = j
/-- new things beside what stood -/
structure Nw (S H S' H' : Hp) : Prop where
  hh : Same H H'
  ss : Same S S'
  sh : Same S' H'
  new : ∀ a, H a ≠ none → S a = none → S' a = none
def cut (S H : Hp) (ρ : List Sl) : Bs := ⟨S, H, fun a => ∃ (i : Nat) (ds : List PyData), ρ[i]? = some (Sl.mut a ds)⟩
section
variable {K : PySem.W.Frag} {B : Bs} {S S' S2 H H' H2 : Hp} {σ σ' : L2.St} {ρ ρ' ρ2 : List Sl}
theorem Nw.refl (h : Same S H) : Nw S H S H := ⟨Same.refl _, Same.refl _, h, fun _ _ e => e⟩
theorem Nw.trans (a : Nw S H S' H') (b : Nw S' H' S2 H2) : Nw S H S2 H2 :=
  ⟨a.hh.trans b.hh, a.ss.trans b.ss, b.sh, fun p h1 h2 => b.new p (fun e => h1 (a.hh.free e)) (a.new p h1 h2)⟩
theorem Nw.one {p : Addr} {o : HO} (h : Same S H) (hp : H p = none) : Nw S H (upd S p o) (upd H p o) := by
  have sp : S p = none := h.free hp
  have up : ∀ {A : Hp}, A p = none → Same A (upd A p o) := fun {A} hA b x e => by
    rw [upd_ne (ne_of_none e hA)]
    exact e
  refine ⟨up hp, up sp, fun b x e => ?_, fun a h1 h2 => ?_⟩
  · by_cases hb : b = p
    · subst hb; rw [upd_same] at e ⊢; exact e
    · rw [upd_ne hb] at e ⊢; exact h _ _ e
  · have : a ≠ p := fun e => h1 (by rw [e]; exact hp)
    rw [upd_ne this]
    exact h2
theorem Ab.here (h : Ab K B S H σ ρ) : Ab K (cut S H ρ) S H σ ρ :=
  ⟨h.sub, Same.refl _, fun _ _ _ e => e, fun _ e => e, fun _ _ e => e, h.len, h.dat, fun i a ds e => let ⟨h1, h2, _, h4⟩ := h.mt i a ds e; ⟨h1, h2, .inl ⟨i, ds, e⟩, h4⟩, h.sep⟩
theorem Ab.trans (h1 : Ab K B S H σ ρ) (h2 : Ab K (cut S H ρ) S' H' σ' ρ') : Ab K B S' H' σ' ρ' := by
  refine ⟨h2.sub, h1.s0.trans h2.s0, fun a o hm e => h2.fr a o ?_ (h1.fr a o hm e), fun a e => h1.dom a (h2.dom a e), fun a e1 e2 => h2.new a (fun z => e1 (h1.dom a z)) (h1.new a e1 e2), h2.len, h2.dat, fun i a ds e => ?_, h2.sep⟩
  · rintro ⟨i, ds, z⟩
    rcases (h1.mt i a ds z).2.2.1 with q | q
    · exact hm q
    · rw [e] at q; cases q
  · obtain ⟨q1, q2, q3, q4⟩ := h2.mt i a ds e
    refine ⟨q1, q2, ?_, q4⟩
    rcases q3 with ⟨j, es, z⟩ | z
    · exact (h1.mt j a es z).2.2.1
    · exact .inr (h1.dom a z)
theorem Ab.grow (h : Ab K B S H σ ρ) (n : Nw S H S' H') : Ab K B S' H' σ ρ := by
  refine ⟨n.sh, h.s0.trans n.ss, fun a o hm e => n.hh _ _ (h.fr a o hm e), fun a e => h.dom a (n.hh.free e), fun a e1 e2 => n.new a (fun z => e1 (h.dom a z)) (h.new a e1 e2), h.len, fun i d e => ?_, fun i a ds e => ?_, h.sep⟩
  · obtain ⟨v, h1, h2⟩ := h.dat i d e
    exact ⟨v, h1, Dpm h2 n.ss⟩
  · obtain ⟨h1, h2, h3, vs, h4, h5⟩ := h.mt i a ds e
    exact ⟨h1, n.new a (by rw [h4]; intro z; cases z) h2, h3, vs, n.hh _ _ h4, Dpam h5 n.ss⟩
theorem get_set {α : Type} {l : List α} {i j : Nat} {x y : α} (h : (l.set i x)[j]? = some y) : (i = j ∧ x = y ∧ i < l.length) ∨ (i ≠ j ∧ l[j]? = some y) := by
  by_cases e : i = j
  · subst e
    by_cases hl : i < l.length
    · rw [List.getElem?_set_self hl] at h
      exact .inl ⟨rfl, Option.some.inj h, hl⟩
    · rw [List.getElem?_eq_none (by simpa using Nat.le_of_not_lt hl)] at h
      cases h
  · rw [List.getElem?_set_ne e] at h
    exact .inr ⟨e, h⟩
theorem Ab.set {i : Nat} {v : V} {d : PyData} (h : Ab K B S H σ ρ) (r : Dp K S v d) : Ab K B S H (σ.set i (some v)) (ρ.set i (.dat d)) := by
  refine ⟨h.sub, h.s0, h.fr, h.dom, h.new, by simp [h.len], fun j e hj => ?_, fun j a ds hj => ?_, fun j k a ds es hj hk => ?_⟩
  · rcases get_set hj with ⟨rfl, e1, hl⟩ | ⟨hn, e1⟩
    · cases e1
      exact ⟨v, List.getElem?_set_self (by rw [h.len]; exact hl), r⟩
    · obtain ⟨u, h1, h2⟩ := h.dat j e e1
      exact ⟨u, by rw [List.getElem?_set_ne hn]; exact h1, h2⟩
  · rcases get_set hj with ⟨rfl, e1, hl⟩ | ⟨hn, e1⟩
    · cases e1
    · obtain ⟨h1, h2⟩ := h.mt j a ds e1
      exact ⟨by rw [List.getElem?_set_ne hn]; exact h1, h2⟩
  · rcases get_set hj with ⟨rfl, e1, hl⟩ | ⟨hn, e1⟩
    · cases e1
    · rcases get_set hk with ⟨rfl, e2, hl⟩ | ⟨hn2, e2⟩
      · cases e2
      · exact h.sep j k a ds es e1 e2
/-- a slot forgotten -/
theorem Ab.drop1 {i : Nat} (h : Ab K B S H σ ρ) : Ab K B S H σ (ρ.set i .no) := by
  refine ⟨h.sub, h.s0, h.fr, h.dom, h.new, by simp [h.len], fun j e hj => ?_, fun j a ds hj => ?_, fun j k a ds es hj hk => ?_⟩
  · rcases get_set hj with ⟨rfl, e1, hl⟩ | ⟨hn, e1⟩
    · cases e1
    · exact h.dat j e e1
  · rcases get_set hj with ⟨rfl, e1, hl⟩ | ⟨hn, e1⟩
    · cases e1
    · exact h.mt j a ds e1
  · rcases get_set hj with ⟨rfl, e1, hl⟩ | ⟨hn, e1⟩
    · cases e1
    · rcases get_set hk with ⟨rfl, e2, hl⟩ | ⟨hn2, e2⟩
      · cases e2
      · exact h.sep j k a ds es e1 e2
def fg (is : List Nat) (ρ : List Sl) : List Sl := is.foldl (fun r i => r.set i .no) ρ
theorem Ab.drop : ∀ {is : List Nat} {ρ : List Sl}, Ab K B S H σ ρ → Ab K B S H σ (fg is ρ)
  | [], _, h => h
  | i :: is, _, h => Ab.drop (is := is) h.drop1
/-- a list that may be changed is changed -/
theorem Ab.mutate {i : Nat} {a : Addr} {ds ds' : List PyData} {vs' : List V} (h : Ab K B S H σ ρ) (e : ρ[i]? = some (.mut a ds)) (r : DpAll K S vs' ds') : Ab K B S (upd H a (.lst vs')) σ (ρ.set i (.mut a ds')) := by
  obtain ⟨q1, q2, q3, vs, q4, q5⟩ := h.mt i a ds e
  have hil : i < ρ.length := (List.getElem?_eq_some_iff.mp e).1
  refine ⟨fun b o z => ?_, h.s0, fun b o hm z => ?_, fun b z => ?_, h.new, by simp [h.len], fun j d hj => ?_, fun j b es hj => ?_, fun j k b es fs hj hk => ?_⟩
  · rw [upd_ne (ne_of_none z q2)]
    exact h.sub _ _ z
  · have : b ≠ a := by
      rintro rfl
      rcases q3 with q3 | q3
      · exact hm q3
      · rw [z] at q3; cases q3
    rw [upd_ne this]
    exact h.fr _ _ hm z
  · by_cases hb : b = a
    · subst hb; rw [upd_same] at z; cases z
    · rw [upd_ne hb] at z; exact h.dom _ z
  · rcases get_set hj with ⟨rfl, e1, hl⟩ | ⟨hn, e1⟩
    · cases e1
    · exact h.dat j d e1
  · rcases get_set hj with ⟨rfl, e1, hl⟩ | ⟨hn, e1⟩
    · cases e1
      exact ⟨q1, q2, q3, vs', upd_same, r⟩
    · obtain ⟨p1, p2, p3, ws, p4, p5⟩ := h.mt j b es e1
      have : b ≠ a := by
        rintro rfl
        exact hn (h.sep _ _ _ _ _ e e1)
      exact ⟨p1, p2, p3, ws, by rw [upd_ne this]; exact p4, p5⟩
  · rcases get_set hj with ⟨rfl, e1, hl⟩ | ⟨hn, e1⟩
    · cases e1
      rcases get_set hk with ⟨rfl, e2, hl⟩ | ⟨hn2, e2⟩
      · rfl
      · exact h.sep _ _ _ _ _ e e2
    · rcases get_set hk with ⟨rfl, e2, hl⟩ | ⟨hn2, e2⟩
      · cases e2
        exact h.sep _ _ _ _ _ e1 e
      · exact h.sep _ _ _ _ _ e1 e2
/-- a new list in a slot -/
theorem Ab.alloc {i : Nat} {p : Addr} {ds : List PyData} {vs : List V} (h : Ab K B S H σ ρ) (hp : H p = none) (r : DpAll K S vs ds) : Ab K B S (upd H p (.lst vs)) (σ.set i (some (.ref p))) (ρ.set i (.mut p ds)) := by
  have sp : S p = none := h.sub.free hp
  have up : Same H (upd H p (.lst vs)) := fun b x e => by
    rw [upd_ne (ne_of_none e hp)]
    exact e
  refine ⟨h.sub.trans up, h.s0, fun b o hm z => up _ _ (h.fr _ _ hm z), fun b z => h.dom b (up.free z), h.new, by simp [h.len], fun j d hj => ?_, fun j b es hj => ?_, fun j k b es fs hj hk => ?_⟩
  · rcases get_set hj with ⟨rfl, e1, hl⟩ | ⟨hn, e1⟩
    · cases e1
    · obtain ⟨u, h1, h2⟩ := h.dat j d e1
      exact ⟨u, by rw [List.getElem?_set_ne hn]; exact h1, h2⟩
  · rcases get_set hj with ⟨rfl, e1, hl⟩ | ⟨hn, e1⟩
    · cases e1
      exact ⟨List.getElem?_set_self (by rw [h.len]; exact hl), sp, .inr (h.dom _ hp), vs, upd_same, r⟩
    · obtain ⟨p1, p2, p3, ws, p4, p5⟩ := h.mt j b es e1
      exact ⟨by rw [List.getElem?_set_ne hn]; exact p1, p2, p3, ws, up _ _ p4, p5⟩
  · have no : ∀ {j : Nat} {b : Addr} {es : List PyData}, ρ[j]? = some (.mut b es) → b ≠ p := fun {j b es} e1 => by
      obtain ⟨_, _, _, ws, p4, _⟩ := h.mt j b es e1
      exact ne_of_none p4 hp
    rcases get_set hj with ⟨rfl, e1, hl⟩ | ⟨hn, e1⟩
    · cases e1
      rcases get_set hk with ⟨rfl, e2, hl⟩ | ⟨hn2, e2⟩
      · rfl
      · exact absurd rfl (no e2)
    · rcases get_set hk with ⟨rfl, e2, hl⟩ | ⟨hn2, e2⟩
      · cases e2
        exact absurd rfl (no e1)
      · exact h.sep _ _ _ _ _ e1 e2
/-- a list that is not changed any more -/
theorem Ab.freeze {i : Nat} {a : Addr} {ds : List PyData} (h : Ab K B S H σ ρ) (e : ρ[i]? = some (.mut a ds)) (hm : ¬ B.M a) : ∃ S', Ab K B S' H σ (ρ.set i (.dat (.list ds))) ∧ Same S S' := by
  obtain ⟨q1, q2, q3, vs, q4, q5⟩ := h.mt i a ds e
  have hb : B.H a = none := q3.resolve_left hm
  have ss : Same S (upd S a (.lst vs)) := fun b x z => by
    rw [upd_ne (ne_of_none z q2)]
    exact z
  have hil : i < ρ.length := (List.getElem?_eq_some_iff.mp e).1
  refine ⟨upd S a (.lst vs), ⟨fun b o z => ?_, h.s0.trans ss, h.fr, h.dom, fun b z1 z2 => ?_, by simp [h.len], fun j d hj => ?_, fun j b es hj => ?_, fun j k b es fs hj hk => ?_⟩, ss⟩
  · by_cases hba : b = a
    · subst hba; rw [upd_same] at z; cases z; exact q4
    · rw [upd_ne hba] at z; exact h.sub _ _ z
  · have : b ≠ a := by
      rintro rfl
      exact z1 hb
    rw [upd_ne this]
    exact h.new b z1 z2
  · rcases get_set hj with ⟨rfl, e1, hl⟩ | ⟨hn, e1⟩
    · cases e1
      exact ⟨.ref a, q1, .lst (.of upd_same) (Dpam q5 ss)⟩
    · obtain ⟨u, h1, h2⟩ := h.dat j d e1
      exact ⟨u, h1, Dpm h2 ss⟩
  · rcases get_set hj with ⟨rfl, e1, hl⟩ | ⟨hn, e1⟩
    · cases e1
    · obtain ⟨p1, p2, p3, ws, p4, p5⟩ := h.mt j b es e1
      have : b ≠ a := by
        rintro rfl
        exact hn (h.sep _ _ _ _ _ e e1)
      exact ⟨p1, by rw [upd_ne this]; exact p2, p3, ws, p4, Dpam p5 ss⟩
  · rcases get_set hj with ⟨rfl, e1, hl⟩ | ⟨hn, e1⟩
    · cases e1
    · rcases get_set hk with ⟨rfl, e2, hl⟩ | ⟨hn2, e2⟩
      · cases e2
      · exact h.sep _ _ _ _ _ e1 e2
/-- several slots set -/
def setV : L2.St → List Nat → List V → L2.St
  | σ, i :: is, v :: vs => setV (σ.set i (some v)) is vs
  | σ, _, _ => σ
def setD : List Sl → List Nat → List PyData → List Sl
  | ρ, i :: is, d :: ds => setD (ρ.set i (.dat d)) is ds
  | ρ, _, _ => ρ
theorem Ab.setD : ∀ {is : List Nat} {vs : List V} {ds : List PyData} {σ : L2.St} {ρ : List Sl}, Ab K B S H σ ρ → DpAll K S vs ds → Ab K B S H (setV σ is vs) (setD ρ is ds)
  | [], _, _, _, _, h, _ => by simpa [setV, Sg.setD] using h
  | i :: is, _, [], _, _, h, r => by
    cases r
    simpa [setV, Sg.setD] using h
  | i :: is, _, d :: ds, σ, ρ, h, r => by
    cases r with
    | cons r1 r2 =>
      have q := Ab.setD (is := is) (h.set (i := i) r1) r2
      exact q
end
end Sg
namespace Sg
open PySem PySem.Spec PyProof.Rows L2
/-! ### readings are weakened -/
theorem PEw {X : Cx} {e : Expr} {t t' : TE} (h : PE X e t) (k : ∀ σ H Q, t' σ H Q → t σ H Q) : PE X e t' := ⟨fun pins s σ H Q I q => h.run pins s σ H Q I (k _ _ _ q)⟩
theorem PTw' {X : Cx} {e : Expr} {t t' : TT} (h : PT X e t) (k : ∀ σ H Q, t' σ H Q → t σ H Q) : PT X e t' := ⟨fun pins s σ H Q I q => h.run pins s σ H Q I (k _ _ _ q)⟩
theorem PWw {X : Cx} {e : Expr} {t t' : TT} (h : PW X e t) (k : ∀ σ H Q, t' σ H Q → t σ H Q) : PW X e t' := ⟨fun wh pins s σ H Q I q => h.run wh pins s σ H Q I (k _ _ _ q)⟩
theorem PAw {X : Cx} {e : List Expr} {t t' : TA} (h : PA X e t) (k : ∀ σ H Q, t' σ H Q → t σ H Q) : PA X e t' := ⟨fun pos pins s σ H Q I q => h.run pos pins s σ H Q I (k _ _ _ q)⟩
theorem PSw {X : Cx} {e : Stmt} {t t' : TS} (h : PS X e t) (k : ∀ D σ H, t' D σ H → t D σ H) : PS X e t' := ⟨fun pins s σ H D I q => h.run pins s σ H D I (k _ _ _ q)⟩
theorem PSsw {X : Cx} {e : List Stmt} {t t' : TS} (h : PSs X e t) (k : ∀ D σ H, t' D σ H → t D σ H) : PSs X e t' := ⟨fun pins s σ H D I q => h.run pins s σ H D I (k _ _ _ q)⟩
theorem PGw {X : Cx} {e : Expr} {t t' : TG} (h : PG X e t) (k : ∀ v σ H Q, t' v σ H Q → t v σ H Q) : PG X e t' := ⟨fun pins s σ H v u Q I r q => h.run pins s σ H v u Q I r (k _ _ _ _ q)⟩
theorem PGsw {X : Cx} {e : List Expr} {t t' : TGs} (h : PGs X e t) (k : ∀ v σ H Q, t' v σ H Q → t v σ H Q) : PGs X e t' := ⟨fun pins s σ H v u Q I r q => h.run pins s σ H v u Q I r (k _ _ _ _ q)⟩
theorem PIw {X : Cx} {tg e : Expr} {t t' : TI} (h : PI X tg e t) (k : ∀ σ H R, t' σ H R → t σ H R) : PI X tg e t' := ⟨fun pins s σ H R I q => h.run pins s σ H R I (k _ _ _ q)⟩
/-! ### the context -/
structure Gam where
  P : Program
  w : World
  K : PySem.W.Frag
  mg : Str → Option Value
  base : Heap
  N : List Str
  sc : Scope
  fn : Str → Bool
  k : Nat
structure Fits (G : Gam) (X : Cx) : Prop where
  prog : X.prog = G.P
  w : X.w = G.w
  K : X.K = G.K
  mg : X.mg = G.mg
  base : X.base = G.base
  N : X.N = G.N
  sc : X.env.scope = G.sc
  fn : X.fn = G.fn
  room : Room G.k X.A
  calm : X.calm = true
  xe : X.xe = fun _ _ => False
/-- the block of a comprehension -/
def Gam.blk (G : Gam) (scope : Scope) : Gam := { G with sc := relS scope G.sc, fn := fun x => scope.names.lookup x == some .cell }
theorem Fits.blk {G : Gam} {X : Cx} (F : Fits G X) (scope : Scope) (s : Shared) (H : Hp) (C : Addr) (cl : List (Str × Addr)) (fp : List Addr) : Fits (G.blk scope) (X.blk s H scope (compEnvC scope cl C X.env) fp) :=
  ⟨F.prog, F.w, F.K, F.mg, F.base, F.N, by show relS scope X.env.scope = relS scope G.sc; rw [F.sc], rfl, F.room, F.calm, rfl⟩
/-! ### canonical readings -/
def tE (K : PySem.W.Frag) (ρ : List Sl) (d : PyData) (ρ' : List Sl) : TE := fun σ H Q => ∃ B S, Ab K B S H σ ρ ∧ ∀ v S' H', Ab K B S' H' σ ρ' → Dp K S' v d → Q v H'
def tT (K : PySem.W.Frag) (ρ : List Sl) (b : Bool) (ρ' : List Sl) : TT := fun σ H Q => ∃ B S, Ab K B S H σ ρ ∧ ∀ S' H', Ab K B S' H' σ ρ' → Q b H'
def tAr (K : PySem.W.Frag) (ρ : List Sl) (ds : List PyData) (ρ' : List Sl) : TA := fun σ H Q => ∃ B S, Ab K B S H σ ρ ∧ ∀ vs S' H', Ab K B S' H' σ ρ' → DpAll K S' vs ds → Q vs H'
def EX (G : Gam) (e : Expr) (ρ : List Sl) (d : PyData) (ρ' : List Sl) : Prop := ∀ X, Fits G X → PE X e (tE G.K ρ d ρ')
def TX (G : Gam) (e : Expr) (ρ : List Sl) (b : Bool) (ρ' : List Sl) : Prop := ∀ X, Fits G X → PT X e (tT G.K ρ b ρ')
def WX (G : Gam) (e : Expr) (ρ : List Sl) (b : Bool) (ρ' : List Sl) : Prop := ∀ X, Fits G X → PW X e (tT G.K ρ b ρ')
def notStar : Expr → Bool
  | .Starred .. => false
  | _ => true
def AX (G : Gam) (es : List Expr) (ρ : List Sl) (ds : List PyData) (ρ' : List Sl) : Prop := es.all notStar = true ∧ ∀ X, Fits G X → PA X es (tAr G.K ρ ds ρ')
section
variable {G : Gam} {e a b c : Expr} {es : List Expr} {ρ ρ1 ρ2 ρ3 : List Sl} {d d1 d2 d3 : PyData} {ds : List PyData} {pos p : Pos} {x : Str}
/-- two readings in a row -/
theorem seq2 {K : PySem.W.Frag} {B : Bs} {S H : Hp} {σ : L2.St} {R : V → V → Hp → Prop} (h : Ab K B S H σ ρ) (k : ∀ v1 v2 S2 H2, Ab K B S2 H2 σ ρ2 → Dp K S2 v1 d1 → Dp K S2 v2 d2 → R v1 v2 H2) :
    tE K ρ d1 ρ1 σ H fun x H1 => tE K ρ1 d2 ρ2 σ H1 fun y H2 => R x y H2 :=
  ⟨B, S, h, fun v1 S1 H1 h1 r1 => ⟨cut S1 H1 ρ1, S1, h1.here, fun v2 S2 H2 h2 r2 => k v1 v2 S2 H2 (h1.trans h2) (Dpm r1 h2.s0) r2⟩⟩
/-! ### names, constants -/
def visB (sc : Scope) (x : Str) : Bool := match sc.names.lookup x with
  | some .local => true
  | some .cell => true
  | some .free => true
  | _ => false
theorem visB_ok {sc : Scope} (h : visB sc x = true) : Vis sc x := by
  unfold visB at h
  cases q : sc.names.lookup x with
  | none => rw [q] at h; cases h
  | some k =>
    rw [q] at h
    cases k with
    | «local» => exact .inl q
    | cell => exact .inr (.inl q)
    | free => exact .inr (.inr q)
    | _ => cases h
def locB (sc : Scope) (x : Str) : Bool := match sc.names.lookup x with
  | some .local => true
  | some .cell => true
  | _ => false
theorem locB_ok {sc : Scope} (h : locB sc x = true) : Loc sc x := by
  unfold locB at h
  cases q : sc.names.lookup x with
  | none => rw [q] at h; cases h
  | some k =>
    rw [q] at h
    cases k with
    | «local» => exact .inl q
    | cell => exact .inr q
    | _ => cases h
theorem e_var (i : Nat) (hr : ρ[i]? = some (.dat d) := by rfl) (hN : G.N[i]? = some x := by rfl) (hv : visB G.sc x = true := by rfl) (hd : (x == ("__debug__" : Str)) = false := by decide) (hcd : (x == ("__classdict__" : Str)) = false := by decide) :
    EX G (.Name x pos) ρ d ρ := fun X F => PEw (pe_var (i := i) (by rw [F.N]; exact hN) (by rw [F.sc]; exact visB_ok hv) hd hcd) fun σ H Q ⟨B, S, h, k⟩ => by
  obtain ⟨v, h1, h2⟩ := h.dat i d hr
  exact ⟨v, h1, k v S H h h2⟩
theorem e_int {i j} : EX G (.Constant (.int i) j pos) ρ (.int i) ρ := fun X F => PEw pe_int fun σ H Q ⟨B, S, h, k⟩ => k _ S H h (.int i)
theorem e_bl {i j} : EX G (.Constant (.bool i) j pos) ρ (.bool i) ρ := fun X F => PEw pe_bl fun σ H Q ⟨B, S, h, k⟩ => k _ S H h (.bl i)
theorem e_str {i j} : EX G (.Constant (.str i) j pos) ρ (.str i) ρ := fun X F => PEw pe_str fun σ H Q ⟨B, S, h, k⟩ => k _ S H h (.str i)
theorem e_non {j} : EX G (.Constant .none j pos) ρ .none ρ := fun X F => PEw pe_non fun σ H Q ⟨B, S, h, k⟩ => k _ S H h .non
/-- a module's constant -/
theorem e_gint {i : Int} (hg : G.sc.names.lookup x = some .globalImplicit) (hm : ∃ t, G.mg x = some (.int i t)) (hd : (x == ("__debug__" : Str)) = false := by decide) : EX G (.Name x pos) ρ (.int i) ρ := fun X F => by
  obtain ⟨t, hm⟩ := hm
  exact PEw (pe_glob (v := .int i) (show X.env.scope.names.lookup x = _ by rw [F.sc]; exact hg) (by rw [F.mg]; exact hm) ⟨_, rfl⟩ hd) fun σ H Q ⟨B, S, h, k⟩ => k _ S H h (.int i)
theorem e_gstr {z : Str} (hg : G.sc.names.lookup x = some .globalImplicit) (hm : ∃ t, G.mg x = some (.str z t)) (hd : (x == ("__debug__" : Str)) = false := by decide) : EX G (.Name x pos) ρ (.str z) ρ := fun X F => by
  obtain ⟨t, hm⟩ := hm
  exact PEw (pe_glob (v := .str z) (show X.env.scope.names.lookup x = _ by rw [F.sc]; exact hg) (by rw [F.mg]; exact hm) ⟨_, rfl⟩ hd) fun σ H Q ⟨B, S, h, k⟩ => k _ S H h (.str z)
/-- the result said otherwise -/
theorem e_eq (h : EX G e ρ d ρ1) (q : d = d1) : EX G e ρ d1 ρ1 := q ▸ h
theorem t_is {b1 b2 : Bool} (h : TX G e ρ b1 ρ1) (q : b1 = b2) : TX G e ρ b2 ρ1 := q ▸ h
/-! ### operators -/
theorem e_add {i j : Int} (ha : EX G a ρ (.int i) ρ1) (hb : EX G b ρ1 (.int j) ρ2) : EX G (.BinOp a .Add b pos) ρ (.int (i + j)) ρ2 := fun X F => PEw (pe_op op_add (ha X F) (hb X F)) fun σ H Q ⟨B, S, h, k⟩ =>
  seq2 h fun v1 v2 S2 H2 h2 r1 r2 => by cases r1; cases r2; exact ⟨i, j, rfl, rfl, k _ S2 H2 h2 (.int _)⟩
theorem e_sub {i j : Int} (ha : EX G a ρ (.int i) ρ1) (hb : EX G b ρ1 (.int j) ρ2) : EX G (.BinOp a .Sub b pos) ρ (.int (i - j)) ρ2 := fun X F => PEw (pe_op op_sub (ha X F) (hb X F)) fun σ H Q ⟨B, S, h, k⟩ =>
  seq2 h fun v1 v2 S2 H2 h2 r1 r2 => by cases r1; cases r2; exact ⟨i, j, rfl, rfl, k _ S2 H2 h2 (.int _)⟩
theorem e_mul {i j : Int} (ha : EX G a ρ (.int i) ρ1) (hb : EX G b ρ1 (.int j) ρ2) (hc : CMul i j) : EX G (.BinOp a .Mult b pos) ρ (.int (i * j)) ρ2 := fun X F => PEw (pe_op op_mul (ha X F) (hb X F)) fun σ H Q ⟨B, S, h, k⟩ =>
  seq2 h fun v1 v2 S2 H2 h2 r1 r2 => by cases r1; cases r2; exact ⟨i, j, rfl, rfl, hc, k _ S2 H2 h2 (.int _)⟩
theorem e_mod {i j : Int} (ha : EX G a ρ (.int i) ρ1) (hb : EX G b ρ1 (.int j) ρ2) (hc : 0 < j) : EX G (.BinOp a .Mod b pos) ρ (.int (i % j)) ρ2 := fun X F => PEw (pe_op op_mod (ha X F) (hb X F)) fun σ H Q ⟨B, S, h, k⟩ =>
  seq2 h fun v1 v2 S2 H2 h2 r1 r2 => by cases r1; cases r2; exact ⟨i, j, rfl, rfl, hc, k _ S2 H2 h2 (.int _)⟩
theorem e_fdiv {i j : Int} (ha : EX G a ρ (.int i) ρ1) (hb : EX G b ρ1 (.int j) ρ2) (hc : CDiv i j) : EX G (.BinOp a .FloorDiv b pos) ρ (.int (i / j)) ρ2 := fun X F => PEw (pe_op op_fdiv (ha X F) (hb X F)) fun σ H Q ⟨B, S, h, k⟩ =>
  seq2 h fun v1 v2 S2 H2 h2 r1 r2 => by cases r1; cases r2; exact ⟨i, j, rfl, rfl, hc, k _ S2 H2 h2 (.int _)⟩
theorem e_neg {i : Int} (ha : EX G a ρ (.int i) ρ1) : EX G (.UnaryOp .USub a pos) ρ (.int (-i)) ρ1 := fun X F => PEw (pe_un un_neg (ha X F)) fun σ H Q ⟨B, S, h, k⟩ =>
  ⟨B, S, h, fun v S1 H1 h1 r1 => by cases r1; exact ⟨i, rfl, k _ S1 H1 h1 (.int _)⟩⟩
theorem e_addS {i j : Str} (ha : EX G a ρ (.str i) ρ1) (hb : EX G b ρ1 (.str j) ρ2) (hz : i.length + j.length ≤ sizeLine) : EX G (.BinOp a .Add b pos) ρ (.str (i ++ j)) ρ2 := fun X F => PEw (pe_op op_add_str (ha X F) (hb X F)) fun σ H Q ⟨B, S, h, k⟩ =>
  seq2 h fun v1 v2 S2 H2 h2 r1 r2 => by cases r1; cases r2; exact ⟨i, j, rfl, rfl, hz, k _ S2 H2 h2 (.str _)⟩
/-- tuples -/
theorem e_addT {xs ys : List PyData} (ha : EX G a ρ (.tuple xs) ρ1) (hb : EX G b ρ1 (.tuple ys) ρ2) (hz : xs.length + ys.length ≤ sizeLine) : EX G (.BinOp a .Add b pos) ρ (.tuple (xs ++ ys)) ρ2 := fun X F => PEw (pe_op op_catA (ha X F) (hb X F)) fun σ H Q ⟨B, S, h, k⟩ =>
  seq2 h fun v1 v2 S2 H2 h2 r1 r2 => by
    cases r1 with
    | @tup a1 vs1 _ q1 l1 =>
      cases r2 with
      | @tup a2 vs2 _ q2 l2 =>
        rw [F.K]
        refine ⟨a1, a2, vs1, vs2, rfl, rfl, sqT_mono h2.sub q1, sqT_mono h2.sub q2, by rw [dpa_len l1, dpa_len l2]; exact hz, fun z => ?_, fun _ z => ?_, fun _ _ p hp => ?_⟩
        · subst z
          have : xs = [] := List.length_eq_zero_iff.mp (by rw [← dpa_len l1]; rfl)
          subst this
          exact k _ S2 H2 h2 (.tup q2 l2)
        · subst z
          have : ys = [] := List.length_eq_zero_iff.mp (by rw [← dpa_len l2]; rfl)
          subst this
          rw [List.append_nil] at k
          exact k _ S2 H2 h2 (.tup q1 l1)
        · have n := Nw.one (o := .tup (vs1 ++ vs2)) h2.sub hp
          exact k _ _ _ (h2.grow n) (.tup (.of upd_same) (dpa_app (Dpam l1 n.ss) (Dpam l2 n.ss)))
/-! ### comparisons -/
theorem room_units {X : Cx} (F : Fits G X) : X.A.units + 64 < cLine := F.room.units
def rEqP (K : PySem.W.Frag) : R2 := fun x y H Q => ∃ d e, Dp K H x d ∧ Dp K H y e ∧ d.depth ≤ 60 ∧ Q (.bl (PyData.eqv d e)) H
def rNeP (K : PySem.W.Frag) : R2 := fun x y H Q => ∃ d e, Dp K H x d ∧ Dp K H y e ∧ d.depth ≤ 60 ∧ Q (.bl (!PyData.eqv d e)) H
theorem op_eqP {X : Cx} (hu : X.A.units + 64 < cLine) : OpR X (compareOp .Eq) (rEqP X.K) := by
  intro pz s σ H x y v u Q I rx ry h
  obtain ⟨d, e, hd, he, hz, q⟩ := h
  obtain ⟨la, r1⟩ := Dp.reads I d x v hd rx
  obtain ⟨lb, r2⟩ := Dp.reads I e y u he ry
  exact SeqAt.eq_plain r1 r2 (dp_plain d _ hd) (dp_plain e _ he) (by have := Nat.min_le_left d.depth e.depth; omega) ⟨.bl _, H, I, rfl, q⟩
theorem op_neP {X : Cx} (hu : X.A.units + 64 < cLine) : OpR X (compareOp .NotEq) (rNeP X.K) := by
  intro pz s σ H x y v u Q I rx ry h
  obtain ⟨d, e, hd, he, hz, q⟩ := h
  obtain ⟨la, r1⟩ := Dp.reads I d x v hd rx
  obtain ⟨lb, r2⟩ := Dp.reads I e y u he ry
  exact SeqAt.ne_plain r1 r2 (dp_plain d _ hd) (dp_plain e _ he) (by have := Nat.min_le_left d.depth e.depth; omega) ⟨.bl _, H, I, rfl, q⟩
theorem e_eqP (ha : EX G a ρ d1 ρ1) (hb : EX G b ρ1 d2 ρ2) (hz : d1.depth ≤ 60) : EX G (.Compare a [.Eq] [b] pos) ρ (.bool (PyData.eqv d1 d2)) ρ2 := fun X F => PEw (pe_cmpR (op_eqP (room_units F)) (ha X F) (hb X F) (nomark _)) fun σ H Q ⟨B, S, h, k⟩ =>
  seq2 h fun v1 v2 S2 H2 h2 r1 r2 => by rw [F.K]; exact ⟨d1, d2, Dpm r1 h2.sub, Dpm r2 h2.sub, hz, k _ S2 H2 h2 (.bl _)⟩
theorem e_neP (ha : EX G a ρ d1 ρ1) (hb : EX G b ρ1 d2 ρ2) (hz : d1.depth ≤ 60) : EX G (.Compare a [.NotEq] [b] pos) ρ (.bool (!PyData.eqv d1 d2)) ρ2 := fun X F => PEw (pe_cmpR (op_neP (room_units F)) (ha X F) (hb X F) (nomark _)) fun σ H Q ⟨B, S, h, k⟩ =>
  seq2 h fun v1 v2 S2 H2 h2 r1 r2 => by rw [F.K]; exact ⟨d1, d2, Dpm r1 h2.sub, Dpm r2 h2.sub, hz, k _ S2 H2 h2 (.bl _)⟩
theorem t_eqP (ha : EX G a ρ d1 ρ1) (hb : EX G b ρ1 d2 ρ2) (hz : d1.depth ≤ 60) : TX G (.Compare a [.Eq] [b] pos) ρ (PyData.eqv d1 d2) ρ2 := fun X F => PTw' (pt_cmpR (op_eqP (room_units F)) (ha X F) (hb X F) (nomark _)) fun σ H Q ⟨B, S, h, k⟩ =>
  seq2 h fun v1 v2 S2 H2 h2 r1 r2 => by rw [F.K]; exact ⟨d1, d2, Dpm r1 h2.sub, Dpm r2 h2.sub, hz, _, rfl, k S2 H2 h2⟩
theorem t_neP (ha : EX G a ρ d1 ρ1) (hb : EX G b ρ1 d2 ρ2) (hz : d1.depth ≤ 60) : TX G (.Compare a [.NotEq] [b] pos) ρ (!PyData.eqv d1 d2) ρ2 := fun X F => PTw' (pt_cmpR (op_neP (room_units F)) (ha X F) (hb X F) (nomark _)) fun σ H Q ⟨B, S, h, k⟩ =>
  seq2 h fun v1 v2 S2 H2 h2 r1 r2 => by rw [F.K]; exact ⟨d1, d2, Dpm r1 h2.sub, Dpm r2 h2.sub, hz, _, rfl, k S2 H2 h2⟩
/-- order of ints, as a test, as a value -/
theorem t_lt {i j : Int} (ha : EX G a ρ (.int i) ρ1) (hb : EX G b ρ1 (.int j) ρ2) : TX G (.Compare a [.Lt] [b] pos) ρ (decide (i < j)) ρ2 := fun X F => PTw' (pt_cmpR op_lt (ha X F) (hb X F) (nomark _)) fun σ H Q ⟨B, S, h, k⟩ =>
  seq2 h fun v1 v2 S2 H2 h2 r1 r2 => by cases r1; cases r2; exact ⟨i, j, rfl, rfl, _, rfl, k S2 H2 h2⟩
theorem t_le {i j : Int} (ha : EX G a ρ (.int i) ρ1) (hb : EX G b ρ1 (.int j) ρ2) : TX G (.Compare a [.LtE] [b] pos) ρ (decide (i ≤ j)) ρ2 := fun X F => PTw' (pt_cmpR op_le (ha X F) (hb X F) (nomark _)) fun σ H Q ⟨B, S, h, k⟩ =>
  seq2 h fun v1 v2 S2 H2 h2 r1 r2 => by cases r1; cases r2; exact ⟨i, j, rfl, rfl, _, rfl, k S2 H2 h2⟩
theorem t_gt {i j : Int} (ha : EX G a ρ (.int i) ρ1) (hb : EX G b ρ1 (.int j) ρ2) : TX G (.Compare a [.Gt] [b] pos) ρ (decide (j < i)) ρ2 := fun X F => PTw' (pt_cmpR op_gt (ha X F) (hb X F) (nomark _)) fun σ H Q ⟨B, S, h, k⟩ =>
  seq2 h fun v1 v2 S2 H2 h2 r1 r2 => by cases r1; cases r2; exact ⟨i, j, rfl, rfl, _, rfl, k S2 H2 h2⟩
theorem t_ge {i j : Int} (ha : EX G a ρ (.int i) ρ1) (hb : EX G b ρ1 (.int j) ρ2) : TX G (.Compare a [.GtE] [b] pos) ρ (decide (j ≤ i)) ρ2 := fun X F => PTw' (pt_cmpR op_ge (ha X F) (hb X F) (nomark _)) fun σ H Q ⟨B, S, h, k⟩ =>
  seq2 h fun v1 v2 S2 H2 h2 r1 r2 => by cases r1; cases r2; exact ⟨i, j, rfl, rfl, _, rfl, k S2 H2 h2⟩
theorem e_lt {i j : Int} (ha : EX G a ρ (.int i) ρ1) (hb : EX G b ρ1 (.int j) ρ2) : EX G (.Compare a [.Lt] [b] pos) ρ (.bool (decide (i < j))) ρ2 := fun X F => PEw (pe_cmpR op_lt (ha X F) (hb X F) (nomark _)) fun σ H Q ⟨B, S, h, k⟩ =>
  seq2 h fun v1 v2 S2 H2 h2 r1 r2 => by cases r1; cases r2; exact ⟨i, j, rfl, rfl, k _ S2 H2 h2 (.bl _)⟩
/-- is None -/
def isNone : PyData → Bool
  | .none => true
  | _ => false
theorem non_iff {K : PySem.W.Frag} {H : Hp} {v : V} (h : Dp K H v d) : decide (v = .non) = isNone d := by
  cases h <;> rfl
theorem t_isN {j} {p' : Pos} (ha : EX G a ρ d ρ1) : TX G (.Compare a [.Is] [.Constant .none j p'] pos) ρ (isNone d) ρ1 := fun X F => PTw' (pt_cmpR op_isN (ha X F) pe_non (nomark _)) fun σ H Q ⟨B, S, h, k⟩ =>
  ⟨B, S, h, fun v S1 H1 h1 r1 => ⟨rfl, _, rfl, by rw [non_iff r1]; exact k S1 H1 h1⟩⟩
theorem t_notN {j} {p' : Pos} (ha : EX G a ρ d ρ1) : TX G (.Compare a [.IsNot] [.Constant .none j p'] pos) ρ (!isNone d) ρ1 := fun X F => PTw' (pt_cmpR op_notN (ha X F) pe_non (nomark _)) fun σ H Q ⟨B, S, h, k⟩ =>
  ⟨B, S, h, fun v S1 H1 h1 r1 => ⟨rfl, _, rfl, by rw [non_iff r1]; exact k S1 H1 h1⟩⟩
theorem e_notN {j} {p' : Pos} (ha : EX G a ρ d ρ1) : EX G (.Compare a [.IsNot] [.Constant .none j p'] pos) ρ (.bool (!isNone d)) ρ1 := fun X F => PEw (pe_cmpR op_notN (ha X F) pe_non (nomark _)) fun σ H Q ⟨B, S, h, k⟩ =>
  ⟨B, S, h, fun v S1 H1 h1 r1 => ⟨rfl, by rw [non_iff r1]; exact k _ S1 H1 h1 (.bl _)⟩⟩
/-- texts in texts -/
theorem t_inS {i j : Str} (ha : EX G a ρ (.str i) ρ1) (hb : EX G b ρ1 (.str j) ρ2) (hm : behindInMarks .In b = false := by rfl) : TX G (.Compare a [.In] [b] pos) ρ (!(Builtin.Str.occurrences j i 0 j.length 1).isEmpty) ρ2 := fun X F => PTw' (pt_cmpR op_in_str (ha X F) (hb X F) hm) fun σ H Q ⟨B, S, h, k⟩ =>
  seq2 h fun v1 v2 S2 H2 h2 r1 r2 => by cases r1; cases r2; exact ⟨i, j, rfl, rfl, _, rfl, k S2 H2 h2⟩
theorem e_inS {i j : Str} (ha : EX G a ρ (.str i) ρ1) (hb : EX G b ρ1 (.str j) ρ2) (hm : behindInMarks .In b = false := by rfl) : EX G (.Compare a [.In] [b] pos) ρ (.bool (!(Builtin.Str.occurrences j i 0 j.length 1).isEmpty)) ρ2 := fun X F => PEw (pe_cmpR op_in_str (ha X F) (hb X F) hm) fun σ H Q ⟨B, S, h, k⟩ =>
  seq2 h fun v1 v2 S2 H2 h2 r1 r2 => by cases r1; cases r2; exact ⟨i, j, rfl, rfl, k _ S2 H2 h2 (.bl _)⟩
/-- data in a list -/
def rInP (K : PySem.W.Frag) : R2 := fun x y H Q => ∃ d ds, Dp K H x d ∧ Dp K H y (.list ds) ∧ d.depth ≤ 60 ∧ Q (.bl (ds.any fun z => PyData.eqv z d)) H
def rNotInP (K : PySem.W.Frag) : R2 := fun x y H Q => ∃ d ds, Dp K H x d ∧ Dp K H y (.list ds) ∧ d.depth ≤ 60 ∧ Q (.bl (!ds.any fun z => PyData.eqv z d)) H
theorem op_inP {X : Cx} (hu : X.A.units + 64 < cLine) : OpR X (compareOp .In) (rInP X.K) := by
  intro pz s σ H x y v u Q I rx ry h
  obtain ⟨d, ds, hd, he, hz, q⟩ := h
  obtain ⟨la, r1⟩ := Dp.reads I d x v hd rx
  obtain ⟨lb, r2⟩ := Dp.reads I (.list ds) y u he ry
  have hp : PyData.plainAll ds = true := by have := dp_plain _ _ he; simpa [PyData.plain] using this
  exact SeqAt.in_list_data r2 r1 hp (dp_plain d _ hd) (by have := Nat.min_le_right (PyData.depthAll ds) d.depth; omega) ⟨.bl _, H, I, rfl, q⟩
theorem op_notInP {X : Cx} (hu : X.A.units + 64 < cLine) : OpR X (compareOp .NotIn) (rNotInP X.K) := by
  intro pz s σ H x y v u Q I rx ry h
  obtain ⟨d, ds, hd, he, hz, q⟩ := h
  obtain ⟨la, r1⟩ := Dp.reads I d x v hd rx
  obtain ⟨lb, r2⟩ := Dp.reads I (.list ds) y u he ry
  have hp : PyData.plainAll ds = true := by have := dp_plain _ _ he; simpa [PyData.plain] using this
  exact SeqAt.notIn_list_data r2 r1 hp (dp_plain d _ hd) (by have := Nat.min_le_right (PyData.depthAll ds) d.depth; omega) ⟨.bl _, H, I, rfl, q⟩
theorem t_inL (ha : EX G a ρ d ρ1) (hb : EX G b ρ1 (.list ds) ρ2) (hz : d.depth ≤ 60) (hm : behindInMarks .In b = false := by rfl) : TX G (.Compare a [.In] [b] pos) ρ (ds.any fun z => PyData.eqv z d) ρ2 := fun X F => PTw' (pt_cmpR (op_inP (room_units F)) (ha X F) (hb X F) hm) fun σ H Q ⟨B, S, h, k⟩ =>
  seq2 h fun v1 v2 S2 H2 h2 r1 r2 => by rw [F.K]; exact ⟨d, ds, Dpm r1 h2.sub, Dpm r2 h2.sub, hz, _, rfl, k S2 H2 h2⟩
theorem t_notInL (ha : EX G a ρ d ρ1) (hb : EX G b ρ1 (.list ds) ρ2) (hz : d.depth ≤ 60) (hm : behindInMarks .NotIn b = false := by rfl) : TX G (.Compare a [.NotIn] [b] pos) ρ (!ds.any fun z => PyData.eqv z d) ρ2 := fun X F => PTw' (pt_cmpR (op_notInP (room_units F)) (ha X F) (hb X F) hm) fun σ H Q ⟨B, S, h, k⟩ =>
  seq2 h fun v1 v2 S2 H2 h2 r1 r2 => by rw [F.K]; exact ⟨d, ds, Dpm r1 h2.sub, Dpm r2 h2.sub, hz, _, rfl, k S2 H2 h2⟩
/-- chains of ints -/
theorem seq3 {K : PySem.W.Frag} {B : Bs} {S H : Hp} {σ : L2.St} {R : V → V → V → Hp → Prop} (h : Ab K B S H σ ρ) (k : ∀ v1 v2 v3 S2 H2, Ab K B S2 H2 σ ρ3 → Dp K S2 v1 d1 → Dp K S2 v2 d2 → Dp K S2 v3 d3 → R v1 v2 v3 H2) :
    tE K ρ d1 ρ1 σ H fun x H1 => tE K ρ1 d2 ρ2 σ H1 fun y H2 => tE K ρ2 d3 ρ3 σ H2 fun z H3 => R x y z H3 :=
  ⟨B, S, h, fun v1 S1 H1 h1 r1 => ⟨cut S1 H1 ρ1, S1, h1.here, fun v2 S2 H2 h2 r2 => ⟨cut S2 H2 ρ2, S2, h2.here, fun v3 S3 H3 h3 r3 => k v1 v2 v3 S3 H3 (h1.trans (h2.trans h3)) (Dpm r1 (h2.s0.trans h3.s0)) (Dpm r2 h3.s0) r3⟩⟩⟩
/-- i <= j <= k, i <= j < k -/
theorem e_chLL {i j l : Int} (ha : EX G a ρ (.int i) ρ1) (hb : EX G b ρ1 (.int j) ρ2) (hc : EX G c ρ2 (.int l) ρ2) (hm : lastMarks [.LtE, .LtE] [b, c] = false := by with_unfolding_all rfl) :
    EX G (.Compare a [.LtE, .LtE] [b, c] pos) ρ (.bool (decide (i ≤ j) && decide (j ≤ l))) ρ2 := fun X F => PEw (pe_chain op_le op_le (ha X F) (hb X F) (hc X F) hm) fun σ H Q ⟨B, S, h, k⟩ =>
  seq2 h fun v1 v2 S2 H2 h2 r1 r2 => by
    cases r1; cases r2
    refine ⟨i, j, rfl, rfl, _, rfl, ?_⟩
    by_cases e : i ≤ j
    · rw [decide_eq_true e]
      refine iteT ⟨cut S2 H2 ρ2, S2, h2.here, fun v3 S3 H3 h3 r3 => ?_⟩
      cases r3
      refine ⟨j, l, rfl, rfl, ?_⟩
      rw [decide_eq_true e, Bool.true_and] at k
      exact k _ S3 H3 (h2.trans h3) (.bl _)
    · rw [decide_eq_false e]
      rw [decide_eq_false e, Bool.false_and] at k
      exact iteF (k _ S2 H2 h2 (.bl _))
theorem t_chLT {i j l : Int} (ha : EX G a ρ (.int i) ρ1) (hb : EX G b ρ1 (.int j) ρ2) (hc : EX G c ρ2 (.int l) ρ2) (hm : lastMarks [.LtE, .Lt] [b, c] = false := by with_unfolding_all rfl) :
    TX G (.Compare a [.LtE, .Lt] [b, c] pos) ρ (decide (i ≤ j) && decide (j < l)) ρ2 := fun X F => PTw' (pt_chain op_le op_lt (ha X F) (hb X F) (hc X F) hm) fun σ H Q ⟨B, S, h, k⟩ =>
  seq2 h fun v1 v2 S2 H2 h2 r1 r2 => by
    cases r1; cases r2
    refine ⟨i, j, rfl, rfl, _, rfl, ?_⟩
    by_cases e : i ≤ j
    · rw [decide_eq_true e]
      refine iteT ⟨cut S2 H2 ρ2, S2, h2.here, fun v3 S3 H3 h3 r3 => ?_⟩
      cases r3
      refine ⟨j, l, rfl, rfl, _, rfl, ?_⟩
      rw [decide_eq_true e, Bool.true_and] at k
      exact k S3 H3 (h2.trans h3)
    · rw [decide_eq_false e]
      rw [decide_eq_false e, Bool.false_and] at k
      exact iteF ⟨_, rfl, k S2 H2 h2⟩
/-! ### and, or, not -/
theorem t_val {b1 : Bool} (h : EX G e ρ (.bool b1) ρ1) (he : ∀ (env : Env) (whole : Sem Value), isTrue e env whole = (do let v ← whole; standAt e.pos; holding [v] (truthy v)) := by intro _ _; rfl) : TX G e ρ b1 ρ1 := fun X F => PTw' (pt_val (h X F) (he _)) fun σ H Q ⟨B, S, h, k⟩ =>
  ⟨B, S, h, fun v S1 H1 h1 r1 => by cases r1; exact ⟨b1, rfl, k S1 H1 h1⟩⟩
theorem t_w {b1 : Bool} (h : WX G e ρ b1 ρ1) : TX G e ρ b1 ρ1 := fun X F => (h X F).pt
theorem w_and1 {b1 : Bool} (h : TX G a ρ b1 ρ1) : WX G (.BoolOp .And [a] pos) ρ b1 ρ1 := fun X F => pw_and1 (h X F)
theorem w_or1 {b1 : Bool} (h : TX G a ρ b1 ρ1) : WX G (.BoolOp .Or [a] pos) ρ b1 ρ1 := fun X F => pw_or1 (h X F)
theorem w_andT {b1 : Bool} (h : TX G a ρ true ρ1) (h2 : WX G (.BoolOp .And (b :: es) pos) ρ1 b1 ρ2) : WX G (.BoolOp .And (a :: b :: es) pos) ρ b1 ρ2 := fun X F => PWw (pw_and (h X F) (h2 X F)) fun σ H Q ⟨B, S, h, k⟩ =>
  ⟨B, S, h, fun S1 H1 h1 => iteT ⟨B, S1, h1, k⟩⟩
theorem w_andF (h : TX G a ρ false ρ1) : WX G (.BoolOp .And (a :: b :: es) pos) ρ false ρ1 := fun X F => PWw (pw_and (h X F) (tB' := fun _ _ _ => False) ⟨fun _ _ _ _ _ _ _ z => z.elim⟩) fun σ H Q ⟨B, S, h, k⟩ =>
  ⟨B, S, h, fun S1 H1 h1 => iteF (k S1 H1 h1)⟩
theorem w_orF {b1 : Bool} (h : TX G a ρ false ρ1) (h2 : WX G (.BoolOp .Or (b :: es) pos) ρ1 b1 ρ2) : WX G (.BoolOp .Or (a :: b :: es) pos) ρ b1 ρ2 := fun X F => PWw (pw_or (h X F) (h2 X F)) fun σ H Q ⟨B, S, h, k⟩ =>
  ⟨B, S, h, fun S1 H1 h1 => iteF ⟨B, S1, h1, k⟩⟩
theorem w_orT (h : TX G a ρ true ρ1) : WX G (.BoolOp .Or (a :: b :: es) pos) ρ true ρ1 := fun X F => PWw (pw_or (h X F) (tB' := fun _ _ _ => False) ⟨fun _ _ _ _ _ _ _ z => z.elim⟩) fun σ H Q ⟨B, S, h, k⟩ =>
  ⟨B, S, h, fun S1 H1 h1 => iteT (k S1 H1 h1)⟩
/-- where nothing changes -/
theorem w_and {b1 b2 : Bool} (h : TX G a ρ b1 ρ) (h2 : b1 = true → WX G (.BoolOp .And (b :: es) pos) ρ b2 ρ) : WX G (.BoolOp .And (a :: b :: es) pos) ρ (b1 && b2) ρ := by
  cases b1 with
  | true => exact w_andT h (h2 rfl)
  | false => exact w_andF h
theorem w_or {b1 b2 : Bool} (h : TX G a ρ b1 ρ) (h2 : b1 = false → WX G (.BoolOp .Or (b :: es) pos) ρ b2 ρ) : WX G (.BoolOp .Or (a :: b :: es) pos) ρ (b1 || b2) ρ := by
  cases b1 with
  | true => exact w_orT h
  | false => exact w_orF h (h2 rfl)
theorem t_not {b1 : Bool} (h : TX G a ρ b1 ρ1) : TX G (.UnaryOp .Not a pos) ρ (!b1) ρ1 := fun X F => PTw' (pt_not (h X F)) fun σ H Q ⟨B, S, h, k⟩ => ⟨B, S, h, k⟩
theorem e_one {op} (h : EX G a ρ d ρ1) : EX G (.BoolOp op [a] pos) ρ d ρ1 := fun X F => pe_one (h X F)
theorem e_andT (h : EX G a ρ (.bool true) ρ1) (h2 : EX G (.BoolOp .And (b :: es) pos) ρ1 d ρ2) : EX G (.BoolOp .And (a :: b :: es) pos) ρ d ρ2 := fun X F => PEw (pe_and (h X F) (h2 X F)) fun σ H Q ⟨B, S, h, k⟩ =>
  ⟨B, S, h, fun v S1 H1 h1 r1 => by cases r1; exact ⟨true, rfl, iteT ⟨B, S1, h1, k⟩⟩⟩
theorem e_andF (h : EX G a ρ (.bool false) ρ1) : EX G (.BoolOp .And (a :: b :: es) pos) ρ (.bool false) ρ1 := fun X F => PEw (pe_and (h X F) (tb := fun _ _ _ => False) ⟨fun _ _ _ _ _ _ z => z.elim⟩) fun σ H Q ⟨B, S, h, k⟩ =>
  ⟨B, S, h, fun v S1 H1 h1 r1 => by cases r1; exact ⟨false, rfl, iteF (k _ S1 H1 h1 (.bl _))⟩⟩
theorem e_orF (h : EX G a ρ (.bool false) ρ1) (h2 : EX G (.BoolOp .Or (b :: es) pos) ρ1 d ρ2) : EX G (.BoolOp .Or (a :: b :: es) pos) ρ d ρ2 := fun X F => PEw (pe_or (h X F) (h2 X F)) fun σ H Q ⟨B, S, h, k⟩ =>
  ⟨B, S, h, fun v S1 H1 h1 r1 => by cases r1; exact ⟨false, rfl, iteF ⟨B, S1, h1, k⟩⟩⟩
theorem e_orT (h : EX G a ρ (.bool true) ρ1) : EX G (.BoolOp .Or (a :: b :: es) pos) ρ (.bool true) ρ1 := fun X F => PEw (pe_or (h X F) (tb := fun _ _ _ => False) ⟨fun _ _ _ _ _ _ z => z.elim⟩) fun σ H Q ⟨B, S, h, k⟩ =>
  ⟨B, S, h, fun v S1 H1 h1 r1 => by cases r1; exact ⟨true, rfl, iteT (k _ S1 H1 h1 (.bl _))⟩⟩
theorem e_and {b1 b2 : Bool} (h : EX G a ρ (.bool b1) ρ) (h2 : b1 = true → EX G (.BoolOp .And (b :: es) pos) ρ (.bool b2) ρ) : EX G (.BoolOp .And (a :: b :: es) pos) ρ (.bool (b1 && b2)) ρ := by
  cases b1 with
  | true => exact e_andT h (h2 rfl)
  | false => exact e_andF h
theorem e_or {b1 b2 : Bool} (h : EX G a ρ (.bool b1) ρ) (h2 : b1 = false → EX G (.BoolOp .Or (b :: es) pos) ρ (.bool b2) ρ) : EX G (.BoolOp .Or (a :: b :: es) pos) ρ (.bool (b1 || b2)) ρ := by
  cases b1 with
  | true => exact e_orT h
  | false => exact e_orF h (h2 rfl)
theorem e_not {b1 : Bool} (h : EX G a ρ (.bool b1) ρ1) : EX G (.UnaryOp .Not a pos) ρ (.bool (!b1)) ρ1 := fun X F => PEw (pe_not (h X F)) fun σ H Q ⟨B, S, h, k⟩ =>
  ⟨B, S, h, fun v S1 H1 h1 r1 => by cases r1; exact ⟨b1, rfl, k _ S1 H1 h1 (.bl _)⟩⟩
theorem e_if {b1 : Bool} (h : TX G c ρ b1 ρ1) (hT : b1 = true → EX G a ρ1 d ρ2) (hF : b1 = false → EX G b ρ1 d ρ2) : EX G (.IfExp c a b pos) ρ d ρ2 := by
  cases b1 with
  | true => exact fun X F => PEw (pe_ifExp (h X F) (hT rfl X F) (tb := fun _ _ _ => False) ⟨fun _ _ _ _ _ _ z => z.elim⟩) fun σ H Q ⟨B, S, h, k⟩ => ⟨B, S, h, fun S1 H1 h1 => iteT ⟨B, S1, h1, k⟩⟩
  | false => exact fun X F => PEw (pe_ifExp (h X F) (ta := fun _ _ _ => False) ⟨fun _ _ _ _ _ _ z => z.elim⟩ (hF rfl X F)) fun σ H Q ⟨B, S, h, k⟩ => ⟨B, S, h, fun S1 H1 h1 => iteF ⟨B, S1, h1, k⟩⟩
/-! ### arguments, displays -/
theorem star_cons {env : Env} (h : notStar e = true) : starEach (e :: es) env = (false, eval e env) :: starEach es env := by
  cases e <;> first | rfl | cases h
theorem star_any : ∀ {es : List Expr} {env : Env} {q : Pos}, es.all notStar = true → (backTo q (starEach es env)).any (·.1) = false
  | [], _, _, _ => rfl
  | e :: es, env, q, h => by
    obtain ⟨h1, h2⟩ := Bool.and_eq_true_iff.mp h
    rw [star_cons h1]
    exact star_any (es := es) (env := env) (q := q) h2
theorem a_nil : AX G [] ρ [] ρ := ⟨rfl, fun X F => PAw pa_nil fun σ H Q ⟨B, S, h, k⟩ => k [] S H h .nil⟩
theorem a_cons (h : EX G e ρ d ρ1) (h2 : AX G es ρ1 ds ρ2) (hs : notStar e = true := by rfl) : AX G (e :: es) ρ (d :: ds) ρ2 := ⟨by rw [List.all_cons, hs, h2.1]; rfl, fun X F => PAw (pa_cons (h X F) (h2.2 X F) (star_cons hs)) fun σ H Q ⟨B, S, h, k⟩ =>
  ⟨B, S, h, fun v S1 H1 h1 r1 => ⟨cut S1 H1 ρ1, S1, h1.here, fun vs S2 H2 h2 r2 => k (v :: vs) S2 H2 (h1.trans h2) (.cons (Dpm r1 h2.s0) r2)⟩⟩⟩
theorem e_tup {j} (h : AX G es ρ ds ρ1) (hz : ds.length ≤ 1000 := by exact Nat.le_of_ble_eq_true rfl) : EX G (.Tuple es j pos) ρ (.tuple ds) ρ1 := fun X F => PEw (pe_tup (h.2 X F)) fun σ H Q ⟨B, S, h, k⟩ =>
  ⟨B, S, h, fun vs S1 H1 h1 r1 => ⟨by rw [dpa_len r1]; exact Nat.le_of_lt (small1000 hz), fun p hp => by
    have n := Nw.one (o := .tup vs) h1.sub hp
    exact k _ _ _ (h1.grow n) (.tup (.of upd_same) (Dpam r1 n.ss))⟩⟩
theorem e_lst (h : AX G es ρ ds ρ1) (hz : ds.length ≤ 1000 := by exact Nat.le_of_ble_eq_true rfl) : EX G (.List es pos) ρ (.list ds) ρ1 := fun X F => PEw (pe_lst (h.2 X F)) fun σ H Q ⟨B, S, h, k⟩ =>
  ⟨B, S, h, fun vs S1 H1 h1 r1 => ⟨by rw [dpa_len r1]; exact Nat.le_of_lt (small1000 hz), fun p hp => by
    have n := Nw.one (o := .lst vs) h1.sub hp
    exact k _ _ _ (h1.grow n) (.lst (.of upd_same) (Dpam r1 n.ss))⟩⟩
end
end Sg
namespace Sg
open PySem PySem.Spec PyProof.Rows L2
/-! ### promises -/
def spP (K : PySem.W.Frag) (R : List PyData → PyData → Prop) : Sp := fun vs H Q _ => ∃ S ds d, Same S H ∧ DpAll K S vs ds ∧ R ds d ∧ ∀ v S' H', Nw S H S' H' → Dp K S' v d → Q v H'
/-- the first argument a list that is changed -/
def spB (K : PySem.W.Frag) (R : List PyData → List PyData → PyData → List PyData → Prop) : Sp := fun vs H Q _ => ∃ S b ws bs ds d bs', vs = .ref b :: ws ∧ Ab K ⟨S, H, fun a => a = b⟩ S H [some (.ref b)] [.mut b bs] ∧ DpAll K S ws ds ∧ R bs ds d bs' ∧
  ∀ v S' H', Ab K ⟨S, H, fun a => a = b⟩ S' H' [some (.ref b)] [.mut b bs'] → Dp K S' v d → Q v H'
/-- a def of the module that keeps a promise -/
def Has (P : Program) (w : World) (K : PySem.W.Frag) (mg : Str → Option Value) (base : Heap) (x : Str) (k : Nat) (sp : Sp) : Prop :=
  ∃ f fd ps, FnOk P w K mg base CX0 k f fd ps sp ∧ mg x = some (.ref f) ∧ PySem.W.keepIn K (.ref f) = true ∧ Binds K fd ps []
section
variable {G : Gam} {e a b c o : Expr} {es : List Expr} {ρ ρ1 ρ2 ρ3 : List Sl} {d d1 d2 d3 : PyData} {ds : List PyData} {pos p p2 apos : Pos} {x name : Str}
/-! ### calls -/
theorem e_call {j : Nat} {R : List PyData → PyData → Prop} (F : Has G.P G.w G.K G.mg G.base x j (spP G.K R)) (ha : AX G (e :: es) ρ ds ρ1) (hR : R ds d) (hj : j ≤ G.k := by exact Nat.le_of_ble_eq_true rfl) (hg : G.sc.names.lookup x = some .globalImplicit := by rfl) (hd : (x == ("__debug__" : Str)) = false := by decide) :
    EX G (.Call (.Name x p) (e :: es) [] pos) ρ d ρ1 := fun X F' => by
  obtain ⟨f, fd, ps, F, hm, hk, hb⟩ := F
  obtain ⟨n1, n2⟩ := Bool.and_eq_true_iff.mp ha.1
  refine PEw (pe_call (CX := CX0) (k := j) (E := E0) (by rw [F'.prog, F'.w, F'.K, F'.mg, F'.base]; exact F) (F'.room.mono hj) (show X.env.scope.names.lookup x = _ by rw [F'.sc]; exact hg) (by rw [F'.mg]; exact hm) (by rw [F'.K]; exact hk) (by rw [F'.K]; exact hb) .nil pass0 (ha.2 X F') hd (star_cons n1) (star_any n2)) fun σ H Q ⟨B, S, h, k⟩ => ?_
  refine ⟨B, S, h, fun vs S1 H1 h1 r1 => ?_⟩
  refine ⟨S1, ds, d, h1.sub, by rw [List.append_nil]; exact r1, hR, fun v S2 H2 n r2 => k v S2 H2 (h1.grow n) r2⟩
theorem Ab.callB {K : PySem.W.Frag} {B : Bs} {S H S2 H2 : Hp} {σ : L2.St} {i : Nat} {b1 : Addr} {bs bs' : List PyData} (h : Ab K B S H σ ρ) (hi : ρ[i]? = some (.mut b1 bs)) (h2 : Ab K ⟨S, H, fun a => a = b1⟩ S2 H2 [some (.ref b1)] [.mut b1 bs']) : Ab K B S2 H2 σ (ρ.set i (.mut b1 bs')) := by
  obtain ⟨q1, q2, q3, vs, q4, q5⟩ := h.mt i b1 bs hi
  obtain ⟨p1, p2, _, ws, p4, p5⟩ := h2.mt 0 b1 bs' rfl
  have hh : ∀ a o, a ≠ b1 → H a = some o → H2 a = some o := fun a o n e => h2.fr a o n e
  have ss : Same S S2 := h2.s0
  refine ⟨h2.sub, h.s0.trans ss, fun a o hm e => ?_, fun a e => h.dom a (h2.dom a e), fun a e1 e2 => h2.new a (fun z => e1 (h.dom a z)) (h.new a e1 e2), by simp [h.len], fun j d hj => ?_, fun j a es hj => ?_, fun j k a es fs hj hk => ?_⟩
  · have : a ≠ b1 := by
      rintro rfl
      rcases q3 with q3 | q3
      · exact hm q3
      · rw [e] at q3; cases q3
    exact hh a o this (h.fr _ _ hm e)
  · rcases get_set hj with ⟨rfl, e1, hl⟩ | ⟨hn, e1⟩
    · cases e1
    · obtain ⟨u, u1, u2⟩ := h.dat j d e1
      exact ⟨u, u1, Dpm u2 ss⟩
  · rcases get_set hj with ⟨rfl, e1, hl⟩ | ⟨hn, e1⟩
    · cases e1
      exact ⟨q1, p2, q3, ws, p4, p5⟩
    · obtain ⟨u1, u2, u3, us, u4, u5⟩ := h.mt j a es e1
      have : a ≠ b1 := by
        rintro rfl
        exact hn (h.sep _ _ _ _ _ hi e1)
      exact ⟨u1, h2.new a (by show H a ≠ none; rw [u4]; intro z; cases z) u2, u3, us, hh _ _ this u4, Dpam u5 ss⟩
  · rcases get_set hj with ⟨rfl, e1, hl⟩ | ⟨hn, e1⟩
    · cases e1
      rcases get_set hk with ⟨rfl, e2, hl⟩ | ⟨hn2, e2⟩
      · rfl
      · exact h.sep _ _ _ _ _ hi e2
    · rcases get_set hk with ⟨rfl, e2, hl⟩ | ⟨hn2, e2⟩
      · cases e2
        exact h.sep _ _ _ _ _ e1 hi
      · exact h.sep _ _ _ _ _ e1 e2
/-- a call that changes the list in slot i, its first argument -/
theorem e_callB {j : Nat} (i : Nat) {b1 : Addr} {y : Str} {bs0 bs bs' : List PyData} {R : List PyData → List PyData → PyData → List PyData → Prop} (F : Has G.P G.w G.K G.mg G.base x j (spB G.K R)) (ha : AX G es ρ ds ρ1) (h0 : ρ[i]? = some (.mut b1 bs0) := by rfl) (hi : ρ1[i]? = some (.mut b1 bs) := by rfl) (hR : R bs ds d bs')
    (hN : G.N[i]? = some y := by rfl) (hv : visB G.sc y = true := by rfl) (hj : j ≤ G.k := by exact Nat.le_of_ble_eq_true rfl) (hg : G.sc.names.lookup x = some .globalImplicit := by rfl) (hd : (x == ("__debug__" : Str)) = false := by decide) (hd2 : (y == ("__debug__" : Str)) = false := by decide) (hcd : (y == ("__classdict__" : Str)) = false := by decide) :
    EX G (.Call (.Name x p) (.Name y p2 :: es) [] pos) ρ d (ρ1.set i (.mut b1 bs')) := fun X F' => by
  obtain ⟨f, fd, ps, F, hm, hk, hb⟩ := F
  have pv0 : PE X (.Name y p2) (tVar i) := pe_var (i := i) (by rw [F'.N]; exact hN) (by rw [F'.sc]; exact visB_ok hv) hd2 hcd
  refine PEw (pe_call (CX := CX0) (k := j) (E := E0) (by rw [F'.prog, F'.w, F'.K, F'.mg, F'.base]; exact F) (F'.room.mono hj) (show X.env.scope.names.lookup x = _ by rw [F'.sc]; exact hg) (by rw [F'.mg]; exact hm) (by rw [F'.K]; exact hk) (by rw [F'.K]; exact hb) .nil pass0 (pa_cons pv0 (ha.2 X F')) hd rfl (star_any ha.1)) fun σ H Q ⟨B, S, h, k⟩ => ?_
  obtain ⟨q1, _⟩ := h.mt i b1 bs0 h0
  refine ⟨.ref b1, q1, B, S, h, fun vs S1 H1 h1 r1 => ?_⟩
  obtain ⟨z1, z2, z3, ws, z4, z5⟩ := h1.mt i b1 bs hi
  refine ⟨S1, b1, vs, bs, ds, d, bs', by rw [List.append_nil], ⟨h1.sub, Same.refl _, fun _ _ _ e => e, fun _ e => e, fun _ _ e => e, rfl, fun j d hj => ?_, fun j a es hj => ?_, fun j k a es fs hj hk => ?_⟩, r1, hR, fun v S2 H2 n r2 => k v S2 H2 (h1.callB hi n) r2⟩
  · match j, hj with
    | 0, hj => cases hj
  · match j, hj with
    | 0, hj =>
      cases hj
      exact ⟨rfl, z2, .inl rfl, ws, z4, z5⟩
  · match j, k, hj, hk with
    | 0, 0, _, _ => rfl
/-- a built-in function -/
theorem e_cb {id : String} {r : List V → Hp → VK → Prop} (hc : ∀ X, Fits G X → CallR X (.builtin id) r) (hm : G.mg x = none) (hv : bootBuiltins x = some (.builtin id)) (ha : AX G (e :: es) ρ ds ρ1)
    (sem : ∀ vs S H Q, Same S H → DpAll G.K S vs ds → (∀ v S' H', Nw S H S' H' → Dp G.K S' v d → Q v H') → r vs H Q) (hg : G.sc.names.lookup x = some .globalImplicit := by rfl) (hn : x ≠ "__name__" := by decide) (hd : (x == ("__debug__" : Str)) = false := by decide) :
    EX G (.Call (.Name x p) (e :: es) [] pos) ρ d ρ1 := fun X F => by
  obtain ⟨n1, n2⟩ := Bool.and_eq_true_iff.mp ha.1
  refine PEw (pe_callB (hc X F) (show X.env.scope.names.lookup x = _ by rw [F.sc]; exact hg) (by rw [F.mg]; exact hm) hv (ha.2 X F) hn hd (star_cons n1) (star_any n2)) fun σ H Q ⟨B, S, h, k⟩ => ?_
  exact ⟨B, S, h, fun vs S1 H1 h1 r1 => sem vs S1 H1 _ h1.sub r1 fun v S2 H2 n r2 => k v S2 H2 (h1.grow n) r2⟩
theorem e_cty {T : String} {r : List V → Hp → VK → Prop} (hc : ∀ X, Fits G X → CallR X (.type T) r) (hm : G.mg x = none) (hv : bootBuiltins x = some (.type T)) (ha : AX G (e :: es) ρ ds ρ1)
    (sem : ∀ vs S H Q, Same S H → DpAll G.K S vs ds → (∀ v S' H', Nw S H S' H' → Dp G.K S' v d → Q v H') → r vs H Q) (hg : G.sc.names.lookup x = some .globalImplicit := by rfl) (hn : x ≠ "__name__" := by decide) (hd : (x == ("__debug__" : Str)) = false := by decide) :
    EX G (.Call (.Name x p) (e :: es) [] pos) ρ d ρ1 := fun X F => by
  obtain ⟨n1, n2⟩ := Bool.and_eq_true_iff.mp ha.1
  refine PEw (pe_callTy (hc X F) (show X.env.scope.names.lookup x = _ by rw [F.sc]; exact hg) (by rw [F.mg]; exact hm) hv (ha.2 X F) hn hd (star_cons n1) (star_any n2)) fun σ H Q ⟨B, S, h, k⟩ => ?_
  exact ⟨B, S, h, fun vs S1 H1 h1 r1 => sem vs S1 H1 _ h1.sub r1 fun v S2 H2 n r2 => k v S2 H2 (h1.grow n) r2⟩
theorem dpa1 {K : PySem.W.Frag} {S : Hp} {vs : List V} (h : DpAll K S vs [d]) : ∃ v, vs = [v] ∧ Dp K S v d := by
  cases h with
  | cons h1 h2 => cases h2; exact ⟨_, rfl, h1⟩
theorem dpa2 {K : PySem.W.Frag} {S : Hp} {vs : List V} (h : DpAll K S vs [d1, d2]) : ∃ v u, vs = [v, u] ∧ Dp K S v d1 ∧ Dp K S u d2 := by
  cases h with
  | cons h1 h2 =>
    obtain ⟨u, rfl, h3⟩ := dpa1 h2
    exact ⟨_, u, rfl, h1, h3⟩
/-! ### built-ins -/
def rLenQ (K : PySem.W.Frag) : List V → Hp → VK → Prop := fun xs H Q => ∃ p ys, xs = [.ref p] ∧ (SqL K H p ys ∨ SqT K H p ys) ∧ Q (.int ys.length) H
theorem lenQ (X : Cx) (F : Fits G X) : CallR X (.builtin "len") (rLenQ G.K) := by
  have q := call_len_seq (X := X)
  rw [F.K] at q
  exact q
theorem e_lenT {xs : List PyData} (hm : G.mg "len" = none) (ha : EX G e ρ (.tuple xs) ρ1) (hs : notStar e = true := by rfl) (hg : G.sc.names.lookup ("len" : Str) = some NameKind.globalImplicit := by rfl) : EX G (.Call (.Name "len" p) [e] [] pos) ρ (.int xs.length) ρ1 :=
  e_cb lenQ hm PySem.boot_len (a_cons ha a_nil hs) (fun vs S H Q sh r k => by
    obtain ⟨v, rfl, h1⟩ := dpa1 r
    cases h1 with
    | @tup a ys _ hq hl => exact ⟨a, ys, rfl, .inr (sqT_mono sh hq), by rw [dpa_len hl]; exact k _ S H (.refl sh) (.int _)⟩) hg
theorem e_lenL {xs : List PyData} (hm : G.mg "len" = none) (ha : EX G e ρ (.list xs) ρ1) (hs : notStar e = true := by rfl) (hg : G.sc.names.lookup ("len" : Str) = some NameKind.globalImplicit := by rfl) : EX G (.Call (.Name "len" p) [e] [] pos) ρ (.int xs.length) ρ1 :=
  e_cb lenQ hm PySem.boot_len (a_cons ha a_nil hs) (fun vs S H Q sh r k => by
    obtain ⟨v, rfl, h1⟩ := dpa1 r
    cases h1 with
    | @lst a ys _ hq hl => exact ⟨a, ys, rfl, .inl (sqL_mono sh hq), by rw [dpa_len hl]; exact k _ S H (.refl sh) (.int _)⟩) hg
theorem e_lenS {z : Str} (hm : G.mg "len" = none) (ha : EX G e ρ (.str z) ρ1) (hz : z.length ≤ sizeLine) (hs : notStar e = true := by rfl) (hg : G.sc.names.lookup ("len" : Str) = some NameKind.globalImplicit := by rfl) : EX G (.Call (.Name "len" p) [e] [] pos) ρ (.int z.length) ρ1 :=
  e_cb (fun X F => call_len_str) hm PySem.boot_len (a_cons ha a_nil hs) (fun vs S H Q sh r k => by
    obtain ⟨v, rfl, h1⟩ := dpa1 r
    cases h1
    exact ⟨z, rfl, hz, k _ S H (.refl sh) (.int _)⟩) hg
/-- len of a list that may be changed -/
theorem e_lenM (i : Nat) {y : Str} {b1 : Addr} (hm : G.mg "len" = none) (hr : ρ[i]? = some (.mut b1 ds) := by rfl) (hN : G.N[i]? = some y := by rfl) (hv : visB G.sc y = true := by rfl) (hd : (y == ("__debug__" : Str)) = false := by decide) (hcd : (y == ("__classdict__" : Str)) = false := by decide) (hg : G.sc.names.lookup ("len" : Str) = some NameKind.globalImplicit := by rfl) :
    EX G (.Call (.Name "len" p) [.Name y p2] [] pos) ρ (.int ds.length) ρ := fun X F => by
  have pv0 : PE X (.Name y p2) (tVar i) := pe_var (i := i) (by rw [F.N]; exact hN) (by rw [F.sc]; exact visB_ok hv) hd hcd
  refine PEw (pe_callB (lenQ X F) (show X.env.scope.names.lookup ("len" : Str) = _ by rw [F.sc]; exact hg) (by rw [F.mg]; exact hm) PySem.boot_len (pa_cons pv0 pa_nil)) fun σ H Q ⟨B, S, h, k⟩ => ?_
  obtain ⟨q1, q2, q3, vs, q4, q5⟩ := h.mt i b1 ds hr
  exact ⟨.ref b1, q1, b1, vs, rfl, .inl (.of q4), by rw [dpa_len q5]; exact k _ S H h (.int _)⟩
def rTupQ (K : PySem.W.Frag) : List V → Hp → VK → Prop := fun xs H Q => ∃ p ys, xs = [.ref p] ∧ ((SqL K H p ys ∧ ∀ l, H l = none → Q (.ref l) (upd H l (.tup ys))) ∨ (SqT K H p ys ∧ Q (.ref p) H))
theorem tupQ (X : Cx) (F : Fits G X) : CallR X (.type "tuple") (rTupQ G.K) := by
  have q := call_tuple_of (X := X)
  rw [F.K] at q
  exact q
/-- tuple(a list) -/
theorem e_tuple {xs : List PyData} (hm : G.mg "tuple" = none) (ha : EX G e ρ (.list xs) ρ1) (hs : notStar e = true := by rfl) (hg : G.sc.names.lookup ("tuple" : Str) = some NameKind.globalImplicit := by rfl) : EX G (.Call (.Name "tuple" p) [e] [] pos) ρ (.tuple xs) ρ1 :=
  e_cty tupQ hm PyProof.Rows.boot_tuple (a_cons ha a_nil hs) (fun vs S H Q sh r k => by
    obtain ⟨v, rfl, h1⟩ := dpa1 r
    cases h1 with
    | @lst a ys _ hq hl => exact ⟨a, ys, rfl, .inl ⟨sqL_mono sh hq, fun l hl2 => by
        have n := Nw.one (o := .tup ys) sh hl2
        exact k _ _ _ n (.tup (.of upd_same) (Dpam hl n.ss))⟩⟩) hg
/-- tuple(x), x a list that may be changed -/
theorem e_tupleM (i : Nat) {y : Str} {b1 : Addr} (hm : G.mg "tuple" = none) (hr : ρ[i]? = some (.mut b1 ds) := by rfl) (hN : G.N[i]? = some y := by rfl) (hv : visB G.sc y = true := by rfl) (hd : (y == ("__debug__" : Str)) = false := by decide) (hcd : (y == ("__classdict__" : Str)) = false := by decide) (hg : G.sc.names.lookup ("tuple" : Str) = some NameKind.globalImplicit := by rfl) :
    EX G (.Call (.Name "tuple" p) [.Name y p2] [] pos) ρ (.tuple ds) ρ := fun X F => by
  have pv0 : PE X (.Name y p2) (tVar i) := pe_var (i := i) (by rw [F.N]; exact hN) (by rw [F.sc]; exact visB_ok hv) hd hcd
  refine PEw (pe_callTy (tupQ X F) (show X.env.scope.names.lookup ("tuple" : Str) = _ by rw [F.sc]; exact hg) (by rw [F.mg]; exact hm) PyProof.Rows.boot_tuple (pa_cons pv0 pa_nil)) fun σ H Q ⟨B, S, h, k⟩ => ?_
  obtain ⟨q1, q2, q3, vs, q4, q5⟩ := h.mt i b1 ds hr
  refine ⟨.ref b1, q1, b1, vs, rfl, .inl ⟨.of q4, fun l hl => ?_⟩⟩
  have n := Nw.one (o := .tup vs) h.sub hl
  exact k _ _ _ (h.grow n) (.tup (.of upd_same) (Dpam q5 n.ss))
def rAllQ (K : PySem.W.Frag) : List V → Hp → VK → Prop := fun vs H Q => ∃ (a : Addr) (bs : List Bool), vs = [V.ref a] ∧ SqL K H a (bs.map V.bl) ∧ Q (.bl (bs.all id)) H
theorem e_all {bs : List Bool} (hm : G.mg "all" = none) (ha : EX G e ρ (.list (bs.map PyData.bool)) ρ1) (hs : notStar e = true := by rfl) (hg : G.sc.names.lookup ("all" : Str) = some NameKind.globalImplicit := by rfl) : EX G (.Call (.Name "all" p) [e] [] pos) ρ (.bool (bs.all id)) ρ1 :=
  e_cb (r := rAllQ G.K) (fun X F => by have q := cr_all F.calm; rw [F.K] at q; exact q) hm PyProof.Rows.boot_all (a_cons ha a_nil hs) (fun vs S H Q sh r k => by
    obtain ⟨v, rfl, h1⟩ := dpa1 r
    cases h1 with
    | @lst a ys _ hq hl =>
      have e := dpa_bls_inv hl
      subst e
      exact ⟨a, bs, rfl, sqL_mono sh hq, k _ S H (.refl sh) (.bl _)⟩) hg
def rAnyQ (K : PySem.W.Frag) : List V → Hp → VK → Prop := fun vs H Q => ∃ (a : Addr) (bs : List Bool), vs = [V.ref a] ∧ SqL K H a (bs.map V.bl) ∧ Q (.bl (bs.any id)) H
theorem e_any {bs : List Bool} (hm : G.mg "any" = none) (ha : EX G e ρ (.list (bs.map PyData.bool)) ρ1) (hs : notStar e = true := by rfl) (hg : G.sc.names.lookup ("any" : Str) = some NameKind.globalImplicit := by rfl) : EX G (.Call (.Name "any" p) [e] [] pos) ρ (.bool (bs.any id)) ρ1 :=
  e_cb (r := rAnyQ G.K) (fun X F => by have q := cr_any F.calm; rw [F.K] at q; exact q) hm PyProof.Rows.boot_any (a_cons ha a_nil hs) (fun vs S H Q sh r k => by
    obtain ⟨v, rfl, h1⟩ := dpa1 r
    cases h1 with
    | @lst a ys _ hq hl =>
      have e := dpa_bls_inv hl
      subst e
      exact ⟨a, bs, rfl, sqL_mono sh hq, k _ S H (.refl sh) (.bl _)⟩) hg
def rMaxQ (K : PySem.W.Frag) : List V → Hp → VK → Prop := fun vs H Q => ∃ (a : Addr) (ns : List Int), vs = [V.ref a] ∧ SqL K H a (ns.map V.int) ∧ 0 < ns.length ∧ ∀ m, m ∈ ns → (∀ y, y ∈ ns → y ≤ m) → Q (.int m) H
/-- max of a list of ints, its value m -/
theorem e_maxL {ns : List Int} {m : Int} (hm : G.mg "max" = none) (ha : EX G e ρ (.list (ns.map PyData.int)) ρ1) (h1 : m ∈ ns) (h2 : ∀ y ∈ ns, y ≤ m) (hs : notStar e = true := by rfl) (hg : G.sc.names.lookup ("max" : Str) = some NameKind.globalImplicit := by rfl) : EX G (.Call (.Name "max" p) [e] [] pos) ρ (.int m) ρ1 :=
  e_cb (r := rMaxQ G.K) (fun X F => by have q := cr_max F.calm; rw [F.K] at q; exact q) hm PyProof.Rows.boot_max (a_cons ha a_nil hs) (fun vs S H Q sh r k => by
    obtain ⟨v, rfl, h3⟩ := dpa1 r
    cases h3 with
    | @lst a ys _ hq hl =>
      have e := dpa_ints_inv hl
      subst e
      refine ⟨a, ns, rfl, sqL_mono sh hq, List.length_pos_of_mem h1, fun m' q1 q2 => ?_⟩
      have e2 : m' = m := Int.le_antisymm (h2 _ q1) (q2 _ h1)
      subst e2
      exact k _ S H (.refl sh) (.int _)) hg
theorem e_max2 {i j : Int} (hm : G.mg "max" = none) (ha : EX G a ρ (.int i) ρ1) (hb : EX G b ρ1 (.int j) ρ2) (hs : notStar a = true := by rfl) (hs2 : notStar b = true := by rfl) (hg : G.sc.names.lookup ("max" : Str) = some NameKind.globalImplicit := by rfl) : EX G (.Call (.Name "max" p) [a, b] [] pos) ρ (.int (if j > i then j else i)) ρ2 :=
  e_cb (fun X F => call_max2 F.calm) hm PyProof.Rows.boot_max (a_cons ha (a_cons hb a_nil hs2) hs) (fun vs S H Q sh r k => by
    obtain ⟨v, u, rfl, h1, h2⟩ := dpa2 r
    cases h1; cases h2
    exact ⟨i, j, rfl, k _ S H (.refl sh) (.int _)⟩) hg
theorem e_min2 {i j : Int} (hm : G.mg "min" = none) (ha : EX G a ρ (.int i) ρ1) (hb : EX G b ρ1 (.int j) ρ2) (hs : notStar a = true := by rfl) (hs2 : notStar b = true := by rfl) (hg : G.sc.names.lookup ("min" : Str) = some NameKind.globalImplicit := by rfl) : EX G (.Call (.Name "min" p) [a, b] [] pos) ρ (.int (if j < i then j else i)) ρ2 :=
  e_cb (fun X F => call_min2 F.calm) hm PyProof.Rows.boot_min (a_cons ha (a_cons hb a_nil hs2) hs) (fun vs S H Q sh r k => by
    obtain ⟨v, u, rfl, h1, h2⟩ := dpa2 r
    cases h1; cases h2
    exact ⟨i, j, rfl, k _ S H (.refl sh) (.int _)⟩) hg
theorem e_abs {i : Int} (hm : G.mg "abs" = none) (ha : EX G a ρ (.int i) ρ1) (hs : notStar a = true := by rfl) (hg : G.sc.names.lookup ("abs" : Str) = some NameKind.globalImplicit := by rfl) : EX G (.Call (.Name "abs" p) [a] [] pos) ρ (.int (if i < 0 then -i else i)) ρ1 :=
  e_cb (fun X F => call_abs) hm PyProof.Rows.boot_abs (a_cons ha a_nil hs) (fun vs S H Q sh r k => by
    obtain ⟨v, rfl, h1⟩ := dpa1 r
    cases h1
    exact ⟨i, rfl, k _ S H (.refl sh) (.int _)⟩) hg
theorem e_divmod {i j : Int} (hm : G.mg "divmod" = none) (ha : EX G a ρ (.int i) ρ1) (hb : EX G b ρ1 (.int j) ρ2) (hc : CDiv i j) (hs : notStar a = true := by rfl) (hs2 : notStar b = true := by rfl) (hg : G.sc.names.lookup ("divmod" : Str) = some NameKind.globalImplicit := by rfl) : EX G (.Call (.Name "divmod" p) [a, b] [] pos) ρ (.tuple [.int (i / j), .int (i % j)]) ρ2 :=
  e_cb (fun X F => call_divmod) hm PyProof.Rows.boot_divmod (a_cons ha (a_cons hb a_nil hs2) hs) (fun vs S H Q sh r k => by
    obtain ⟨v, u, rfl, h1, h2⟩ := dpa2 r
    cases h1; cases h2
    refine ⟨i, j, rfl, hc, fun q hq => ?_⟩
    have n := Nw.one (o := .tup [.int (i / j), .int (i % j)]) sh hq
    exact k _ _ _ n (.tup (.of upd_same) (.cons (.int _) (.cons (.int _) .nil)))) hg
theorem e_intB {k1 : Bool} (hm : G.mg "int" = none) (ha : EX G a ρ (.bool k1) ρ1) (hs : notStar a = true := by rfl) (hg : G.sc.names.lookup ("int" : Str) = some NameKind.globalImplicit := by rfl) : EX G (.Call (.Name "int" p) [a] [] pos) ρ (.int (if k1 then 1 else 0)) ρ1 :=
  e_cty (fun X F => call_int1) hm PyProof.Rows.boot_int (a_cons ha a_nil hs) (fun vs S H Q sh r k => by
    obtain ⟨v, rfl, h1⟩ := dpa1 r
    cases h1
    exact .inr ⟨k1, rfl, k _ S H (.refl sh) (.int _)⟩) hg
/-- isinstance(x, T) -/
def tyN : PyData → String
  | .none => "NoneType"
  | .bool _ => "bool"
  | .int _ => "int"
  | .str _ => "str"
  | .list _ => "list"
  | .tuple _ => "tuple"
  | .dict _ => "dict"
theorem ty_of {K : PySem.W.Frag} {S H : Hp} {v : V} (h : Dp K S v d) (sh : Same S H) : TyX K H v (.type (tyN d)) := by
  cases h with
  | non => exact .base .non
  | bl b => exact .base (.bl b)
  | int i => exact .base (.int i)
  | str x => exact .base (.str x)
  | @lst a xs ds hs ha =>
    rcases hs with (hs | ⟨o, hs⟩) | ⟨o, its, n, h1, h2, _⟩
    · exact .base (.lst (sh _ _ hs))
    · exact .base (.frz (sh _ _ hs))
    · exact .kList h1 h2
  | @tup a xs ds hs ha =>
    rcases hs with (hs | ⟨o, hs⟩) | ⟨o, its, n, h1, h2, _⟩
    · exact .base (.tup (sh _ _ hs))
    · exact .fTuple (sh _ _ hs)
    · exact .kTuple h1 h2
theorem e_isi {T : Str} {nm : String} {k1 : Bool} (hm : G.mg "isinstance" = none) (hmT : G.mg T = none) (hvT : bootBuiltins T = some (.type nm)) (ha : EX G a ρ d ρ1) (hk : kitB (tyN d) nm = some k1) (hs : notStar a = true := by rfl) (hg : G.sc.names.lookup ("isinstance" : Str) = some NameKind.globalImplicit := by rfl)
    (hgT : G.sc.names.lookup T = some NameKind.globalImplicit := by rfl) (hn : T ≠ "__name__" := by decide) (hd : (T == ("__debug__" : Str)) = false := by decide) :
    EX G (.Call (.Name "isinstance" p) [a, .Name T p2] [] pos) ρ (.bool k1) ρ1 := fun X F => by
  have pT : PE X (.Name T p2) (tC (.ty nm)) := pe_bltn (show X.env.scope.names.lookup T = _ by rw [F.sc]; exact hgT) (by rw [F.mg]; exact hmT) hvT rfl hn hd
  refine PEw (pe_callB call_isi (show X.env.scope.names.lookup ("isinstance" : Str) = _ by rw [F.sc]; exact hg) (by rw [F.mg]; exact hm) PyProof.Rows.boot_isinstance (pa_cons (ha X F) (pa_cons pT pa_nil) (star_cons hs)) (he := star_cons hs)) fun σ H Q ⟨B, S, h, k⟩ => ?_
  refine ⟨B, S, h, fun v S1 H1 h1 r1 => ?_⟩
  exact ⟨v, .ty nm, .type (tyN d), .type nm, k1, rfl, .ty nm, by rw [F.K]; exact ty_of r1 h1.sub, by rw [F.K]; exact kit_ty hk, k _ S1 H1 h1 (.bl _)⟩
/-! ### subscripts, slices -/
theorem dpa_atI {K : PySem.W.Frag} {H : Hp} {vs : List V} {i : Int} (h : DpAll K H vs ds) (q : atI ds i = some d) : ∃ v, atI vs i = some v ∧ Dp K H v d := by
  unfold atI at q ⊢
  rw [dpa_len h]
  cases z : ixN ds.length i with
  | none => rw [z] at q; cases q
  | some j =>
    rw [z] at q
    exact dpa_get h q
theorem e_ixT {i : Int} (ho : EX G a ρ (.tuple ds) ρ1) (hi : EX G b ρ1 (.int i) ρ2) (hq : atI ds i = some d) (hp : PlainIx b := by exact fun _ _ => rfl) : EX G (.Subscript a b pos) ρ d ρ2 := fun X F => PEw (pe_ix ix_tup (ho X F) (hi X F) hp) fun σ H Q ⟨B, S, h, k⟩ =>
  seq2 h fun v1 v2 S2 H2 h2 r1 r2 => by
    cases r2
    cases r1 with
    | @tup p vs _ q1 q2 =>
      obtain ⟨v, e1, e2⟩ := dpa_atI q2 hq
      exact ⟨p, vs, i, v, rfl, rfl, by rw [F.K]; exact sqT_mono h2.sub q1, e1, k v S2 H2 h2 e2⟩
theorem e_ixL {i : Int} (ho : EX G a ρ (.list ds) ρ1) (hi : EX G b ρ1 (.int i) ρ2) (hq : atI ds i = some d) (hp : PlainIx b := by exact fun _ _ => rfl) : EX G (.Subscript a b pos) ρ d ρ2 := fun X F => PEw (pe_ix ix_list (ho X F) (hi X F) hp) fun σ H Q ⟨B, S, h, k⟩ =>
  seq2 h fun v1 v2 S2 H2 h2 r1 r2 => by
    cases r2
    cases r1 with
    | @lst p vs _ q1 q2 =>
      obtain ⟨v, e1, e2⟩ := dpa_atI q2 hq
      exact ⟨p, vs, i, v, rfl, rfl, by rw [F.K]; exact sqL_mono h2.sub q1, e1, k v S2 H2 h2 e2⟩
theorem e_ixS {z : Str} {i : Int} {c1 : Nat} (ho : EX G a ρ (.str z) ρ1) (hi : EX G b ρ1 (.int i) ρ2) (hz : z.length ≤ sizeLine) (hq : atI z.cps.toList i = some c1) (hp : PlainIx b := by exact fun _ _ => rfl) : EX G (.Subscript a b pos) ρ (.str ⟨#[c1]⟩) ρ2 := fun X F => PEw (pe_ix ix_str (ho X F) (hi X F) hp) fun σ H Q ⟨B, S, h, k⟩ =>
  seq2 h fun v1 v2 S2 H2 h2 r1 r2 => by
    cases r1; cases r2
    exact ⟨z, i, c1, rfl, rfl, hz, hq, k _ S2 H2 h2 (.str _)⟩
/-- an item of a list that may be changed -/
theorem e_ixM (l : Nat) {y : Str} {b1 : Addr} {i : Int} {ds0 : List PyData} (hi : EX G b ρ (.int i) ρ1) (hr0 : ρ[l]? = some (.mut b1 ds0) := by rfl) (hr : ρ1[l]? = some (.mut b1 ds) := by rfl) (hq : atI ds i = some d) (hN : G.N[l]? = some y := by rfl) (hv : visB G.sc y = true := by rfl) (hd : (y == ("__debug__" : Str)) = false := by decide) (hcd : (y == ("__classdict__" : Str)) = false := by decide) (hp : PlainIx b := by exact fun _ _ => rfl) :
    EX G (.Subscript (.Name y p2) b pos) ρ d ρ1 := fun X F => by
  have pv0 : PE X (.Name y p2) (tVar l) := pe_var (i := l) (by rw [F.N]; exact hN) (by rw [F.sc]; exact visB_ok hv) hd hcd
  refine PEw (pe_ix ix_list pv0 (hi X F) hp) fun σ H Q ⟨B, S, h, k⟩ => ?_
  obtain ⟨q1, _⟩ := h.mt l b1 ds0 hr0
  refine ⟨.ref b1, q1, B, S, h, fun v S1 H1 h1 r1 => ?_⟩
  cases r1
  obtain ⟨_, _, _, vs, q4, q5⟩ := h1.mt l b1 ds hr
  obtain ⟨v, e1, e2⟩ := dpa_atI q5 hq
  exact ⟨b1, vs, i, v, rfl, rfl, .of q4, e1, k v S1 H1 h1 e2⟩
def cutD (xs : List PyData) (lo hi : Option Int) : List PyData := (xs.drop (HT.sIx xs.length 0 lo)).take (HT.sIx xs.length xs.length hi - HT.sIx xs.length 0 lo)
theorem dpa_cut {K : PySem.W.Frag} {H : Hp} {vs : List V} (h : DpAll K H vs ds) (lo hi : Option Int) : DpAll K H (cutV vs lo hi) (cutD ds lo hi) := by
  unfold cutV cutD
  rw [dpa_len h]
  exact dpa_take _ (dpa_drop _ h)
/-- parts of a slice -/
def OX (G : Gam) (e : Option Expr) (ρ : List Sl) (i : Option Int) (ρ' : List Sl) : Prop := ∀ X, Fits G X → PO X e (fun σ H Q => ∃ B S, Ab G.K B S H σ ρ ∧ ∀ S' H', Ab G.K B S' H' σ ρ' → Q i H')
theorem POw {X : Cx} {e : Option Expr} {t t' : TO} (h : PO X e t) (k : ∀ σ H Q, t' σ H Q → t σ H Q) : PO X e t' := ⟨fun pins s σ H Q I q => h.run pins s σ H Q I (k _ _ _ q)⟩
theorem o_none : OX G none ρ none ρ := fun X F => POw po_none fun σ H Q ⟨B, S, h, k⟩ => k S H h
theorem o_some {i : Int} (h : EX G e ρ (.int i) ρ1) : OX G (some e) ρ (some i) ρ1 := fun X F => POw (po_some (h X F)) fun σ H Q ⟨B, S, h, k⟩ => ⟨B, S, h, fun v S1 H1 h1 r1 => by cases r1; exact ⟨i, rfl, k S1 H1 h1⟩⟩
theorem e_slL {lo hi : Option Expr} {i j : Option Int} (ho : EX G a ρ (.list ds) ρ1) (h1 : OX G lo ρ1 i ρ1) (h2 : OX G hi ρ1 j ρ1) : EX G (.Subscript a (.Slice lo hi none p2) pos) ρ (.list (cutD ds i j)) ρ1 := fun X F => PEw (pe_slice sl_list (ho X F) (h1 X F) (h2 X F)) fun σ H Q ⟨B, S, h, k⟩ => by
  refine ⟨B, S, h, fun v S1 H1 g1 r1 => ⟨cut S1 H1 ρ1, S1, g1.here, fun S2 H2 g2 => ⟨cut S2 H2 ρ1, S2, g2.here, fun S3 H3 g3 => ?_⟩⟩⟩
  have g := g1.trans (g2.trans g3)
  have r3 := Dpm r1 (g2.s0.trans g3.s0)
  cases r3 with
  | @lst q vs _ q1 q2 =>
    refine ⟨q, vs, rfl, by rw [F.K]; exact sqL_mono g.sub q1, fun l hl => ?_⟩
    have n := Nw.one (o := .lst (cutV vs i j)) g.sub hl
    exact k _ _ _ (g.grow n) (.lst (.of upd_same) (Dpam (dpa_cut q2 i j) n.ss))
theorem e_slT {lo hi : Option Expr} {i j : Option Int} (ho : EX G a ρ (.tuple ds) ρ1) (h1 : OX G lo ρ1 i ρ1) (h2 : OX G hi ρ1 j ρ1) : EX G (.Subscript a (.Slice lo hi none p2) pos) ρ (.tuple (cutD ds i j)) ρ1 := fun X F => PEw (pe_slice sl_tupA (ho X F) (h1 X F) (h2 X F)) fun σ H Q ⟨B, S, h, k⟩ => by
  refine ⟨B, S, h, fun v S1 H1 g1 r1 => ⟨cut S1 H1 ρ1, S1, g1.here, fun S2 H2 g2 => ⟨cut S2 H2 ρ1, S2, g2.here, fun S3 H3 g3 => ?_⟩⟩⟩
  have g := g1.trans (g2.trans g3)
  have r3 := Dpm r1 (g2.s0.trans g3.s0)
  cases r3 with
  | @tup q vs _ q1 q2 =>
    refine ⟨q, vs, rfl, by rw [F.K]; exact sqT_mono g.sub q1, fun z => ?_, fun z l hl => ?_⟩
    · have e : cutD ds i j = ds := by
        unfold cutD
        rw [← dpa_len q2, z.1, z.2, Nat.sub_zero, List.drop_zero, dpa_len q2, List.take_length]
      rw [e] at k
      exact k _ _ _ g (.tup q1 q2)
    · have n := Nw.one (o := .tup (cutV vs i j)) g.sub hl
      exact k _ _ _ (g.grow n) (.tup (.of upd_same) (Dpam (dpa_cut q2 i j) n.ss))
theorem e_slS {z : Str} {lo hi : Option Expr} {i j : Option Int} (ho : EX G a ρ (.str z) ρ1) (h1 : OX G lo ρ1 i ρ1) (h2 : OX G hi ρ1 j ρ1) (hz : z.length ≤ sizeLine) : EX G (.Subscript a (.Slice lo hi none p2) pos) ρ (.str (cutS z i j)) ρ1 := fun X F => PEw (pe_slice sl_str (ho X F) (h1 X F) (h2 X F)) fun σ H Q ⟨B, S, h, k⟩ => by
  refine ⟨B, S, h, fun v S1 H1 g1 r1 => ⟨cut S1 H1 ρ1, S1, g1.here, fun S2 H2 g2 => ⟨cut S2 H2 ρ1, S2, g2.here, fun S3 H3 g3 => ?_⟩⟩⟩
  have g := g1.trans (g2.trans g3)
  cases r1
  exact ⟨z, rfl, hz, k _ _ _ g (.str _)⟩
/-! ### methods -/
/-- sep.join(a list of texts) -/
theorem e_join {sep : Str} {zs : List Str} (ho : EX G a ρ (.str sep) ρ1) (he : EX G e ρ1 (.list (zs.map PyData.str)) ρ2) (hz : (zs.map (·.length)).sum + zs.length * sep.length ≤ 16777216) (hs : notStar e = true := by rfl)
    (hb : ∀ env : Env, attributeBase a "join" env (eval a env) = eval a env := by intro _; rfl) (hl : (apos.endLine == pos.line) = true := by rfl) : EX G (.Call (.Attribute a "join" apos) [e] [] pos) ρ (.str (Txt.join sep zs)) ρ2 := fun X F =>
  PEw (pe_join (ho X F) (he X F) (star_cons hs) (hb _) hl) fun σ H Q ⟨B, S, h, k⟩ => by
    refine ⟨B, S, h, fun v1 S1 H1 h1 r1 => ?_⟩
    cases r1
    refine ⟨⟨sep, rfl⟩, cut S1 H1 ρ1, S1, h1.here, fun v2 S2 H2 h2 r2 => ?_⟩
    cases r2 with
    | @lst q vs _ q1 q2 =>
      have e := dpa_strs_inv q2
      subst e
      exact ⟨sep, q, zs, rfl, rfl, .inl (by rw [F.K]; exact sqL_mono h2.sub q1), hz, k _ S2 H2 (h1.trans h2) (.str _)⟩
theorem e_joinT {sep : Str} {zs : List Str} (ho : EX G a ρ (.str sep) ρ1) (he : EX G e ρ1 (.tuple (zs.map PyData.str)) ρ2) (hz : (zs.map (·.length)).sum + zs.length * sep.length ≤ 16777216) (hs : notStar e = true := by rfl)
    (hb : ∀ env : Env, attributeBase a "join" env (eval a env) = eval a env := by intro _; rfl) (hl : (apos.endLine == pos.line) = true := by rfl) : EX G (.Call (.Attribute a "join" apos) [e] [] pos) ρ (.str (Txt.join sep zs)) ρ2 := fun X F =>
  PEw (pe_join (ho X F) (he X F) (star_cons hs) (hb _) hl) fun σ H Q ⟨B, S, h, k⟩ => by
    refine ⟨B, S, h, fun v1 S1 H1 h1 r1 => ?_⟩
    cases r1
    refine ⟨⟨sep, rfl⟩, cut S1 H1 ρ1, S1, h1.here, fun v2 S2 H2 h2 r2 => ?_⟩
    cases r2 with
    | @tup q vs _ q1 q2 =>
      have e := dpa_strs_inv q2
      subst e
      exact ⟨sep, q, zs, rfl, rfl, .inr (by rw [F.K]; exact sqT_mono h2.sub q1), hz, k _ S2 H2 (h1.trans h2) (.str _)⟩
/-- sep.join(x), x a list that may be changed -/
theorem e_joinM (i : Nat) {y : Str} {b1 : Addr} {sep : Str} {zs : List Str} (ho : EX G a ρ (.str sep) ρ) (hz : (zs.map (·.length)).sum + zs.length * sep.length ≤ 16777216) (hr : ρ[i]? = some (.mut b1 (zs.map PyData.str)) := by rfl) (hN : G.N[i]? = some y := by rfl) (hv : visB G.sc y = true := by rfl) (hd : (y == ("__debug__" : Str)) = false := by decide) (hcd : (y == ("__classdict__" : Str)) = false := by decide)
    (hb : ∀ env : Env, attributeBase a "join" env (eval a env) = eval a env := by intro _; rfl) (hl : (apos.endLine == pos.line) = true := by rfl) : EX G (.Call (.Attribute a "join" apos) [.Name y p2] [] pos) ρ (.str (Txt.join sep zs)) ρ := fun X F => by
  have pv0 : PE X (.Name y p2) (tVar i) := pe_var (i := i) (by rw [F.N]; exact hN) (by rw [F.sc]; exact visB_ok hv) hd hcd
  refine PEw (pe_join (ho X F) pv0 rfl (hb _) hl) fun σ H Q ⟨B, S, h, k⟩ => ?_
  refine ⟨B, S, h, fun v1 S1 H1 h1 r1 => ?_⟩
  cases r1
  obtain ⟨q1, q2, q3, vs, q4, q5⟩ := h1.mt i b1 _ hr
  have e := dpa_strs_inv q5
  subst e
  exact ⟨⟨sep, rfl⟩, .ref b1, q1, sep, b1, zs, rfl, rfl, .inl (.of q4), hz, k _ S1 H1 h1 (.str _)⟩
theorem e_split {z sep : Str} (ho : EX G a ρ (.str z) ρ1) (he : EX G e ρ1 (.str sep) ρ2) (h0 : (sep.length == 0) = false) (hz : z.length + 2 ≤ sizeLine) (hs : notStar e = true := by rfl)
    (hb : ∀ env : Env, attributeBase a "split" env (eval a env) = eval a env := by intro _; rfl) (hl : (apos.endLine == pos.line) = true := by rfl) : EX G (.Call (.Attribute a "split" apos) [e] [] pos) ρ (.list ((Txt.split z sep).map PyData.str)) ρ2 := fun X F =>
  PEw (pe_split (ho X F) (he X F) (star_cons hs) (hb _) hl) fun σ H Q ⟨B, S, h, k⟩ => by
    refine ⟨B, S, h, fun v1 S1 H1 h1 r1 => ?_⟩
    cases r1
    refine ⟨⟨z, rfl⟩, cut S1 H1 ρ1, S1, h1.here, fun v2 S2 H2 h2 r2 => ?_⟩
    cases r2
    refine ⟨z, sep, rfl, rfl, h0, hz, fun q hq => ?_⟩
    have g := h1.trans h2
    have n := Nw.one (o := .lst ((Txt.split z sep).map V.str)) g.sub hq
    exact k _ _ _ (g.grow n) (.lst (.of upd_same) (dpa_strs _))
end
end Sg
namespace Sg
open PySem PySem.Spec PyProof.Rows L2
/-! ### enumerate and zip over lists, tuples and texts in any mix -/
theorem draws_weak {prog : Program} {w : World} {A : Around} {it : Addr} {fp : List Addr} {n n' : Nat} {P P' : Nat → Value → Prop} {St : Nat → Heap → Prop} (D : Draws prog w A it fp n P St) (h : ∀ i v, P i v → P' i v) (hn : n = n') : Draws prog w A it fp n' P' St := by
  subst hn
  exact ⟨D.live, D.frame, fun i s Q E hi st hQ => D.item i s Q E hi st fun x h' tk p => hQ x h' tk (h i x p), D.done⟩
theorem vals_back : ∀ {xs : List V} {uz : List Value} {i : Nat} {u : Value}, Vals xs uz → uz[i]? = some u → ∃ x, xs[i]? = some x ∧ RelV x u
  | _, _, _, _, .nil, e => by simp at e
  | _, _, 0, _, .cons r _, e => by simp at e; subst e; exact ⟨_, rfl, r⟩
  | _, _, i + 1, u, .cons _ t, e => by
    obtain ⟨x, h1, h2⟩ := vals_back (i := i) (u := u) t (by simpa using e)
    exact ⟨x, by simpa using h1, h2⟩
inductive Src where
  | l (a : Addr)
  | t (a : Addr)
  | s (x : Str)
def Src.at_ : Src → List Addr
  | .l a => [a]
  | .t a => [a]
  | .s _ => []
def Src.st (it : Addr) (i : Nat) (h : Heap) : Src → Prop
  | .l a => h.IsListIter it a i
  | .t a => h.IsTupleIter it a i
  | .s x => ∃ k, h.IsStrIter it (strIterType x) x k i
def signs (x : Str) : List V := x.cps.toList.map fun c => V.str ⟨#[c]⟩
def Src.rd (K : PySem.W.Frag) (H : Hp) (xs : List V) : Src → Prop
  | .l a => SqL K H a xs
  | .t a => SqT K H a xs
  | .s x => xs = signs x
theorem Src.st_obj {src : Src} {it : Addr} {i : Nat} {h : Heap} (q : src.st it i h) : ∃ o, h.get? it = some o ∧ ∀ v, o.data ≠ .cell v := by
  cases src with
  | l a => obtain ⟨o, h1, _, h2⟩ := q; exact ⟨o, h1, fun v z => by rw [h2] at z; cases z⟩
  | t a => obtain ⟨o, h1, _, h2⟩ := q; exact ⟨o, h1, fun v z => by rw [h2] at z; cases z⟩
  | s x => obtain ⟨k, o, h1, _, h2⟩ := q; exact ⟨o, h1, fun v z => by rw [h2] at z; cases z⟩
theorem Src.st_at {src : Src} {it : Addr} {i : Nat} {h h' : Heap} (q : src.st it i h) (k : ∀ o, h.get? it = some o → h'.get? it = some o) : src.st it i h' := by
  cases src with
  | l a => exact q.at k
  | t a => exact q.at k
  | s x => obtain ⟨tk, o, h1, h2⟩ := q; exact ⟨tk, o, k o h1, h2⟩
section
variable {X : Cx} {pz : List (Addr × Obj)} {σ : L2.St} {H : Hp} {s : Shared} {src src2 : Src} {xs ys : List V}
theorem Src.inj (I : Inv X pz σ H s) (a : src.rd X.K H xs) (b : src.rd X.K H ys) : xs = ys := by
  cases src with
  | l p => exact I.list_inj a b
  | t p => exact I.tuple_inj a b
  | s x => exact (show xs = signs x from a).trans (show ys = signs x from b).symm
theorem Src.draws (I : Inv X pz σ H s) (hc : X.calm = true) (r : src.rd X.K H xs) {it : Addr} {i : Nat} (hne : it ∉ src.at_) (q : src.st it i s.heap) :
    ∃ St : Nat → Heap → Prop, St i s.heap ∧ (∀ j h, St j h → src.st it j h) ∧ Draws X.prog X.w X.A.in1 it (it :: src.at_) xs.length (fun i v => ∃ x, xs[i]? = some x ∧ RelV x v) St := by
  have hh : X.A.in1.handled = none := I.ok.hd hc
  cases src with
  | l a =>
    obtain ⟨its, rv, p, _⟩ := I.list r
    have ne : a ≠ it := fun e => hne (by rw [e]; exact List.mem_cons_self)
    exact ⟨_, ⟨q, p.isList⟩, fun j h z => z.1, draws_weak (Draws.list hh it a ne its.toArray) (fun i v e => vals_back rv (by simpa using e)) (by simp [rv.length])⟩
  | t a =>
    obtain ⟨its, rv, p, _⟩ := I.tuple r
    have ne : a ≠ it := fun e => hne (by rw [e]; exact List.mem_cons_self)
    exact ⟨_, ⟨q, p⟩, fun j h z => z.1, draws_weak (Draws.tuple hh it a ne its.toArray) (fun i v e => vals_back rv (by simpa using e)) (by simp [rv.length])⟩
  | s x =>
    have r : xs = signs x := r
    subst r
    obtain ⟨k, q⟩ := q
    exact ⟨_, q, fun j h z => ⟨k, z⟩, draws_weak (Draws.text hh it x k) (fun i v ⟨c, u, h1, h2⟩ => ⟨.str ⟨#[c]⟩, by rw [signs, List.getElem?_map, Array.getElem?_toList, h1]; rfl, u, h2⟩) (by simp [signs])⟩
end
/-- enumerate(src) -/
def IteS (K : PySem.W.Frag) (src : Src) : It :=
  ⟨fun i H => ∃ (xs : List V) (x : V), src.rd K H xs ∧ xs[i]? = some x, fun i H v H' => ∃ T x, v = .ref T ∧ H T = none ∧ H' = upd H T (.tup [.int (i : Nat), x]) ∧ ∀ xs, src.rd K H xs → xs[i]? = some x, fun i H => ∃ xs : List V, src.rd K H xs ∧ xs.length = i⟩
theorem turn_enumS {P : Program} {w : World} {K : PySem.W.Frag} {elts : List Expr} {kk : Nat} {tpos : Pos} (src : Src) (e it : Addr) (h1 : e ≠ it) (h2 : e ∉ src.at_) (h3 : it ∉ src.at_) :
    Turn P w K (.Tuple elts kk tpos) (IteS K src) [e, it] e (fun i h => (∃ old, IsEnum h e it ((i : Nat) : Int) old) ∧ src.st it i h) where
  mem := by simp
  obj := fun i h st b hb => by
    obtain ⟨⟨old, he⟩, hs⟩ := st
    have eB : b = e ∨ b = it := by simpa using hb
    rcases eB with z | z
    · rw [z]; exact ⟨_, he, fun w q => nomatch q⟩
    · rw [z]; exact Src.st_obj hs
  keep := fun i h h' st k => let ⟨⟨old, he⟩, hs⟩ := st; ⟨⟨old, k e (by simp) _ he⟩, Src.st_at hs fun o q => k it (by simp) o q⟩
  item := by
    intro X hP hw hK hc i pz s σ H E I hf st hg
    subst hP hw hK
    obtain ⟨⟨old, he⟩, hs⟩ := st
    obtain ⟨xs, x, hq, hxA⟩ := hg
    obtain ⟨St, q1, q2, D⟩ := Src.draws I hc hq h3 hs
    have hil : i < xs.length := (List.getElem?_eq_some_iff.mp hxA).1
    have hef : e ∉ it :: src.at_ := fun z => by
      rcases List.mem_cons.mp z with z | z
      · exact h1 z
      · exact h2 z
    have W := GoesN.enumFrom (elts := elts) (x1 := kk) (pos := tpos) 0 D e h1 hef List.mem_cons_self
    refine wpAny_mono (W.goes i s (fun v s2 => ∃ x H', Inv X pz σ H' s2 ∧ RelV x v ∧ (IteS X.K src).yld i H x H' ∧ ((∃ old, IsEnum s2.heap e it (((i + 1 : Nat)) : Int) old) ∧ src.st it (i + 1) s2.heap) ∧ ∀ b ∈ [e, it], H' b = none) E hil ⟨⟨old, by rw [Int.zero_add]; exact he⟩, q1⟩ fun v h' tk hY st' hk htk => ?_) (fun r sA ⟨v, e1, e2⟩ => ⟨v, e1, e2⟩) fun _ _ z => z
    obtain ⟨T, t, u, rfl, hT, ⟨y, hyA, ry⟩, ht⟩ := hY
    rw [hxA] at hyA
    cases hyA
    have new : ObjOk X.prog X.w (upd H T (.tup [.int (i : Nat), x])) h' T (.tup [.int (i : Nat), x]) :=
      ⟨by show 2 ≤ sizeLine; decide, [.int (0 + (i : Int)) t, u], .cons ⟨t, by rw [Int.zero_add]⟩ (.cons ry .nil), ht⟩
    have JA := I.turnedNew (t' := tk) (ch := [e, it]) (fun b ob hb q => hk b ob hb q) hf hT new
    refine ⟨.ref T, _, JA, rfl, ⟨T, x, rfl, I.hok.fresh hT, rfl, fun ys hyA => by rw [Src.inj I hyA hq]; exact hxA⟩, ⟨?_, q2 _ _ st'.2⟩, fun b hb => ?_⟩
    · obtain ⟨o2, z⟩ := st'.1
      rw [Int.zero_add] at z
      exact ⟨o2, z⟩
    · have hB : b < s.heap.objs.size := by
        have eB : b = e ∨ b = it := by simpa using hb
        rcases eB with z | z
        · rw [z]; exact Heap.lt_size he
        · rw [z]; obtain ⟨o, z2, _⟩ := Src.st_obj hs; exact Heap.lt_size z2
      rw [upd_ne (Nat.ne_of_lt (Nat.lt_of_lt_of_le hB hT))]
      exact (hf b hb).1
  done := by
    intro X hP hw hK hc i pz s σ H E I hf st hg
    subst hP hw hK
    obtain ⟨⟨old, he⟩, hs⟩ := st
    obtain ⟨xs, hq, hxA⟩ := hg
    subst hxA
    obtain ⟨St, q1, q2, D⟩ := Src.draws I hc hq h3 hs
    have hef : e ∉ it :: src.at_ := fun z => by
      rcases List.mem_cons.mp z with z | z
      · exact h1 z
      · exact h2 z
    have W := GoesN.enumFrom (elts := elts) (x1 := kk) (pos := tpos) 0 D e h1 hef List.mem_cons_self
    exact W.stops s (fun sA => Inv X pz σ H sA) E ⟨⟨old, by rw [Int.zero_add]; exact he⟩, q1⟩ fun h' tk hk htk => I.turnedL (t' := tk) (ch := [e, it]) (fun b ob hb q => hk b ob hb q) hf
  self := fun A i sB Q E st h => let ⟨⟨_, he⟩, _⟩ := st; wpAny_pyIter_enum he h
/-- zip(src, src2) -/
def ItzS (K : PySem.W.Frag) (src src2 : Src) : It :=
  ⟨fun i H => ∃ (xs ys : List V) (x y : V), src.rd K H xs ∧ src2.rd K H ys ∧ xs[i]? = some x ∧ ys[i]? = some y,
    fun i H v H' => ∃ T x y, v = .ref T ∧ H T = none ∧ H' = upd H T (.tup [x, y]) ∧ (∀ xs, src.rd K H xs → xs[i]? = some x) ∧ ∀ ys, src2.rd K H ys → ys[i]? = some y,
    fun i H => ∃ xs ys : List V, src.rd K H xs ∧ src2.rd K H ys ∧ min xs.length ys.length = i⟩
theorem turn_zipS {P : Program} {w : World} {K : PySem.W.Frag} {elts : List Expr} {kk : Nat} {tpos : Pos} {src src2 : Src} {z TI TO i1 i2 : Addr} (D : ZipSep2 z TI TO i1 i2 (i1 :: src.at_) (i2 :: src2.at_)) (n1 : i1 ∉ src.at_) (n2 : i2 ∉ src2.at_) :
    Turn P w K (.Tuple elts kk tpos) (ItzS K src src2) [z, TI, TO, i1, i2] z (fun i h => IsZip h z TI TO .none ∧ IsTupOf2 h TI (.ref i1) (.ref i2) ∧ (∃ x y, IsTupOf2 h TO x y) ∧ src.st i1 i h ∧ src2.st i2 i h) where
  mem := by simp
  obj := fun i h st c hc => by
    obtain ⟨hz, kI, ⟨x, y, kO⟩, h1, h2⟩ := st
    have eB : c = z ∨ c = TI ∨ c = TO ∨ c = i1 ∨ c = i2 := by simpa using hc
    rcases eB with q | q | q | q | q
    · rw [q]; exact ⟨_, hz, fun w q => nomatch q⟩
    · rw [q]; exact ⟨_, kI, fun w q => nomatch q⟩
    · rw [q]; exact ⟨_, kO, fun w q => nomatch q⟩
    · rw [q]; exact Src.st_obj h1
    · rw [q]; exact Src.st_obj h2
  keep := fun i h h' st k => by
    obtain ⟨hz, kI, ⟨x, y, kO⟩, h1, h2⟩ := st
    exact ⟨k z (by simp) _ hz, k TI (by simp) _ kI, ⟨x, y, k TO (by simp) _ kO⟩, Src.st_at h1 fun o q => k i1 (by simp) o q, Src.st_at h2 fun o q => k i2 (by simp) o q⟩
  item := by
    intro X hP hw hK hc i pz s σ H E I hf st hg
    subst hP hw hK
    obtain ⟨hz, kI, ⟨x0, y0, kO⟩, h1, h2⟩ := st
    obtain ⟨xs, ys, x, y, hqA, hqB, hxA, hyA⟩ := hg
    obtain ⟨S1, a1, a2, D1⟩ := Src.draws I hc hqA n1 h1
    obtain ⟨S2, b1, b2, D2⟩ := Src.draws I hc hqB n2 h2
    have hl1 : i < xs.length := (List.getElem?_eq_some_iff.mp hxA).1
    have hl2 : i < ys.length := (List.getElem?_eq_some_iff.mp hyA).1
    have W := GoesN.zip2 (elts := elts) (x1 := kk) (pos := tpos) D D1 D2
    refine wpAny_mono (W.goes i s (fun v s2 => ∃ x H', Inv X pz σ H' s2 ∧ RelV x v ∧ (ItzS X.K src src2).yld i H x H' ∧ (IsZip s2.heap z TI TO .none ∧ IsTupOf2 s2.heap TI (.ref i1) (.ref i2) ∧ (∃ x y, IsTupOf2 s2.heap TO x y) ∧ src.st i1 (i + 1) s2.heap ∧ src2.st i2 (i + 1) s2.heap) ∧ ∀ b ∈ [z, TI, TO, i1, i2], H' b = none) E (by omega) ⟨hz, kI, ⟨x0, y0, kO⟩, a1, b1⟩ fun v h' tk hY st' hk htk => ?_) (fun r sA ⟨v, e1, e2⟩ => ⟨v, e1, e2⟩) fun _ _ q => q
    obtain ⟨T, u, u2, rfl, hT, ⟨p, hp, rp⟩, ⟨p2, hp2, rp2⟩, ht⟩ := hY
    rw [hxA] at hp
    cases hp
    rw [hyA] at hp2
    cases hp2
    have new : ObjOk X.prog X.w (upd H T (.tup [x, y])) h' T (.tup [x, y]) := ⟨by show 2 ≤ sizeLine; decide, [u, u2], .cons rp (.cons rp2 .nil), ht⟩
    have JA := I.turnedNew (t' := tk) (ch := [z, TI, TO, i1, i2]) (fun b ob hb q => hk b ob (fun m => hb (by
      have m' : b = z ∨ b = TO ∨ b = i1 ∨ b = i2 := by simpa using m
      rcases m' with m | m | m | m <;> simp [m])) q) hf hT new
    obtain ⟨c1, c2, c3, c4, c5⟩ := st'
    refine ⟨.ref T, _, JA, rfl, ⟨T, x, y, rfl, I.hok.fresh hT, rfl, fun l hl => by rw [Src.inj I hl hqA]; exact hxA, fun l hl => by rw [Src.inj I hl hqB]; exact hyA⟩, ⟨c1, c2, c3, a2 _ _ c4, b2 _ _ c5⟩, fun b hb => ?_⟩
    have hB : b < s.heap.objs.size := by
      have eB : b = z ∨ b = TI ∨ b = TO ∨ b = i1 ∨ b = i2 := by simpa using hb
      rcases eB with q | q | q | q | q
      · rw [q]; exact Heap.lt_size hz
      · rw [q]; exact Heap.lt_size kI
      · rw [q]; exact Heap.lt_size kO
      · rw [q]; obtain ⟨o, z2, _⟩ := Src.st_obj h1; exact Heap.lt_size z2
      · rw [q]; obtain ⟨o, z2, _⟩ := Src.st_obj h2; exact Heap.lt_size z2
    rw [upd_ne (Nat.ne_of_lt (Nat.lt_of_lt_of_le hB hT))]
    exact (hf b hb).1
  done := by
    intro X hP hw hK hc i pz s σ H E I hf st hg
    subst hP hw hK
    obtain ⟨hz, kI, ⟨x0, y0, kO⟩, h1, h2⟩ := st
    obtain ⟨xs, ys, hqA, hqB, rfl⟩ := hg
    obtain ⟨S1, a1, a2, D1⟩ := Src.draws I hc hqA n1 h1
    obtain ⟨S2, b1, b2, D2⟩ := Src.draws I hc hqB n2 h2
    have W := GoesN.zip2 (elts := elts) (x1 := kk) (pos := tpos) D D1 D2
    exact W.stops s (fun sA => Inv X pz σ H sA) E ⟨hz, kI, ⟨x0, y0, kO⟩, a1, b1⟩ fun h' tk hk htk => I.turnedL (t' := tk) (ch := [z, TI, TO, i1, i2]) (fun b ob hb q => hk b ob (fun m => hb (by
      have m' : b = z ∨ b = TO ∨ b = i1 ∨ b = i2 := by simpa using m
      rcases m' with m | m | m | m <;> simp [m])) q) hf
  self := fun A i sB Q E st h => wpAny_pyIter_zip st.1 h
/-- how a source begins -/
def srcV (v : V) (src : Src) : Prop := match src with
  | .l a => v = .ref a
  | .t a => v = .ref a
  | .s x => v = .str x
theorem Src.begins {X : Cx} {pz : List (Addr × Obj)} {σ : L2.St} {H : Hp} {s : Shared} {src : Src} {xs : List V} {v : V} {u : Value} (I : Inv X pz σ H s) (hv : srcV v src) (r : RelV v u) (rd : src.rd X.K H xs) :
    ∃ o Hq, Begins u o Hq ∧ Hq s.heap ∧ (∀ a ∈ src.at_, a < s.heap.objs.size) ∧ ∀ (h : Heap) (it : Addr), h.get? it = some o → src.st it 0 h := by
  cases src with
  | l a =>
    cases (show v = .ref a from hv)
    cases r
    obtain ⟨its, rv, p, _⟩ := I.list rd
    refine ⟨_, _, begins_list a its.toArray, p.isList, fun b hb => ?_, fun h it q => ⟨_, q, rfl, rfl⟩⟩
    rw [List.mem_singleton.mp hb]
    exact p.lt
  | t a =>
    cases (show v = .ref a from hv)
    cases r
    obtain ⟨its, rv, p, _⟩ := I.tuple rd
    refine ⟨_, _, begins_tuple a its.toArray, p, fun b hb => ?_, fun h it q => ⟨_, q, rfl, rfl⟩⟩
    rw [List.mem_singleton.mp hb]
    exact p.lt
  | s x =>
    cases (show v = .str x from hv)
    obtain ⟨k, rfl⟩ := r
    exact ⟨_, fun _ => True, begins_text x k, trivial, fun b hb => absurd hb (by simp [Src.at_]), fun h it q => ⟨k, _, q, rfl, rfl⟩⟩
set_option maxHeartbeats 4000000 in
theorem meets_enum1 {v : Value} {o : Obj} {Hq : Heap → Prop} (B : Begins v o Hq) :
    Meets (Builtin.«enumerate.__new__» ⟨[.type "enumerate", v], []⟩) (fun _ R s => Hq s.heap ∧
      R (.ok (.ret (.ref (s.heap.push o).objs.size))) { s with heap := (s.heap.push o).push { cls := .type "enumerate", data := .fields #[.none, .bool false, .ref s.heap.objs.size, rawInt 0, .none, .none] } }) :=
  .of_wp fun prog w A R s h => by
    obtain ⟨hA0, gA, dA, tA, oA⟩ := s; obtain ⟨kA, h⟩ := h
    have kSub := sub_enumerate
    have qA : ∀ {A' : Around} {E : Value → Shared → Prop} {Q : Value → Shared → Prop}, Q (.ref hA0.objs.size) ⟨hA0.push o, gA, dA, tA, oA⟩ → wpAny (model prog w) A' (pyIter v) Q E ⟨hA0, gA, dA, tA, oA⟩ :=
      fun q => B.iter prog w _ _ ⟨hA0, gA, dA, tA, oA⟩ _ kA q
    wp_walk using qA
    refine wpAny_stack_any fun stk => wpAny_pure ?_
    split
    · rename_i cT _ _ _ _ _
      cases (cT == Value.type "enumerate")
      · wp_walk using qA
        exact ⟨_, rfl, h⟩
      · wp_walk using qA
        exact ⟨_, rfl, h⟩
    · wp_walk using qA
      exact ⟨_, rfl, h⟩
theorem call_enum1 {prog : Program} {w : World} {A : Around} {E : Value → Shared → Prop} {s : Shared} {v : Value} {o : Obj} {Hq : Heap → Prop} {Q : Value → Shared → Prop} (B : Begins v o Hq) (kA : Hq s.heap)
    (h : ∀ h', IsEnum h' (s.heap.objs.size + 1) s.heap.objs.size 0 .none → h'.get? s.heap.objs.size = some o → h'.objs.size = s.heap.objs.size + 2 →
      (∀ b0 o0, s.heap.get? b0 = some o0 → h'.get? b0 = some o0) → Q (.ref (s.heap.objs.size + 1)) { s with heap := h' }) :
    wpAny (model prog w) A (call (.type "enumerate") [v]) Q E s := by
  refine callType_new F.called_enumerate (by decide) (F.typeCall_enumerate_1 _) (F.newCall_enumerate_1 _) (fun ob => F.args_object_init_2 ob _) F.entry_enumerate_new
    (meets_enum1 B) ⟨kA, ?_⟩
  have kz : (s.heap.push o).objs.size = s.heap.objs.size + 1 := Heap.size_push ..
  show _ ∧ _
  rw [kz]
  have ke : IsEnum ((s.heap.push o).push { cls := .type "enumerate", data := .fields #[.none, .bool false, .ref s.heap.objs.size, rawInt 0, .none, .none] }) (s.heap.objs.size + 1) s.heap.objs.size 0 .none := by
    have := Heap.get?_push_size (s.heap.push o) (o := { cls := .type "enumerate", data := .fields #[.none, .bool false, .ref s.heap.objs.size, rawInt 0, .none, .none] }) rfl
    rw [kz] at this; exact this
  refine ⟨⟨_, ke, rfl⟩, h _ ke (Heap.get?_push_of_some _ (Heap.get?_push_size _ B.free)) (by rw [Heap.size_push, kz]) fun b o x => Heap.get?_push_of_some _ (Heap.get?_push_of_some _ x)⟩
def iEnumS (K : PySem.W.Frag) (ta : TA) : TI := fun σ H R => ta σ H fun vs HA => ∃ v src xs, vs = [v] ∧ srcV v src ∧ src.rd K HA xs ∧ R (IteS K src) HA
theorem pi_enumS {X : Cx} {e : Expr} {ta : TA} {p pos tpos : Pos} {elts : List Expr} {kk : Nat} (hg : Gl X "enumerate") (hm : X.mg "enumerate" = none) (ha : PA X [e] ta) (hs : starEach [e] X.env = [(false, eval e X.env)]) :
    PI X (.Tuple elts kk tpos) (.Call (.Name "enumerate" p) [e] [] pos) (iEnumS X.K ta) := by
  refine ⟨fun pz s σ H R I h => ?_⟩
  refine Call_ (ld_blt I hg hm boot_enumerate (PyProof.Rows.callWith_type1 (thn (ha.run pos pz s σ H _ I h) fun uz sA ⟨vs, HA, JA, r1, q1⟩ => ?_) hs rfl))
  obtain ⟨v, src, xs, rfl, hv, hq, q⟩ := q1
  cases r1 with
  | cons r rr =>
    cases rr
    obtain ⟨o, Hq, B, h0, hlt, hst⟩ := Src.begins JA hv r hq
    refine call_enum1 B h0 fun h' he ho hsz hk => wpAny_pyIter_enum he ?_
    have JB : Inv X pz σ HA { sA with heap := h' } := JA.kept (t' := sA.toks) hk
    have nin : ∀ j, sA.heap.objs.size + j ∉ src.at_ := fun j z => by
      have := hlt _ z
      have : (sA.heap.objs.size + j : Nat) < sA.heap.objs.size := this
      omega
    refine ⟨sA.heap.objs.size + 1, [sA.heap.objs.size + 1, sA.heap.objs.size], _, _, HA, rfl, JB, turn_enumS src (sA.heap.objs.size + 1) sA.heap.objs.size (Nat.succ_ne_self _) (nin 1) (nin 0), ⟨⟨.none, he⟩, hst _ _ ho⟩, fun b hb => ?_, q⟩
    have eB : b = sA.heap.objs.size + 1 ∨ b = sA.heap.objs.size := by simpa using hb
    have hLE : sA.heap.objs.size ≤ b := by
      rcases eB with z | z
      · rw [z]; exact Nat.le_add_right _ _
      · rw [z]; exact Nat.le_refl _
    exact JA.fpOk hLE (JA.hok.fresh hLE)
def iZipS (K : PySem.W.Frag) (ta : TA) : TI := fun σ H R => ta σ H fun vs HA => ∃ v u src src2 xs ys, vs = [v, u] ∧ srcV v src ∧ srcV u src2 ∧ src.rd K HA xs ∧ src2.rd K HA ys ∧ R (ItzS K src src2) HA
theorem pi_zipS {X : Cx} {e e2 : Expr} {ta : TA} {p pos tpos : Pos} {elts : List Expr} {kk : Nat} (hg : Gl X "zip") (hm : X.mg "zip" = none) (ha : PA X [e, e2] ta)
    (hs : starEach [e, e2] X.env = (false, eval e X.env) :: starEach [e2] X.env) (hpl : (backTo pos (starEach [e2] X.env)).any (·.1) = false) :
    PI X (.Tuple elts kk tpos) (.Call (.Name "zip" p) [e, e2] [] pos) (iZipS X.K ta) := by
  refine ⟨fun pz s σ H R I h => ?_⟩
  refine Call_ (ld_blt I hg hm PyProof.Rows.boot_zip (PyProof.Rows.callWith_type1 (thn (ha.run pos pz s σ H _ I h) fun uz sA ⟨vs, HA, JA, r1, q1⟩ => ?_) hs hpl))
  obtain ⟨v, u, src, src2, xs, ys, rfl, hv, hu, hqA, hqB, q⟩ := q1
  cases r1 with
  | cons r rr =>
    cases rr with
    | cons r' rr =>
      cases rr
      have free5 : ∀ c, c ∈ [sA.heap.objs.size + 4, sA.heap.objs.size + 2, sA.heap.objs.size + 3, sA.heap.objs.size, sA.heap.objs.size + 1] → FpOk X pz HA c := fun c hcm => by
        have eB : c = sA.heap.objs.size + 4 ∨ c = sA.heap.objs.size + 2 ∨ c = sA.heap.objs.size + 3 ∨ c = sA.heap.objs.size ∨ c = sA.heap.objs.size + 1 := by simpa using hcm
        have hLE : sA.heap.objs.size ≤ c := by
          rcases eB with z | z | z | z | z
          · rw [z]; exact Nat.le_add_right _ _
          · rw [z]; exact Nat.le_add_right _ _
          · rw [z]; exact Nat.le_add_right _ _
          · rw [z]; exact Nat.le_refl _
          · rw [z]; exact Nat.le_add_right _ _
        exact JA.fpOk hLE (JA.hok.fresh hLE)
      obtain ⟨o1, H1q, B1, a0, alt, ast⟩ := Src.begins JA hv r hqA
      obtain ⟨o2, H2q, B2, b0, blt, bst⟩ := Src.begins JA hu r' hqB
      refine zip_begins2 B1 B2 a0 b0 fun h' hz kI kO h1 h2 hsz hk => wpAny_pyIter_zip hz ?_
      have JB : Inv X pz σ HA { sA with heap := h' } := JA.kept (t' := sA.toks) hk
      have nin : ∀ (src : Src), (∀ a ∈ src.at_, a < sA.heap.objs.size) → ∀ j, sA.heap.objs.size + j ∉ src.at_ := fun src hlt j z => by
        have := hlt _ z
        have : (sA.heap.objs.size + j : Nat) < sA.heap.objs.size := this
        omega
      exact ⟨sA.heap.objs.size + 4, [sA.heap.objs.size + 4, sA.heap.objs.size + 2, sA.heap.objs.size + 3, sA.heap.objs.size, sA.heap.objs.size + 1], _, _, HA, rfl, JB, turn_zipS (zip_sep2 alt blt) (nin src alt 0) (nin src2 blt 1), ⟨hz, kI, ⟨_, _, kO⟩, ast _ _ h1, bst _ _ h2⟩, free5, q⟩
end Sg
namespace Sg
open PySem PySem.Spec PyProof.Rows L2
/-! ### what is walked -/
/-- an iteration that yields the items, whatever is laid meanwhile -/
def Wk (K : PySem.W.Frag) (J : It) (S : Hp) (items : List PyData) : Prop := ∀ S1 H1, Same S S1 → Same S1 H1 →
  (∀ i, i < items.length → J.go i H1) ∧ J.stop items.length H1 ∧ ∀ (i : Nat) x H2 d, items[i]? = some d → J.yld i H1 x H2 → ∃ S2, Nw S1 H1 S2 H2 ∧ Dp K S2 x d
def tI (K : PySem.W.Frag) (ρ : List Sl) (items : List PyData) (ρ' : List Sl) : TI := fun σ H R => ∃ B S, Ab K B S H σ ρ ∧ ∀ J S' H', Ab K B S' H' σ ρ' → Wk K J S' items → R J H'
def IX (G : Gam) (tg it : Expr) (ρ : List Sl) (items : List PyData) (ρ' : List Sl) : Prop := (∀ (env : Env) (x : Value), foldedSetIterable it env x = pure x) ∧ ∀ X, Fits G X → PI X tg it (tI G.K ρ items ρ')
section
variable {G : Gam} {e a b c tg : Expr} {es : List Expr} {ρ ρ1 ρ2 ρ3 : List Sl} {d d1 d2 d3 : PyData} {ds es1 : List PyData} {pos p p2 : Pos} {x : Str}
theorem wk_list {K : PySem.W.Frag} {S : Hp} {q : Addr} {vs : List V} (h : SqL K S q vs) (r : DpAll K S vs ds) : Wk K (Itl K q) S ds := fun S1 H1 s1 s2 => by
  have h1 : SqL K H1 q vs := sqL_mono s2 (sqL_mono s1 h)
  refine ⟨fun i hi => ?_, ⟨vs, h1, by rw [dpa_len r]; exact Nat.le_refl _⟩, fun i x H2 d hd y => ?_⟩
  · have : i < vs.length := by rw [dpa_len r]; exact hi
    exact ⟨vs, vs[i], h1, by simp [this]⟩
  · obtain ⟨e1, e2⟩ := y
    subst e1
    obtain ⟨v, e3, e4⟩ := dpa_get r hd
    have := e2 vs h1
    rw [e3] at this
    cases this
    exact ⟨S1, .refl s2, Dpm e4 s1⟩
theorem wk_tup {K : PySem.W.Frag} {S : Hp} {q : Addr} {vs : List V} (h : SqT K S q vs) (r : DpAll K S vs ds) : Wk K (Itt K q) S ds := fun S1 H1 s1 s2 => by
  have h1 : SqT K H1 q vs := sqT_mono s2 (sqT_mono s1 h)
  refine ⟨fun i hi => ?_, ⟨vs, h1, by rw [dpa_len r]; exact Nat.le_refl _⟩, fun i x H2 d hd y => ?_⟩
  · have : i < vs.length := by rw [dpa_len r]; exact hi
    exact ⟨vs, vs[i], h1, by simp [this]⟩
  · obtain ⟨e1, e2⟩ := y
    subst e1
    obtain ⟨v, e3, e4⟩ := dpa_get r hd
    have := e2 vs h1
    rw [e3] at this
    cases this
    exact ⟨S1, .refl s2, Dpm e4 s1⟩
def rng (lo : Int) (n : Nat) : List PyData := (List.range n).map fun (i : Nat) => PyData.int (lo + (i : Int))
theorem rng_len {lo : Int} {n : Nat} : (rng lo n).length = n := by simp [rng]
theorem rng_get {lo : Int} {n i : Nat} (h : i < n) : (rng lo n)[i]? = some (.int (lo + (i : Int))) := by simp [rng, h]
theorem wk_range {K : PySem.W.Frag} {S : Hp} {lo : Int} {n : Nat} : Wk K (Itr lo n) S (rng lo n) := fun S1 H1 s1 s2 => by
  refine ⟨fun i hi => by rw [rng_len] at hi; exact hi, by rw [rng_len]; exact Nat.le_refl _, fun i x H2 d hd y => ?_⟩
  obtain ⟨e1, e2⟩ := y
  subst e1 e2
  have hi : i < n := by have := (List.getElem?_eq_some_iff.mp hd).1; rwa [rng_len] at this
  rw [rng_get hi] at hd
  cases hd
  exact ⟨S1, .refl s2, .int _⟩
theorem wk_revrange {K : PySem.W.Frag} {S : Hp} {lo : Int} {n : Nat} : Wk K (Itc (lo + (n : Int) - 1) (-1) n) S (rng lo n).reverse := fun S1 H1 s1 s2 => by
  refine ⟨fun i hi => by rw [List.length_reverse, rng_len] at hi; exact hi, by rw [List.length_reverse, rng_len]; exact Nat.le_refl _, fun i x H2 d hd y => ?_⟩
  obtain ⟨e1, e2⟩ := y
  subst e1 e2
  have hi : i < n := by have := (List.getElem?_eq_some_iff.mp hd).1; rwa [List.length_reverse, rng_len] at this
  rw [List.getElem?_reverse (by rw [rng_len]; exact hi), rng_len, rng_get (by omega)] at hd
  cases hd
  have e : lo + (n : Int) - 1 + (i : Nat) * (-1) = lo + ((n - 1 - i : Nat) : Int) := by omega
  rw [e]
  exact ⟨S1, .refl s2, .int _⟩
def signD (x : Str) : List PyData := x.cps.toList.map fun c => PyData.str ⟨#[c]⟩
theorem wk_str {K : PySem.W.Frag} {S : Hp} {z : Str} : Wk K (Its z) S (signD z) := fun S1 H1 s1 s2 => by
  refine ⟨fun i hi => by show i < z.cps.size; simpa [signD] using hi, by show z.cps.size ≤ _; simp [signD], fun i x H2 d hd y => ?_⟩
  obtain ⟨e1, c, e2, e3⟩ := y
  subst e1 e3
  rw [signD, List.getElem?_map, Array.getElem?_toList, e2] at hd
  cases hd
  exact ⟨S1, .refl s2, .str _⟩
/-- sources -/
def srcD (K : PySem.W.Frag) (S : Hp) (src : Src) (ds : List PyData) : Prop := ∃ xs, (∀ H, Same S H → src.rd K H xs) ∧ DpAll K S xs ds
theorem dpa_signs {K : PySem.W.Frag} {S : Hp} {z : Str} : DpAll K S (signs z) (signD z) := by
  unfold signs signD
  generalize z.cps.toList = l
  induction l with
  | nil => exact .nil
  | cons c r ih => exact .cons (.str _) ih
def seqD : PyData → List PyData → Prop
  | .list ds, es => es = ds
  | .tuple ds, es => es = ds
  | .str z, es => es = signD z
  | _, _ => False
theorem src_of {K : PySem.W.Frag} {S : Hp} {v : V} (h : Dp K S v d) (q : seqD d ds) : ∃ src, srcV v src ∧ srcD K S src ds := by
  cases h with
  | @lst a xs es hs ha => cases (show ds = es from q); exact ⟨.l a, rfl, xs, fun H sh => sqL_mono sh hs, ha⟩
  | @tup a xs es hs ha => cases (show ds = es from q); exact ⟨.t a, rfl, xs, fun H sh => sqT_mono sh hs, ha⟩
  | str z => cases (show ds = signD z from q); exact ⟨.s z, rfl, signs z, fun H sh => rfl, dpa_signs⟩
  | non => exact q.elim
  | bl _ => exact q.elim
  | int _ => exact q.elim
def enm (ds : List PyData) : List PyData := ds.zipIdx.map fun q => PyData.tuple [.int (q.2 : Nat), q.1]
theorem enm_len : (enm ds).length = ds.length := by simp [enm]
theorem enm_get {i : Nat} : (enm ds)[i]? = ds[i]?.map fun d => PyData.tuple [.int (i : Nat), d] := by
  rw [enm, List.getElem?_map, List.getElem?_zipIdx]
  cases ds[i]? <;> simp
theorem wk_enum {K : PySem.W.Frag} {S : Hp} {src : Src} (h : srcD K S src ds) : Wk K (IteS K src) S (enm ds) := fun S1 H1 s1 s2 => by
  obtain ⟨xs, hr, ha⟩ := h
  have h1 := hr H1 (s1.trans s2)
  refine ⟨fun i hi => ?_, ⟨xs, h1, by rw [enm_len, dpa_len ha]⟩, fun i x H2 d hd y => ?_⟩
  · have : i < xs.length := by rw [dpa_len ha]; rwa [enm_len] at hi
    exact ⟨xs, xs[i], h1, by simp [this]⟩
  · obtain ⟨T, u, rfl, hT, rfl, q⟩ := y
    have hu := q xs h1
    rw [enm_get] at hd
    cases hd2 : ds[i]? with
    | none => rw [hd2] at hd; cases hd
    | some d2 =>
      rw [hd2] at hd
      cases hd
      obtain ⟨v, e3, e4⟩ := dpa_get ha hd2
      rw [hu] at e3
      cases e3
      have n := Nw.one (o := .tup [.int (i : Nat), u]) s2 hT
      exact ⟨_, n, .tup (.of upd_same) (.cons (.int _) (.cons (Dpm e4 (s1.trans n.ss)) .nil))⟩
def zpD (ds es : List PyData) : List PyData := List.zipWith (fun a b => PyData.tuple [a, b]) ds es
theorem wk_zip {K : PySem.W.Frag} {S : Hp} {src src2 : Src} (h : srcD K S src ds) (h2 : srcD K S src2 es1) : Wk K (ItzS K src src2) S (zpD ds es1) := fun S1 H1 s1 s2 => by
  obtain ⟨xs, hr, ha⟩ := h
  obtain ⟨ys, hr2, hb⟩ := h2
  have h1 := hr H1 (s1.trans s2)
  have h2 := hr2 H1 (s1.trans s2)
  refine ⟨fun i hi => ?_, ⟨xs, ys, h1, h2, by simp [zpD, dpa_len ha, dpa_len hb]⟩, fun i x H2 d hd y => ?_⟩
  · have hi' : i < xs.length ∧ i < ys.length := by
      simp [zpD] at hi
      rw [dpa_len ha, dpa_len hb]
      omega
    exact ⟨xs, ys, xs[i], ys[i], h1, h2, by simp [hi'.1], by simp [hi'.2]⟩
  · obtain ⟨T, u, u2, rfl, hT, rfl, q, q2⟩ := y
    have hu := q xs h1
    have hu2 := q2 ys h2
    rw [zpD, List.getElem?_zipWith] at hd
    cases hd2 : ds[i]? with
    | none => rw [hd2] at hd; simp at hd
    | some a1 =>
      cases hd3 : es1[i]? with
      | none => rw [hd2, hd3] at hd; simp at hd
      | some b1 =>
        rw [hd2, hd3] at hd
        simp at hd
        subst hd
        obtain ⟨v, e3, e4⟩ := dpa_get ha hd2
        rw [hu] at e3
        cases e3
        obtain ⟨v2, e5, e6⟩ := dpa_get hb hd3
        rw [hu2] at e5
        cases e5
        have n := Nw.one (o := .tup [u, u2]) s2 hT
        exact ⟨_, n, .tup (.of upd_same) (.cons (Dpm e4 (s1.trans n.ss)) (.cons (Dpm e6 (s1.trans n.ss)) .nil))⟩
theorem i_list (h : EX G a ρ (.list ds) ρ1) (hf : ∀ (env : Env) (x : Value), foldedSetIterable a env x = pure x := by intro _ _; rfl) : IX G tg a ρ ds ρ1 := ⟨hf, fun X F => PIw (pi_list (h X F)) fun σ H R ⟨B, S, g, k⟩ =>
  ⟨B, S, g, fun v S1 H1 h1 r => by
    cases r with
    | @lst q vs _ q1 q2 => exact ⟨q, rfl, ⟨vs, by rw [F.K]; exact sqL_mono h1.sub q1⟩, by rw [F.K]; exact k _ S1 H1 h1 (wk_list q1 q2)⟩⟩⟩
theorem i_tup (h : EX G a ρ (.tuple ds) ρ1) (hf : ∀ (env : Env) (x : Value), foldedSetIterable a env x = pure x := by intro _ _; rfl) : IX G tg a ρ ds ρ1 := ⟨hf, fun X F => PIw (pi_tup (h X F)) fun σ H R ⟨B, S, g, k⟩ =>
  ⟨B, S, g, fun v S1 H1 h1 r => by
    cases r with
    | @tup q vs _ q1 q2 => exact ⟨q, rfl, ⟨vs, by rw [F.K]; exact sqT_mono h1.sub q1⟩, by rw [F.K]; exact k _ S1 H1 h1 (wk_tup q1 q2)⟩⟩⟩
theorem i_str {z : Str} (h : EX G a ρ (.str z) ρ1) (hf : ∀ (env : Env) (x : Value), foldedSetIterable a env x = pure x := by intro _ _; rfl) : IX G tg a ρ (signD z) ρ1 := ⟨hf, fun X F => PIw (pi_str (h X F)) fun σ H R ⟨B, S, g, k⟩ =>
  ⟨B, S, g, fun v S1 H1 h1 r => by
    cases r
    exact ⟨z, rfl, k _ S1 H1 h1 wk_str⟩⟩⟩
theorem starE1 {env : Env} (h : notStar a = true) : starEach [a] env = [(false, eval a env)] := star_cons h
theorem i_range1 {j : Int} (hm : G.mg "range" = none) (h : EX G a ρ (.int j) ρ1) (h1 : -(2 ^ 62) ≤ j) (h2 : j < 2 ^ 62) (hs : notStar a = true := by rfl) (hg : G.sc.names.lookup ("range" : Str) = some NameKind.globalImplicit := by rfl) : IX G tg (.Call (.Name "range" p) [a] [] pos) ρ (rng 0 j.toNat) ρ1 := ⟨fun _ _ => rfl, fun X F =>
  PIw (pi_range1 (show X.env.scope.names.lookup ("range" : Str) = _ by rw [F.sc]; exact hg) (by rw [F.mg]; exact hm) ((a_cons h a_nil hs).2 X F) (starE1 hs)) fun σ H R ⟨B, S, g, k⟩ =>
  ⟨B, S, g, fun vs S1 H1 g1 r => by
    obtain ⟨v, rfl, r1⟩ := dpa1 r
    cases r1
    exact ⟨j, rfl, h1, h2, k _ S1 H1 g1 wk_range⟩⟩⟩
theorem i_range2 {i j : Int} (hm : G.mg "range" = none) (ha : EX G a ρ (.int i) ρ1) (hb : EX G b ρ1 (.int j) ρ2) (h1 : -(2 ^ 62) ≤ i ∧ i < 2 ^ 62 ∧ -(2 ^ 62) ≤ j ∧ j < 2 ^ 62) (hs : notStar a = true := by rfl) (hs2 : notStar b = true := by rfl) (hg : G.sc.names.lookup ("range" : Str) = some NameKind.globalImplicit := by rfl) : IX G tg (.Call (.Name "range" p) [a, b] [] pos) ρ (rng i (j - i).toNat) ρ2 := ⟨fun _ _ => rfl, fun X F =>
  PIw (pi_range2 (show X.env.scope.names.lookup ("range" : Str) = _ by rw [F.sc]; exact hg) (by rw [F.mg]; exact hm) ((a_cons ha (a_cons hb a_nil hs2) hs).2 X F) (by rw [star_cons hs, starE1 hs2]) (starE1 hs2)) fun σ H R ⟨B, S, g, k⟩ =>
  ⟨B, S, g, fun vs S1 H1 g1 r => by
    obtain ⟨v, u, rfl, r1, r2⟩ := dpa2 r
    cases r1; cases r2
    exact ⟨i, j, rfl, h1, k _ S1 H1 g1 wk_range⟩⟩⟩
/-- reversed(range(j)), reversed(range(i, j)) -/
theorem i_rrange1 {j : Int} (hm : G.mg "range" = none) (hm2 : G.mg "reversed" = none) (h : EX G a ρ (.int j) ρ1) (h1 : -(2 ^ 62) ≤ j) (h2 : j < 2 ^ 62) (hs : notStar a = true := by rfl) (hg : G.sc.names.lookup ("range" : Str) = some NameKind.globalImplicit := by rfl) (hg2 : G.sc.names.lookup ("reversed" : Str) = some NameKind.globalImplicit := by rfl) :
    IX G tg (.Call (.Name "reversed" p) [.Call (.Name "range" p2) [a] [] pos] [] pos2) ρ (rng 0 j.toNat).reverse ρ1 := ⟨fun _ _ => rfl, fun X F =>
  PIw (pi_revR (show X.env.scope.names.lookup ("reversed" : Str) = _ by rw [F.sc]; exact hg2) (by rw [F.mg]; exact hm2) (prg_1 (show X.env.scope.names.lookup ("range" : Str) = _ by rw [F.sc]; exact hg) (by rw [F.mg]; exact hm) (h X F) (star_cons hs))) fun σ H R ⟨B, S, g, k⟩ =>
  ⟨B, S, g, fun v S1 H1 g1 r => by
    cases r
    refine ⟨j, rfl, by decide, by decide, h1, h2, ?_⟩
    have e : (j - 0).toNat = j.toNat := by rw [Int.sub_zero]
    rw [e]
    exact k _ S1 H1 g1 wk_revrange⟩⟩
theorem i_rrange2 {i j : Int} (hm : G.mg "range" = none) (hm2 : G.mg "reversed" = none) (ha : EX G a ρ (.int i) ρ1) (hb : EX G b ρ1 (.int j) ρ2) (h1 : -(2 ^ 62) ≤ i ∧ i < 2 ^ 62 ∧ -(2 ^ 62) ≤ j ∧ j < 2 ^ 62) (hs : notStar a = true := by rfl) (hs2 : notStar b = true := by rfl) (hg : G.sc.names.lookup ("range" : Str) = some NameKind.globalImplicit := by rfl) (hg2 : G.sc.names.lookup ("reversed" : Str) = some NameKind.globalImplicit := by rfl) :
    IX G tg (.Call (.Name "reversed" p) [.Call (.Name "range" p2) [a, b] [] pos] [] pos2) ρ (rng i (j - i).toNat).reverse ρ2 := ⟨fun _ _ => rfl, fun X F =>
  PIw (pi_revR (show X.env.scope.names.lookup ("reversed" : Str) = _ by rw [F.sc]; exact hg2) (by rw [F.mg]; exact hm2) (prg_2 (show X.env.scope.names.lookup ("range" : Str) = _ by rw [F.sc]; exact hg) (by rw [F.mg]; exact hm) (ha X F) (hb X F) (star_cons hs) (star_cons hs2) (by rw [starE1 hs2]; rfl))) fun σ H R ⟨B, S, g, k⟩ =>
  ⟨B, S, g, fun v S1 H1 g1 r => by
    cases r
    refine ⟨cut S1 H1 ρ1, S1, g1.here, fun v2 S2 H2 g2 r2 => ?_⟩
    cases r2
    exact ⟨i, j, rfl, rfl, h1.1, h1.2.1, h1.2.2.1, h1.2.2.2, k _ S2 H2 (g1.trans g2) wk_revrange⟩⟩⟩
theorem i_enum {elts : List Expr} {kk : Nat} {tpos : Pos} (hm : G.mg "enumerate" = none) (h : EX G a ρ d ρ1) (hq : seqD d ds) (hs : notStar a = true := by rfl) (hg : G.sc.names.lookup ("enumerate" : Str) = some NameKind.globalImplicit := by rfl) : IX G (.Tuple elts kk tpos) (.Call (.Name "enumerate" p) [a] [] pos) ρ (enm ds) ρ1 := ⟨fun _ _ => rfl, fun X F =>
  PIw (pi_enumS (show X.env.scope.names.lookup ("enumerate" : Str) = _ by rw [F.sc]; exact hg) (by rw [F.mg]; exact hm) ((a_cons h a_nil hs).2 X F) (starE1 hs)) fun σ H R ⟨B, S, g, k⟩ =>
  ⟨B, S, g, fun vs S1 H1 g1 r => by
    obtain ⟨v, rfl, r1⟩ := dpa1 r
    obtain ⟨src, q1, q2⟩ := src_of r1 hq
    obtain ⟨xs, q3, q4⟩ := id q2
    exact ⟨v, src, xs, rfl, q1, by rw [F.K]; exact q3 _ g1.sub, by rw [F.K]; exact k _ S1 H1 g1 (wk_enum q2)⟩⟩⟩
theorem i_zip {elts : List Expr} {kk : Nat} {tpos : Pos} (hm : G.mg "zip" = none) (ha : EX G a ρ d1 ρ1) (hb : EX G b ρ1 d2 ρ2) (hq : seqD d1 ds) (hq2 : seqD d2 es1) (hs : notStar a = true := by rfl) (hs2 : notStar b = true := by rfl) (hg : G.sc.names.lookup ("zip" : Str) = some NameKind.globalImplicit := by rfl) : IX G (.Tuple elts kk tpos) (.Call (.Name "zip" p) [a, b] [] pos) ρ (zpD ds es1) ρ2 := ⟨fun _ _ => rfl, fun X F =>
  PIw (pi_zipS (show X.env.scope.names.lookup ("zip" : Str) = _ by rw [F.sc]; exact hg) (by rw [F.mg]; exact hm) ((a_cons ha (a_cons hb a_nil hs2) hs).2 X F) (star_cons hs) (by rw [starE1 hs2]; rfl)) fun σ H R ⟨B, S, g, k⟩ =>
  ⟨B, S, g, fun vs S1 H1 g1 r => by
    obtain ⟨v, u, rfl, r1, r2⟩ := dpa2 r
    obtain ⟨src, q1, q2⟩ := src_of r1 hq
    obtain ⟨xs, q3, q4⟩ := id q2
    obtain ⟨src2, p1, p2⟩ := src_of r2 hq2
    obtain ⟨ys, p3, p4⟩ := id p2
    exact ⟨v, u, src, src2, xs, ys, rfl, q1, p1, by rw [F.K]; exact q3 _ g1.sub, by rw [F.K]; exact p3 _ g1.sub, by rw [F.K]; exact k _ S1 H1 g1 (wk_zip q2 p2)⟩⟩⟩
/-! ### targets -/
def tG (K : PySem.W.Frag) (d : PyData) (is : List Nat) (ds : List PyData) : TG := fun v σ H Q => ∃ S, Same S H ∧ Dp K S v d ∧ ∀ vs, DpAll K S vs ds → Q (setV σ is vs) H
def tGs (K : PySem.W.Frag) (des : List PyData) (is : List Nat) (ds : List PyData) : TGs := fun us σ H Q => ∃ S, Same S H ∧ DpAll K S us des ∧ ∀ vs, DpAll K S vs ds → Q (setV σ is vs) H
def GX (G : Gam) (tg : Expr) (d : PyData) (is : List Nat) (ds : List PyData) : Prop := is.length = ds.length ∧ ∀ X, Fits G X → PG X tg (tG G.K d is ds)
def GXs (G : Gam) (tgs : List Expr) (des : List PyData) (is : List Nat) (ds : List PyData) : Prop := (is.length = ds.length ∧ tgs.length = des.length) ∧ ∀ X, Fits G X → (∀ env : Env, (assignEach tgs env).length = des.length ∧ (assignEach tgs env).findIdx? (·.1) = none) ∧ PGs X tgs (tGs G.K des is ds)
theorem setV_app : ∀ {is js : List Nat} {vs ws : List V} {σ : L2.St}, is.length = vs.length → setV σ (is ++ js) (vs ++ ws) = setV (setV σ is vs) js ws
  | [], _, [], _, _, _ => by simp [setV]
  | i :: is, js, v :: vs, ws, σ, h => by
    show setV (σ.set i (some v)) (is ++ js) (vs ++ ws) = _
    rw [setV_app (by simpa using h)]
    rfl
  | [], _, _ :: _, _, _, h => by simp at h
  | _ :: _, _, [], _, _, h => by simp at h
def storB (G : Gam) (x : Str) : Bool := G.fn x || (match G.sc.names.lookup x with
  | some .local => true
  | _ => false)
theorem storB_ok {X : Cx} (F : Fits G X) (h : storB G x = true) : X.fn x = true ∨ X.env.scope.names.lookup x = some .local := by
  unfold storB at h
  rw [F.fn, F.sc]
  rcases Bool.or_eq_true_iff.mp h with h | h
  · exact .inl h
  · right
    cases q : G.sc.names.lookup x with
    | none => rw [q] at h; cases h
    | some k =>
      rw [q] at h
      cases k with
      | «local» => rfl
      | _ => cases h
theorem g_name (i : Nat) (nd : G.N.Nodup) (hN : G.N[i]? = some x := by rfl) (hl : locB G.sc x = true := by rfl) (hf : storB G x = true := by rfl) : GX G (.Name x pos) d [i] [d] := ⟨rfl, fun X F => PGw (pg_name (i := i) (by rw [F.N]; exact nd) (by rw [F.N]; exact hN) (by rw [F.sc]; exact locB_ok hl) (storB_ok F hf)) fun v σ H Q ⟨S, s1, r, k⟩ => k [v] (.cons r .nil)⟩
theorem gs_nil : GXs G [] [] [] [] := ⟨⟨rfl, rfl⟩, fun X F => ⟨fun env => ⟨rfl, rfl⟩, PGsw pgs_nil fun vs σ H Q ⟨S, s1, r, k⟩ => by
  cases r
  exact ⟨rfl, k [] .nil⟩⟩⟩
theorem gs_cons {des ds1 ds2 : List PyData} {is1 is2 : List Nat} {tgs : List Expr} (h1 : GX G tg d is1 ds1) (h2 : GXs G tgs des is2 ds2) (hs : ∀ env : Env, assignEach (tg :: tgs) env = (false, assign tg env) :: assignEach tgs env := by intro _; rfl) : GXs G (tg :: tgs) (d :: des) (is1 ++ is2) (ds1 ++ ds2) :=
  ⟨⟨by simp [h1.1, h2.1.1], by simp [h2.1.2]⟩, fun X F => ⟨fun env => by
    obtain ⟨a1, a2⟩ := (h2.2 X F).1 env
    rw [hs env]
    refine ⟨by simp [a1], ?_⟩
    rw [List.findIdx?_cons, a2]
    rfl, PGsw (pgs_cons (h1.2 X F) (h2.2 X F).2 (by rw [hs]; rfl)) fun us σ H Q ⟨S, s1, r, k⟩ => by
    cases r with
    | @cons v vs _ _ r1 r2 =>
      refine ⟨v, vs, rfl, S, s1, r1, fun ws q1 => ⟨S, s1, r2, fun ws2 q2 => ?_⟩⟩
      have e := setV_app (js := is2) (ws := ws2) (σ := σ) (show is1.length = ws.length by rw [h1.1, dpa_len q1])
      rw [← e]
      exact k _ (dpa_app q1 q2)⟩⟩
theorem g_tup {des : List PyData} {is : List Nat} {tgs : List Expr} {kk : Nat} (h : GXs G tgs des is ds) : GX G (.Tuple tgs kk pos) (.tuple des) is ds := ⟨h.1.1, fun X F => by
  obtain ⟨n1, n2⟩ := (h.2 X F).1 X.env
  refine PGw (pg_tup F.calm (h.2 X F).2 (n := des.length) n1 n2) fun v σ H Q ⟨S, s1, r, k⟩ => ?_
  cases r with
  | @tup q vs _ q1 q2 => exact ⟨q, vs, rfl, by rw [F.K]; exact sqT_mono s1 q1, dpa_len q2, S, s1, q2, k⟩⟩
end
end Sg
namespace Sg
open PySem PySem.Spec PyProof.Rows L2
/-! ### readings of every kind at once -/
theorem pg_any {X : Cx} {tg : Expr} : PG X tg (fun v σ H Q => ∃ t : TG, PG X tg t ∧ t v σ H Q) := ⟨fun pins s σ H v u Q I r ⟨t, h, q⟩ => h.run pins s σ H v u Q I r q⟩
theorem pss_any {X : Cx} {b : List Stmt} : PSs X b (fun D σ H => ∃ t : TS, PSs X b t ∧ t D σ H) := ⟨fun pins s σ H D I ⟨t, h, q⟩ => h.run pins s σ H D I q⟩
theorem pt_any {X : Cx} {c : Expr} : PT X c (fun σ H Q => ∃ t : TT, PT X c t ∧ t σ H Q) := ⟨fun pins s σ H Q I ⟨t, h, q⟩ => h.run pins s σ H Q I q⟩
/-! ### statements -/
inductive Out where
  | nx (ρ : List Sl)
  | bk (ρ : List Sl)
  | ct (ρ : List Sl)
  | rt (d : PyData) (ρ : List Sl)
  | rl (ds : List PyData) (ρ : List Sl)
def OutOk (K : PySem.W.Frag) (B : Bs) (D : Ends) : Out → Prop
  | .nx ρ => ∀ σ S H, Ab K B S H σ ρ → D.nx σ H
  | .bk ρ => ∀ σ S H, Ab K B S H σ ρ → D.bk σ H
  | .ct ρ => ∀ σ S H, Ab K B S H σ ρ → D.ct σ H
  | .rt d ρ => ∀ v σ S H, Ab K B S H σ ρ → Dp K S v d → D.rt v H
  | .rl ds ρ => ∀ L vs σ S H, Ab K B S H σ ρ → H L = some (.lst vs) → S L = none → B.H L = none → DpAll K S vs ds → D.rt (.ref L) H
def BM (B : Bs) (m : Addr → Prop) : Prop := B.M = m ∧ ∀ a, m a → B.H a ≠ none
def tS (K : PySem.W.Frag) (m : Addr → Prop) (ρ : List Sl) (o : Out) : TS := fun D σ H => ∃ B S, BM B m ∧ Ab K B S H σ ρ ∧ OutOk K B D o
def SX (G : Gam) (m : Addr → Prop) (st : Stmt) (ρ : List Sl) (o : Out) : Prop := ∀ X, Fits G X → PS X st (tS G.K m ρ o)
def BX (G : Gam) (m : Addr → Prop) (sts : List Stmt) (ρ : List Sl) (o : Out) : Prop := ∀ X, Fits G X → PSs X sts (tS G.K m ρ o)
/-- a result that is a new list, still to be changed -/
def tEL (K : PySem.W.Frag) (ρ : List Sl) (ds : List PyData) (ρ' : List Sl) : TE := fun σ H Q => ∃ B S, Ab K B S H σ ρ ∧ ∀ D vs S' H', Ab K B S' H' σ ρ' → H' D = some (.lst vs) → S' D = none → B.H D = none → DpAll K S' vs ds → (∀ (i : Nat) (es : List PyData), ρ'[i]? ≠ some (.mut D es)) → Q (.ref D) H'
def EXL (G : Gam) (e : Expr) (ρ : List Sl) (ds : List PyData) (ρ' : List Sl) : Prop := ∀ X, Fits G X → PE X e (tEL G.K ρ ds ρ')
section
variable {K : PySem.W.Frag} {B : Bs} {S S' S2 H H' H2 : Hp} {σ σ' : L2.St} {ρ ρ' ρ1 ρ2 ρ3 : List Sl}
def Bs.at_ (B : Bs) (S : Hp) : Bs := { B with S := S }
theorem Ab.up (h : Ab K B S H σ ρ) : Ab K (B.at_ S) S H σ ρ := ⟨h.sub, Same.refl _, h.fr, h.dom, fun _ _ e => e, h.len, h.dat, h.mt, h.sep⟩
theorem Ab.down (h : Ab K B S H σ ρ) (h2 : Ab K (B.at_ S) S2 H2 σ' ρ2) : Ab K B S2 H2 σ' ρ2 := ⟨h2.sub, h.s0.trans h2.s0, h2.fr, h2.dom, fun a e1 e2 => h2.new a e1 (h.new a e1 e2), h2.len, h2.dat, h2.mt, h2.sep⟩
theorem OutOk.down {D : Ends} {o : Out} (h : Ab K B S H σ ρ) (k : OutOk K B D o) : OutOk K (B.at_ S) D o := by
  cases o with
  | nx ρ1 => exact fun σ2 S2 H2 g => k σ2 S2 H2 (h.down g)
  | bk ρ1 => exact fun σ2 S2 H2 g => k σ2 S2 H2 (h.down g)
  | ct ρ1 => exact fun σ2 S2 H2 g => k σ2 S2 H2 (h.down g)
  | rt d ρ1 => exact fun v σ2 S2 H2 g r => k v σ2 S2 H2 (h.down g) r
  | rl ds ρ1 => exact fun L vs σ2 S2 H2 g e1 e2 e3 r => k L vs σ2 S2 H2 (h.down g) e1 e2 e3 r
/-- a list that no slot knows is frozen -/
theorem Ab.frz {D : Addr} {vs : List V} (h : Ab K B S H σ ρ) (e1 : H D = some (.lst vs)) (e2 : S D = none) (e3 : B.H D = none) (e4 : ∀ (i : Nat) (es : List PyData), ρ[i]? ≠ some (.mut D es)) : Ab K B (upd S D (.lst vs)) H σ ρ ∧ Same S (upd S D (.lst vs)) := by
  have ss : Same S (upd S D (.lst vs)) := fun b x z => by
    rw [upd_ne (ne_of_none z e2)]
    exact z
  refine ⟨⟨fun b o z => ?_, h.s0.trans ss, h.fr, h.dom, fun b z1 z2 => ?_, h.len, fun i d e => ?_, fun i b es e => ?_, h.sep⟩, ss⟩
  · by_cases hb : b = D
    · subst hb; rw [upd_same] at z; cases z; exact e1
    · rw [upd_ne hb] at z; exact h.sub _ _ z
  · have : b ≠ D := fun q => z1 (by rw [q]; exact e3)
    rw [upd_ne this]
    exact h.new b z1 z2
  · obtain ⟨u, u1, u2⟩ := h.dat i d e
    exact ⟨u, u1, Dpm u2 ss⟩
  · obtain ⟨u1, u2, u3, us, u4, u5⟩ := h.mt i b es e
    have : b ≠ D := fun q => e4 i es (by rw [← q]; exact e)
    exact ⟨u1, by rw [upd_ne this]; exact u2, u3, us, u4, Dpam u5 ss⟩
/-- .. or put into a slot -/
theorem Ab.own {D : Addr} {vs : List V} {i : Nat} {ds : List PyData} (h : Ab K B S H σ ρ) (e1 : H D = some (.lst vs)) (e2 : S D = none) (e3 : B.H D = none) (e4 : ∀ (i : Nat) (es : List PyData), ρ[i]? ≠ some (.mut D es)) (r : DpAll K S vs ds) : Ab K B S H (σ.set i (some (.ref D))) (ρ.set i (.mut D ds)) := by
  refine ⟨h.sub, h.s0, h.fr, h.dom, h.new, by simp [h.len], fun j d hj => ?_, fun j b es hj => ?_, fun j k b es fs hj hk => ?_⟩
  · rcases get_set hj with ⟨rfl, q1, hl⟩ | ⟨hn, q1⟩
    · cases q1
    · obtain ⟨u, h1, h2⟩ := h.dat j d q1
      exact ⟨u, by rw [List.getElem?_set_ne hn]; exact h1, h2⟩
  · rcases get_set hj with ⟨rfl, q1, hl⟩ | ⟨hn, q1⟩
    · cases q1
      exact ⟨List.getElem?_set_self (by rw [h.len]; exact hl), e2, .inr e3, vs, e1, r⟩
    · obtain ⟨p1, p2⟩ := h.mt j b es q1
      exact ⟨by rw [List.getElem?_set_ne hn]; exact p1, p2⟩
  · rcases get_set hj with ⟨rfl, q1, hl⟩ | ⟨hn, q1⟩
    · cases q1
      rcases get_set hk with ⟨rfl, q2, hl⟩ | ⟨hn2, q2⟩
      · rfl
      · exact absurd q2 (e4 _ _)
    · rcases get_set hk with ⟨rfl, q2, hl⟩ | ⟨hn2, q2⟩
      · cases q2
        exact absurd q1 (e4 _ _)
      · exact h.sep _ _ _ _ _ q1 q2
end
section
variable {G : Gam} {m : Addr → Prop} {e a b c tg it elt : Expr} {es : List Expr} {ρ ρ' ρ1 ρ2 ρ3 : List Sl} {d d1 d2 d3 : PyData} {ds es1 items ys : List PyData} {pos p p2 apos cpos : Pos} {x y : Str} {st : Stmt} {sts body rest orelse : List Stmt} {o : Out}
theorem e_ofL (h : EXL G e ρ ds ρ1) : EX G e ρ (.list ds) ρ1 := fun X F => PEw (h X F) fun σ H Q ⟨B, S, g, k⟩ => ⟨B, S, g, fun D vs S1 H1 g1 e1 e2 e3 r e4 => by
  obtain ⟨g2, ss⟩ := g1.frz e1 e2 e3 e4
  exact k _ _ H1 g2 (.lst (.of upd_same) (Dpam r ss))⟩
theorem el_lst (h : AX G es ρ ds ρ1) (hz : ds.length ≤ 1000 := by exact Nat.le_of_ble_eq_true rfl) : EXL G (.List es pos) ρ ds ρ1 := fun X F => PEw (pe_lst (h.2 X F)) fun σ H Q ⟨B, S, h, k⟩ =>
  ⟨B, S, h, fun vs S1 H1 h1 r1 => ⟨by rw [dpa_len r1]; exact Nat.le_of_lt (small1000 hz), fun p hp => by
    have n : Nw S1 H1 S1 (upd H1 p (.lst vs)) := ⟨(Nw.one h1.sub hp).hh, Same.refl _, h1.sub.trans (Nw.one h1.sub hp).hh, fun _ _ z => z⟩
    refine k p vs S1 _ (h1.grow n) upd_same (h1.sub.free hp) (h1.dom p hp) r1 fun i es q => ?_
    obtain ⟨_, _, _, ws, q4, _⟩ := h1.mt i p es q
    rw [hp] at q4
    cases q4⟩⟩
/-! blocks -/
theorem b_nil : BX G m [] ρ (.nx ρ) := fun X F => PSsw pss_nil fun D σ H ⟨B, S, e, h, k⟩ => k σ S H h
theorem b_cons (h1 : SX G m st ρ (.nx ρ1)) (h2 : BX G m rest ρ1 o) : BX G m (st :: rest) ρ o := fun X F => PSsw (pss_cons (h1 X F) (h2 X F)) fun D σ H ⟨B, S, e, h, k⟩ =>
  ⟨B, S, e, h, fun σ1 S1 H1 g1 => ⟨B, S1, e, g1, k⟩⟩
theorem b_ret (h1 : SX G m st ρ (.rt d ρ1)) : BX G m (st :: rest) ρ (.rt d ρ1) := fun X F => PSsw (pss_cons (h1 X F) (u := tNever) pss_never) fun D σ H ⟨B, S, e, h, k⟩ => ⟨B, S, e, h, k⟩
theorem b_bk (h1 : SX G m st ρ (.bk ρ1)) : BX G m (st :: rest) ρ (.bk ρ1) := fun X F => PSsw (pss_cons (h1 X F) (u := tNever) pss_never) fun D σ H ⟨B, S, e, h, k⟩ => ⟨B, S, e, h, k⟩
theorem b_ct (h1 : SX G m st ρ (.ct ρ1)) : BX G m (st :: rest) ρ (.ct ρ1) := fun X F => PSsw (pss_cons (h1 X F) (u := tNever) pss_never) fun D σ H ⟨B, S, e, h, k⟩ => ⟨B, S, e, h, k⟩
/-- slots forgotten ahead -/
theorem b_drop (is : List Nat) (h : BX G m sts (fg is ρ) o) : BX G m sts ρ o := fun X F => PSsw (h X F) fun D σ H ⟨B, S, e, h, k⟩ => ⟨B, S, e, h.drop, k⟩
theorem fg_nil : fg [] ρ = ρ := rfl
/-- slots forgotten behind -/
theorem b_nx (is : List Nat) (h : BX G m sts ρ (.nx ρ1)) : BX G m sts ρ (.nx (fg is ρ1)) := fun X F => PSsw (h X F) fun D σ H ⟨B, S, e, h, k⟩ => ⟨B, S, e, h, fun σ1 S1 H1 g => k σ1 S1 H1 g.drop⟩
theorem b_rtd (is : List Nat) (h : BX G m sts ρ (.rt d ρ1)) : BX G m sts ρ (.rt d (fg is ρ1)) := fun X F => PSsw (h X F) fun D σ H ⟨B, S, e, h, k⟩ => ⟨B, S, e, h, fun v σ1 S1 H1 g r => k v σ1 S1 H1 g.drop r⟩
/-- a list that is not changed any more -/
theorem b_freeze (i : Nat) {q : Addr} (hi : ρ[i]? = some (.mut q ds)) (hm : ¬ m q) (h : BX G m sts (ρ.set i (.dat (.list ds))) o) : BX G m sts ρ o := fun X F => PSsw (h X F) fun D σ H ⟨B, S, e, h, k⟩ => by
  obtain ⟨S2, g, ss⟩ := h.freeze hi (by rw [e.1]; exact hm)
  exact ⟨B, S2, e, g, k⟩
/-! small statements -/
theorem s_ret (h : EX G e ρ d ρ1) : SX G m (.Return (some e) pos) ρ (.rt d ρ1) := fun X F => PSw (ps_ret (h X F)) fun D σ H ⟨B, S, q, h, k⟩ => ⟨B, S, h, fun v S1 H1 g r => k v σ S1 H1 g r⟩
/-- return of a new list -/
theorem s_retL (h : EXL G e ρ ds ρ1) : SX G m (.Return (some e) pos) ρ (.rl ds ρ1) := fun X F => PSw (ps_ret (h X F)) fun D σ H ⟨B, S, q, h, k⟩ => ⟨B, S, h, fun L vs S1 H1 g e1 e2 e3 r _ => k L vs σ S1 H1 g e1 e2 e3 r⟩
theorem b_retL (h1 : SX G m st ρ (.rl ds ρ1)) : BX G m (st :: rest) ρ (.rl ds ρ1) := fun X F => PSsw (pss_cons (h1 X F) (u := tNever) pss_never) fun D σ H ⟨B, S, e, h, k⟩ => ⟨B, S, e, h, k⟩
theorem s_pass : SX G m (.Pass pos) ρ (.nx ρ) := fun X F => PSw ps_pass fun D σ H ⟨B, S, q, h, k⟩ => k σ S H h
theorem s_break : SX G m (.Break pos) ρ (.bk ρ) := fun X F => PSw ps_break fun D σ H ⟨B, S, q, h, k⟩ => k σ S H h
theorem s_expr (h : EX G e ρ d ρ1) (hs : ∀ env : Env, swapsWith e none pos.line env = pure false := by intro _; rfl) : SX G m (.Expr e pos) ρ (.nx ρ1) := fun X F => PSw (ps_expr (h X F) (hs _)) fun D σ H ⟨B, S, q, h, k⟩ => ⟨B, S, h, fun v S1 H1 g r => k σ S1 H1 g⟩
theorem s_ifT (hc : TX G c ρ true ρ1) (h : BX G m body ρ1 o) : SX G m (.If c body orelse pos) ρ o := fun X F => PSw (ps_if (hc X F) (h X F) (u := tNever) pss_never) fun D σ H ⟨B, S, q, h, k⟩ => ⟨B, S, h, fun S1 H1 g => iteT ⟨B, S1, q, g, k⟩⟩
theorem s_ifF (hc : TX G c ρ false ρ1) (h : BX G m orelse ρ1 o) : SX G m (.If c body orelse pos) ρ o := fun X F => PSw (ps_if (hc X F) (t := tNever) pss_never (h X F)) fun D σ H ⟨B, S, q, h, k⟩ => ⟨B, S, h, fun S1 H1 g => iteF ⟨B, S1, q, g, k⟩⟩
theorem s_if {b1 : Bool} (hc : TX G c ρ b1 ρ1) (hT : b1 = true → BX G m body ρ1 o) (hF : b1 = false → BX G m orelse ρ1 o) : SX G m (.If c body orelse pos) ρ o := by
  cases b1 with
  | true => exact s_ifT hc (hT rfl)
  | false => exact s_ifF hc (hF rfl)
theorem assign1 (env : Env) (hs : ∀ env : Env, assignEach [tg] env = [(false, assign tg env)]) : (assignEach [tg] env).map (·.2) = [assign tg env] := by rw [hs]; rfl
/-- target = e -/
theorem s_asg {is : List Nat} (h : EX G e ρ d ρ1) (hg : GX G tg d is ds) (hs : ∀ env : Env, swapsWithSole [tg] e pos.line env = pure false := by intro _; rfl) (hw : ∀ env : Env, env.scope = G.sc → swappedStores [tg] e env = pure none := by intro _ _; rfl)
    (h1 : ∀ env : Env, assignEach [tg] env = [(false, assign tg env)] := by intro _; rfl) : SX G m (.Assign [tg] e pos) ρ (.nx (setD ρ1 is ds)) := fun X F => PSw (ps_asg (h X F) (hg.2 X F) (hs _) (hw _ F.sc) (assign1 _ h1)) fun D σ H ⟨B, S, q, h, k⟩ =>
  ⟨B, S, h, fun v S1 H1 g r => ⟨S1, g.sub, r, fun vs r2 => k _ S1 H1 (g.setD r2)⟩⟩
/-- name = e -/
theorem s_set (i : Nat) (nd : G.N.Nodup) (h : EX G e ρ d ρ1) (hN : G.N[i]? = some x := by rfl) (hl : locB G.sc x = true := by rfl) (hf : storB G x = true := by rfl) (hs : ∀ env : Env, env.scope = G.sc → swapsWith e (some (.Name x p)) pos.line env = pure false := by intro _ _; rfl) : SX G m (.Assign [.Name x p] e pos) ρ (.nx (ρ1.set i (.dat d))) := fun X F =>
  PSw (ps_set (i := i) (by rw [F.N]; exact nd) (by rw [F.N]; exact hN) (by rw [F.sc]; exact locB_ok hl) (h X F) (hs _ F.sc) (storB_ok F hf)) fun D σ H ⟨B, S, q, h, k⟩ => ⟨B, S, h, fun v S1 H1 g r => k _ S1 H1 (g.set r)⟩
/-- name = a new list, to be changed -/
theorem b_new (i : Nat) (nd : G.N.Nodup) (h : EXL G e ρ ds ρ1) (h2 : ∀ q, ¬ m q → BX G m rest (ρ1.set i (.mut q ds)) o) (hN : G.N[i]? = some x := by rfl) (hl : locB G.sc x = true := by rfl) (hf : storB G x = true := by rfl) (hs : ∀ env : Env, env.scope = G.sc → swapsWith e (some (.Name x p)) pos.line env = pure false := by intro _ _; rfl) : BX G m (.Assign [.Name x p] e pos :: rest) ρ o := fun X F =>
  PSsw (pss_cons (ps_set (i := i) (by rw [F.N]; exact nd) (by rw [F.N]; exact hN) (by rw [F.sc]; exact locB_ok hl) (h X F) (hs _ F.sc) (storB_ok F hf)) pss_any) fun D σ H ⟨B, S, q, h, k⟩ => ⟨B, S, h, fun L vs S1 H1 g e1 e2 e3 r e4 =>
    ⟨_, h2 L (fun z => q.2 L z e3) X F, B, S1, q, g.own e1 e2 e3 e4 r, k⟩⟩
/-! ### loops -/
inductive Lp (G : Gam) (m : Addr → Prop) (tg : Expr) (body : List Stmt) : List PyData → List Sl → Out → Prop
  | nil (is : List Nat) {ρ : List Sl} : Lp G m tg body [] ρ (.nx (fg is ρ))
  | step {x : PyData} {xs : List PyData} {ρ ρ2 : List Sl} {is : List Nat} {ds : List PyData} {o : Out} (is2 : List Nat) : GX G tg x is ds → BX G m body (setD ρ is ds) (.nx ρ2) → Lp G m tg body xs (fg is2 ρ2) o → Lp G m tg body (x :: xs) ρ o
  | brk {x : PyData} {xs : List PyData} {ρ ρ2 : List Sl} {is : List Nat} {ds : List PyData} : GX G tg x is ds → BX G m body (setD ρ is ds) (.bk ρ2) → Lp G m tg body (x :: xs) ρ (.nx ρ2)
  | ret {x : PyData} {xs : List PyData} {ρ ρ2 : List Sl} {is : List Nat} {ds : List PyData} {d : PyData} : GX G tg x is ds → BX G m body (setD ρ is ds) (.rt d ρ2) → Lp G m tg body (x :: xs) ρ (.rt d ρ2)
theorem s_for (hi : IX G tg it ρ items ρ1) (hl : Lp G m tg body items ρ1 o) : SX G m (.For tg it body [] pos) ρ o := fun X F => by
  have hp : PassesOwn (model X.prog X.w) X.A X.env X.xe := by
    rw [F.xe]
    exact .never
  refine PSw (ps_for hp F.calm (hi.2 X F) pg_any pss_any (hi.1 _)) fun D σ H ⟨B, S, q, h, k⟩ => ?_
  refine ⟨B, S, h, fun J S1 H1 g wk => ?_⟩
  refine ⟨fun i mm σ' H' => ∃ S' ρi, Ab G.K (B.at_ S1) S' H' σ' ρi ∧ Lp G m tg body (items.drop i) ρi o ∧ mm = items.length - i ∧ i ≤ items.length, ⟨_, S1, ρ1, g.up, hl, rfl, Nat.zero_le _⟩, ?_⟩
  rintro i mm σ' H' ⟨S', ρi, gi, li, rfl, hle⟩
  obtain ⟨w1, w2, w3⟩ := wk S' H' gi.s0 gi.sub
  by_cases hlt : i < items.length
  · right
    rw [List.drop_eq_getElem_cons hlt] at li
    refine ⟨w1 i hlt, ?_⟩
    have yl : ∀ x H2, J.yld i H' x H2 → ∃ S2, Ab G.K (B.at_ S1) S2 H2 σ' ρi ∧ Dp G.K S2 x items[i] := fun x H2 y => by
      obtain ⟨S2, n, r⟩ := w3 i x H2 _ (List.getElem?_eq_getElem hlt) y
      exact ⟨S2, gi.grow n, r⟩
    cases li with
    | @step _ _ _ ρ2 is ds _ is2 hg hb hn =>
      refine ⟨fun σ2 H2 => ∃ S2, Ab G.K (B.at_ S1) S2 H2 σ2 ρ2, fun σ2 H2 ⟨S2, g2⟩ => ⟨items.length - (i + 1), by omega, S2, fg is2 ρ2, g2.drop, hn, rfl, hlt⟩, fun x H2 y => ?_⟩
      obtain ⟨S2, g2, r⟩ := yl x H2 y
      refine ⟨_, hg.2 X F, S2, g2.sub, r, fun vs r2 => ⟨_, hb X F, B.at_ S1, S2, q, g2.setD r2, fun σ3 S3 H3 g3 => ⟨S3, g3⟩⟩⟩
    | @brk _ _ _ ρ2 is ds hg hb =>
      refine ⟨fun _ _ => False, fun _ _ z => z.elim, fun x H2 y => ?_⟩
      obtain ⟨S2, g2, r⟩ := yl x H2 y
      exact ⟨_, hg.2 X F, S2, g2.sub, r, fun vs r2 => ⟨_, hb X F, B.at_ S1, S2, q, g2.setD r2, fun σ3 S3 H3 g3 => k σ3 S3 H3 (g.down g3)⟩⟩
    | @ret _ _ _ ρ2 is ds d hg hb =>
      refine ⟨fun _ _ => False, fun _ _ z => z.elim, fun x H2 y => ?_⟩
      obtain ⟨S2, g2, r⟩ := yl x H2 y
      exact ⟨_, hg.2 X F, S2, g2.sub, r, fun vs r2 => ⟨_, hb X F, B.at_ S1, S2, q, g2.setD r2, fun v σ3 S3 H3 g3 r3 => k v σ3 S3 H3 (g.down g3) r3⟩⟩
  · left
    have e : i = items.length := by omega
    subst e
    rw [List.drop_length] at li
    cases li with
    | nil is => exact ⟨w2, k _ _ _ (g.down gi).drop⟩
inductive Wl (G : Gam) (m : Addr → Prop) (c : Expr) (body : List Stmt) : Nat → List Sl → Out → Prop
  | stop {n : Nat} {ρ ρ1 : List Sl} : TX G c ρ false ρ1 → Wl G m c body n ρ (.nx ρ1)
  | step {n : Nat} {ρ ρ1 ρ2 : List Sl} {o : Out} (is2 : List Nat) : TX G c ρ true ρ1 → BX G m body ρ1 (.nx ρ2) → Wl G m c body n (fg is2 ρ2) o → Wl G m c body (n + 1) ρ o
theorem s_while {n : Nat} (hl : Wl G m c body n ρ o) : SX G m (.While c body [] pos) ρ o := fun X F => by
  have hp : PassesOwn (model X.prog X.w) X.A X.env X.xe := by
    rw [F.xe]
    exact .never
  refine PSw (ps_while hp pt_any pss_any) fun D σ H ⟨B, S, q, h, k⟩ => ?_
  refine ⟨fun mm σ' H' => ∃ S' ρi, Ab G.K B S' H' σ' ρi ∧ Wl G m c body mm ρi o, ⟨n, S, ρ, h, hl⟩, ?_⟩
  rintro mm σ' H' ⟨S', ρi, gi, li⟩
  cases li with
  | stop ht => exact ⟨_, ht X F, B, S', gi, fun S1 H1 g1 => iteF (k _ _ _ g1)⟩
  | @step n _ ρ1 ρ2 _ is2 ht hb hn =>
    exact ⟨_, ht X F, B, S', gi, fun S1 H1 g1 => iteT ⟨fun σ2 H2 => ∃ S2, Ab G.K B S2 H2 σ2 ρ2, fun σ2 H2 ⟨S2, g2⟩ => ⟨n, Nat.lt_succ_self _, S2, fg is2 ρ2, g2.drop, hn⟩, _, hb X F, B, S1, q, g1, fun σ3 S3 H3 g3 => ⟨S3, g3⟩⟩⟩
/-! ### methods that change a list -/
theorem few1 {env : Env} (h : notStar e = true) : ((backTo cpos (starEach [e] env)).all (fun x => !x.1) && (backToKw cpos (keywordEach [] env)).all (fun x => x.1.isSome) && decide (([e] : List Expr).length + ([] : List Keyword).length + (if ([] : List Keyword).isEmpty then 0 else 1) < 30)) = true := by
  rw [starE1 h]
  rfl
theorem few2 {env : Env} (h : notStar a = true) (h2 : notStar b = true) : ((backTo cpos (starEach [a, b] env)).all (fun x => !x.1) && (backToKw cpos (keywordEach [] env)).all (fun x => x.1.isSome) && decide (([a, b] : List Expr).length + ([] : List Keyword).length + (if ([] : List Keyword).isEmpty then 0 else 1) < 30)) = true := by
  rw [star_cons h, starE1 h2]
  rfl
/-- x.append(e) -/
theorem s_append (i : Nat) {q : Addr} {ds0 : List PyData} (h : EX G e ρ d ρ1) (h0 : ρ[i]? = some (.mut q ds0) := by rfl) (h1 : ρ1[i]? = some (.mut q ds) := by rfl) (hz : ds.length ≤ 1000) (hs : notStar e = true := by rfl) (hN : G.N[i]? = some y := by rfl) (hv : visB G.sc y = true := by rfl) (hd : (y == ("__debug__" : Str)) = false := by decide) (hcd : (y == ("__classdict__" : Str)) = false := by decide) (hl : (apos.endLine == cpos.line) = true := by rfl) :
    SX G m (.Expr (.Call (.Attribute (.Name y p2) "append" apos) [e] [] cpos) pos) ρ (.nx (ρ1.set i (.mut q (ds ++ [d])))) := fun X F => by
  have pv0 : PE X (.Name y p2) (tVar i) := pe_var (i := i) (by rw [F.N]; exact hN) (by rw [F.sc]; exact visB_ok hv) hd hcd
  refine PSw (ps_expr (pe_bm PySem.F.plainAttrs_list PySem.F.slot_list_append PySem.F.type_list_append mt_append pv0 ((a_cons h a_nil hs).2 X F) rfl (few1 hs) hl (star_cons hs) rfl)) fun D σ H ⟨B, S, eq, g, k⟩ => ?_
  obtain ⟨q1, q2, q3, vs0, q4, q5⟩ := g.mt i q ds0 h0
  refine ⟨.ref q, q1, .inl ⟨rfl, vs0, .of q4⟩, B, S, g, fun vs S1 H1 g1 r => ?_⟩
  obtain ⟨v, rfl, r1⟩ := dpa1 r
  obtain ⟨_, _, _, ws, z4, z5⟩ := g1.mt i q ds h1
  exact ⟨q, ws, v, rfl, rfl, z4, by rw [dpa_len z5]; exact small1000 hz, k _ _ _ (g1.mutate h1 (dpa_app z5 (.cons r1 .nil)))⟩
/-- x.insert(0, e) -/
theorem s_insert0 (i : Nat) {q : Addr} {ds0 : List PyData} {j : _} {p3 : Pos} (h : EX G e ρ d ρ1) (h0 : ρ[i]? = some (.mut q ds0) := by rfl) (h1 : ρ1[i]? = some (.mut q ds) := by rfl) (hz : ds.length ≤ 1000) (hs : notStar e = true := by rfl) (hN : G.N[i]? = some y := by rfl) (hv : visB G.sc y = true := by rfl) (hd : (y == ("__debug__" : Str)) = false := by decide) (hcd : (y == ("__classdict__" : Str)) = false := by decide) (hl : (apos.endLine == cpos.line) = true := by rfl) :
    SX G m (.Expr (.Call (.Attribute (.Name y p2) "insert" apos) [.Constant (.int 0) j p3, e] [] cpos) pos) ρ (.nx (ρ1.set i (.mut q (d :: ds)))) := fun X F => by
  have pv0 : PE X (.Name y p2) (tVar i) := pe_var (i := i) (by rw [F.N]; exact hN) (by rw [F.sc]; exact visB_ok hv) hd hcd
  refine PSw (ps_expr (pe_bm PySem.F.plainAttrs_list PySem.F.slot_list_insert PySem.F.type_list_insert mt_insert pv0 ((a_cons e_int (a_cons h a_nil hs) rfl).2 X F) rfl (few2 rfl hs) hl (star_cons rfl) (by rw [starE1 hs]; rfl))) fun D σ H ⟨B, S, eq, g, k⟩ => ?_
  obtain ⟨q1, q2, q3, vs0, q4, q5⟩ := g.mt i q ds0 h0
  refine ⟨.ref q, q1, .inl ⟨rfl, vs0, .of q4⟩, B, S, g, fun vs S1 H1 g1 r => ?_⟩
  obtain ⟨u, v, rfl, r1, r2⟩ := dpa2 r
  cases r1
  obtain ⟨_, _, _, ws, z4, z5⟩ := g1.mt i q ds h1
  exact ⟨q, ws, 0, v, rfl, rfl, z4, by rw [dpa_len z5]; exact small1000 hz, by decide, by decide, k _ _ _ (g1.mutate h1 (.cons r2 z5))⟩
/-- x.extend(a new list) -/
theorem s_extend (i : Nat) {q : Addr} {ds0 zs : List PyData} (h : EXL G e ρ zs ρ1) (h0 : ρ[i]? = some (.mut q ds0) := by rfl) (h1 : ρ1[i]? = some (.mut q ds) := by rfl) (hz : ds.length + zs.length ≤ 1000) (hs : notStar e = true := by rfl) (hN : G.N[i]? = some y := by rfl) (hv : visB G.sc y = true := by rfl) (hd : (y == ("__debug__" : Str)) = false := by decide) (hcd : (y == ("__classdict__" : Str)) = false := by decide) (hl : (apos.endLine == cpos.line) = true := by rfl) :
    SX G m (.Expr (.Call (.Attribute (.Name y p2) "extend" apos) [e] [] cpos) pos) ρ (.nx (ρ1.set i (.mut q (ds ++ zs)))) := fun X F => by
  have pv0 : PE X (.Name y p2) (tVar i) := pe_var (i := i) (by rw [F.N]; exact hN) (by rw [F.sc]; exact visB_ok hv) hd hcd
  refine PSw (ps_expr (pe_bm PySem.F.plainAttrs_list PySem.F.slot_list_extend PySem.F.type_list_extend mt_extend pv0 (pa_cons (h X F) pa_nil (star_cons hs)) rfl (few1 hs) hl (star_cons hs) rfl)) fun D σ H ⟨B, S, eq, g, k⟩ => ?_
  obtain ⟨q1, q2, q3, vs0, q4, q5⟩ := g.mt i q ds0 h0
  refine ⟨.ref q, q1, .inl ⟨rfl, vs0, .of q4⟩, B, S, g, fun L vs S1 H1 g1 e1 e2 e3 r e4 => ?_⟩
  obtain ⟨_, _, _, ws, z4, z5⟩ := g1.mt i q ds h1
  exact ⟨q, L, ws, vs, rfl, rfl, z4, e1, by rw [dpa_len z5, dpa_len r]; exact Nat.le_of_lt (small1000 hz), k _ _ _ (g1.mutate h1 (dpa_app z5 r))⟩
/-- x[k] = e, x a list that may be changed -/
theorem s_setM (i : Nat) {q : Addr} {ds0 : List PyData} {kk : Int} {j : Nat} (h : EX G e ρ d ρ1) (hk : EX G a ρ1 (.int kk) ρ2) (h0 : ρ1[i]? = some (.mut q ds0) := by rfl) (h1 : ρ2[i]? = some (.mut q ds) := by rfl) (hj : ixN ds.length kk = some j) (hN : G.N[i]? = some y := by rfl) (hv : visB G.sc y = true := by rfl) (hd : (y == ("__debug__" : Str)) = false := by decide) (hcd : (y == ("__classdict__" : Str)) = false := by decide)
    (ha : ∀ (env : Env) (v : Value), assign (.Subscript (.Name y p2) a p) env v = (do
      let ov ← holding [v] (eval (.Name y p2) env)
      let iv ← holding [v, ov] (eval a env)
      standAt p
      holding [v, ov, iv] (setItem ov iv v)
      release [v, ov, iv] []) := by intro _ _; rfl) (hs : ∀ env : Env, swapsWithSole [.Subscript (.Name y p2) a p] e pos.line env = pure false := by intro _; rfl) (hw : ∀ env : Env, swappedStores [.Subscript (.Name y p2) a p] e env = pure none := by intro _; rfl) :
    SX G m (.Assign [.Subscript (.Name y p2) a p] e pos) ρ (.nx (ρ2.set i (.mut q (ds.set j d)))) := fun X F => by
  have pv0 : PE X (.Name y p2) (tVar i) := pe_var (i := i) (by rw [F.N]; exact hN) (by rw [F.sc]; exact visB_ok hv) hd hcd
  refine PSw (ps_asg (h X F) (pg_sub pv0 (hk X F) set_list (ha _)) (hs _) (hw _) rfl) fun D σ H ⟨B, S, eq, g, k⟩ => ?_
  refine ⟨B, S, g, fun v S1 H1 g1 r => ?_⟩
  obtain ⟨q1, q2, q3, vs0, q4, q5⟩ := g1.mt i q ds0 h0
  refine ⟨.ref q, q1, cut S1 H1 ρ1, S1, g1.here, fun v2 S2 H2 g2 r2 => ?_⟩
  cases r2
  obtain ⟨_, _, _, ws, z4, z5⟩ := g2.mt i q ds h1
  exact ⟨q, ws, kk, j, rfl, rfl, z4, by rw [dpa_len z5]; exact hj, k _ _ _ ((g1.trans g2).mutate h1 (dpa_set j z5 (Dpm r g2.s0)))⟩
end
end Sg
namespace Sg
open PySem PySem.Spec PyProof.Rows L2
/-! ### the slots of a block's own names -/
theorem wipe_get : ∀ {vs : List Nat} {σ : L2.St} {j : Nat}, (wipe σ vs)[j]? = if j ∈ vs then (if j < σ.length then some none else none) else σ[j]?
  | [], σ, j => by simp [wipe]
  | v :: vs, σ, j => by
    show ((wipe σ vs).set v none)[j]? = _
    by_cases e : v = j
    · subst e
      rw [if_pos List.mem_cons_self]
      by_cases hl : v < σ.length
      · rw [if_pos hl, List.getElem?_set_self (by rw [wipe_length]; exact hl)]
      · rw [if_neg hl]
        exact List.getElem?_eq_none (by rw [List.length_set, wipe_length]; omega)
    · rw [List.getElem?_set_ne e, wipe_get]
      by_cases h : j ∈ vs
      · rw [if_pos h, if_pos (List.mem_cons_of_mem _ h)]
      · rw [if_neg h, if_neg (fun z => by rcases List.mem_cons.mp z with z | z; exact e z.symm; exact h z)]
theorem wipe_set {vs : List Nat} {σ : L2.St} {i : Nat} {x : Option V} (h : i ∈ vs) : wipe (σ.set i x) vs = wipe σ vs := by
  refine List.ext_getElem? fun j => ?_
  rw [wipe_get, wipe_get, List.length_set]
  by_cases hj : j ∈ vs
  · rw [if_pos hj, if_pos hj]
  · rw [if_neg hj, if_neg hj, List.getElem?_set_ne (fun e => hj (by rw [← e]; exact h))]
theorem wipe_setV {vs : List Nat} : ∀ {is : List Nat} {ws : List V} {σ : L2.St}, (∀ i ∈ is, i ∈ vs) → wipe (setV σ is ws) vs = wipe σ vs
  | [], _, _, _ => by simp [setV]
  | i :: is, [], _, _ => by simp [setV]
  | i :: is, w :: ws, σ, h => by
    show wipe (setV (σ.set i (some w)) is ws) vs = _
    rw [wipe_setV (fun j hj => h j (List.mem_cons_of_mem _ hj)), wipe_set (h i List.mem_cons_self)]
theorem wipe_wipe {vs : List Nat} {σ : L2.St} : wipe (wipe σ vs) vs = wipe σ vs := by
  refine List.ext_getElem? fun j => ?_
  rw [wipe_get, wipe_get, wipe_length]
  by_cases hj : j ∈ vs
  · rw [if_pos hj, if_pos hj]
  · rw [if_neg hj]
theorem setV_len : ∀ {is : List Nat} {ws : List V} {σ : L2.St}, (setV σ is ws).length = σ.length
  | [], _, _ => by simp [setV]
  | i :: is, [], _ => by simp [setV]
  | i :: is, w :: ws, σ => by
    show (setV (σ.set i (some w)) is ws).length = _
    rw [setV_len, List.length_set]
theorem fg_get : ∀ {is : List Nat} {ρ : List Sl} {j : Nat}, (fg is ρ)[j]? = if j ∈ is then (if j < ρ.length then some .no else none) else ρ[j]?
  | [], ρ, j => by simp [fg]
  | i :: is, ρ, j => by
    show (fg is (ρ.set i .no))[j]? = _
    rw [fg_get, List.length_set]
    by_cases h : j ∈ is
    · rw [if_pos h, if_pos (List.mem_cons_of_mem _ h)]
    · rw [if_neg h]
      by_cases e : i = j
      · subst e
        rw [if_pos List.mem_cons_self]
        by_cases hl : i < ρ.length
        · rw [if_pos hl, List.getElem?_set_self hl]
        · rw [if_neg hl]
          exact List.getElem?_eq_none (by rw [List.length_set]; omega)
      · rw [List.getElem?_set_ne e, if_neg (fun z => by rcases List.mem_cons.mp z with z | z; exact e z.symm; exact h z)]
theorem fg_len : ∀ {is : List Nat} {ρ : List Sl}, (fg is ρ).length = ρ.length
  | [], ρ => rfl
  | i :: is, ρ => by
    show (fg is (ρ.set i .no)).length = _
    rw [fg_len, List.length_set]
def rest (own : List Nat) (ρ1 ρ' : List Sl) : List Sl := own.foldl (fun r i => r.set i ((ρ1[i]?).getD .no)) ρ'
theorem rest_get : ∀ {own : List Nat} {ρ1 ρ' : List Sl} {j : Nat}, (rest own ρ1 ρ')[j]? = if j ∈ own then (if j < ρ'.length then some ((ρ1[j]?).getD .no) else none) else ρ'[j]?
  | [], ρ1, ρ', j => by simp [rest]
  | i :: is, ρ1, ρ', j => by
    show (rest is ρ1 (ρ'.set i ((ρ1[i]?).getD .no)))[j]? = _
    rw [rest_get, List.length_set]
    by_cases h : j ∈ is
    · rw [if_pos h, if_pos (List.mem_cons_of_mem _ h)]
    · rw [if_neg h]
      by_cases e : i = j
      · subst e
        rw [if_pos List.mem_cons_self]
        by_cases hl : i < ρ'.length
        · rw [if_pos hl, List.getElem?_set_self hl]
        · rw [if_neg hl]
          exact List.getElem?_eq_none (by rw [List.length_set]; omega)
      · rw [List.getElem?_set_ne e, if_neg (fun z => by rcases List.mem_cons.mp z with z | z; exact e z.symm; exact h z)]
theorem rest_len : ∀ {own : List Nat} {ρ1 ρ' : List Sl}, (rest own ρ1 ρ').length = ρ'.length
  | [], ρ1, ρ' => rfl
  | i :: is, ρ1, ρ' => by
    show (rest is ρ1 (ρ'.set i _)).length = _
    rw [rest_len, List.length_set]
def noMut (own : List Nat) (ρ : List Sl) : Bool := own.all fun i => match ρ[i]? with
  | some (.mut _ _) => false
  | _ => true
section
variable {K : PySem.W.Frag} {B : Bs} {S S' S2 H H' H2 : Hp} {σ σ' : L2.St} {ρ ρ' ρ1 ρ2 ρ3 : List Sl} {own : List Nat}
theorem Ab.wipe (h : Ab K B S H σ ρ) (own : List Nat) : Ab K B S H (L2.wipe σ own) (fg own ρ) := by
  have get : ∀ (j : Nat) (s : Sl), s ≠ .no → (fg own ρ)[j]? = some s → j ∉ own ∧ ρ[j]? = some s := fun j s hs e => by
    rw [fg_get] at e
    by_cases hj : j ∈ own
    · rw [if_pos hj] at e
      split at e
      · cases e; exact absurd rfl hs
      · cases e
    · rw [if_neg hj] at e
      exact ⟨hj, e⟩
  refine ⟨h.sub, h.s0, h.fr, h.dom, h.new, by rw [wipe_length, fg_len, h.len], fun j d e => ?_, fun j a ds e => ?_, fun j k a ds es e1 e2 => ?_⟩
  · obtain ⟨n1, n2⟩ := get j _ (by intro z; cases z) e
    obtain ⟨v, h1, h2⟩ := h.dat j d n2
    exact ⟨v, by rw [wipe_get, if_neg n1]; exact h1, h2⟩
  · obtain ⟨n1, n2⟩ := get j _ (by intro z; cases z) e
    obtain ⟨h1, h2⟩ := h.mt j a ds n2
    exact ⟨by rw [wipe_get, if_neg n1]; exact h1, h2⟩
  · obtain ⟨_, n2⟩ := get j _ (by intro z; cases z) e1
    obtain ⟨_, n3⟩ := get k _ (by intro z; cases z) e2
    exact h.sep _ _ _ _ _ n2 n3
theorem Ab.restore {B0 : Bs} {S0 H0 : Hp} (h0 : Ab K B0 S0 H0 σ ρ1) (ss : Same S0 S) (hm : noMut own ρ1 = true) (h : Ab K B S H (L2.wipe σ own) ρ') : Ab K B S H σ (rest own ρ1 ρ') := by
  have hlen : σ.length = ρ'.length := by rw [← h.len, wipe_length]
  have nm : ∀ j ∈ own, ∀ a ds, ρ1[j]? ≠ some (.mut a ds) := fun j hj a ds e => by
    have q := List.all_eq_true.mp hm j hj
    simp only [e] at q
    cases q
  have mget : ∀ (j : Nat) (a : Addr) (ds : List PyData), (rest own ρ1 ρ')[j]? = some (.mut a ds) → j ∉ own ∧ ρ'[j]? = some (.mut a ds) := fun j a ds e => by
    rw [rest_get] at e
    by_cases hj : j ∈ own
    · rw [if_pos hj] at e
      split at e
      · cases q : ρ1[j]? with
        | none => rw [q] at e; cases e
        | some s =>
          rw [q] at e
          have e : s = .mut a ds := Option.some.inj e
          exact absurd (by rw [q, e]) (nm j hj a ds)
      · cases e
    · rw [if_neg hj] at e
      exact ⟨hj, e⟩
  refine ⟨h.sub, h.s0, h.fr, h.dom, h.new, by rw [rest_len, hlen], fun j d e => ?_, fun j a ds e => ?_, fun j k a ds es e1 e2 => ?_⟩
  · rw [rest_get] at e
    by_cases hj : j ∈ own
    · rw [if_pos hj] at e
      split at e
      · cases q : ρ1[j]? with
        | none => rw [q] at e; cases e
        | some s =>
          rw [q] at e
          have e : s = .dat d := Option.some.inj e
          subst e
          obtain ⟨v, h1, h2⟩ := h0.dat j d q
          exact ⟨v, h1, Dpm h2 ss⟩
      · cases e
    · rw [if_neg hj] at e
      obtain ⟨v, h1, h2⟩ := h.dat j d e
      rw [wipe_get, if_neg hj] at h1
      exact ⟨v, h1, h2⟩
  · obtain ⟨n1, n2⟩ := mget j a ds e
    obtain ⟨h1, h2⟩ := h.mt j a ds n2
    rw [wipe_get, if_neg n1] at h1
    exact ⟨h1, h2⟩
  · exact h.sep _ _ _ _ _ (mget j a ds e1).2 (mget k a es e2).2
end
/-! ### the blocks of comprehensions, by a decision -/
def blkB (N : List Str) (sc scope : Scope) (own : List (Str × Nat)) : Bool :=
  (match scope.kind with | .function => true | _ => false) && scope.names.all (fun y => decide (scope.names.lookup y.1 = some y.2)) && own.all (fun p => decide (N[p.2]? = some p.1)) &&
  scope.names.all (fun y => match y.2 with | .free => (match sc.names.lookup y.1 with | some .cell => true | some .free => true | _ => false) | .local => decide (y.1 ∈ own.map (·.1)) || decide (y.1 ∉ N) | .cell => decide (y.1 ∈ own.map (·.1)) || decide (y.1 ∉ N) | _ => true)
theorem blkB_mk {N : List Str} {sc scope : Scope} {own : List (Str × Nat)} (h : blkB N sc scope own = true) : BlkOk N sc scope own := by
  unfold blkB at h
  simp only [Bool.and_eq_true] at h
  obtain ⟨⟨⟨h1, h2⟩, h3⟩, h4⟩ := h
  refine ⟨?_, fun y hy => of_decide_eq_true (List.all_eq_true.mp h2 y hy), fun p hp => of_decide_eq_true (List.all_eq_true.mp h3 p hp), fun y hy e => ?_, fun y hy e => ?_⟩
  · cases q : scope.kind with
    | function => rfl
    | _ => rw [q] at h1; cases h1
  · have q := List.all_eq_true.mp h4 y hy
    rw [e] at q
    simp only at q
    cases z : sc.names.lookup y.1 with
    | none => rw [z] at q; cases q
    | some k =>
      rw [z] at q
      cases k with
      | cell => exact .inl rfl
      | free => exact .inr rfl
      | _ => cases q
  · have q := List.all_eq_true.mp h4 y hy
    rcases e with e | e
    · rw [e] at q
      simp only [Bool.or_eq_true, decide_eq_true_eq] at q
      exact q
    · rw [e] at q
      simp only [Bool.or_eq_true, decide_eq_true_eq] at q
      exact q
/-! ### comprehensions -/
def IfX (G : Gam) (ifs : List Expr) (ρ : List Sl) (b : Bool) (ρ' : List Sl) : Prop := ∀ X, Fits G X → PTs X ifs (tT G.K ρ b ρ')
theorem PTsw {X : Cx} {e : List Expr} {t t' : TT} (h : PTs X e t) (k : ∀ σ H Q, t' σ H Q → t σ H Q) : PTs X e t' := ⟨fun pins s σ H Q I q => h.run pins s σ H Q I (k _ _ _ q)⟩
theorem if_nil {G : Gam} {ρ : List Sl} : IfX G [] ρ true ρ := fun X F => PTsw pts_nil fun σ H Q ⟨B, S, h, k⟩ => k S H h
theorem if_one {G : Gam} {c : Expr} {ρ ρ1 : List Sl} {b : Bool} (h : TX G c ρ b ρ1) : IfX G [c] ρ b ρ1 := fun X F => pts_one (h X F)
inductive Lc (G : Gam) (tg : Expr) (ifs : List Expr) (elt : Expr) (own : List Nat) : List PyData → List Sl → List PyData → List Sl → Prop
  | nil {ρ : List Sl} : Lc G tg ifs elt own [] ρ [] ρ
  | keep {x : PyData} {xs : List PyData} {ρ ρ1 ρ2 ρ' : List Sl} {is : List Nat} {ds : List PyData} {y : PyData} {ys : List PyData} : GX G tg x is ds → (∀ i ∈ is, i ∈ own) → IfX G ifs (setD ρ is ds) true ρ1 → EX G elt ρ1 y ρ2 → Lc G tg ifs elt own xs (fg own ρ2) ys ρ' → Lc G tg ifs elt own (x :: xs) ρ (y :: ys) ρ'
  | skip {x : PyData} {xs : List PyData} {ρ ρ1 ρ' : List Sl} {is : List Nat} {ds : List PyData} {ys : List PyData} : GX G tg x is ds → (∀ i ∈ is, i ∈ own) → IfX G ifs (setD ρ is ds) false ρ1 → Lc G tg ifs elt own xs (fg own ρ1) ys ρ' → Lc G tg ifs elt own (x :: xs) ρ ys ρ'
theorem Lc.len {G : Gam} {tg elt : Expr} {ifs : List Expr} {own : List Nat} {xs ys : List PyData} {ρ ρ' : List Sl} (h : Lc G tg ifs elt own xs ρ ys ρ') : ys.length ≤ xs.length := by
  induction h with
  | nil => exact Nat.le_refl _
  | keep _ _ _ _ _ ih => simp; exact ih
  | skip _ _ _ _ ih => simp; omega
section
variable {G : Gam} {m : Addr → Prop} {e a b c tg it elt : Expr} {ifs : List Expr} {ρ ρ' ρ1 ρ2 ρ3 : List Sl} {d : PyData} {ds items ys : List PyData} {pos p py spos : Pos} {x y : Str} {scope : Scope} {own : List (Str × Nat)}
def gAny (G : Gam) (scope : Scope) (X : Cx) (tg : Expr) : TG := fun v σ H Q => ∃ t : TG, (∀ (s : Shared) (H : Hp) (C : Addr) (cl : List (Str × Addr)) (fp : List Addr), PG (X.blk s H scope (compEnvC scope cl C X.env) fp) tg t) ∧ t v σ H Q
def tAny (G : Gam) (scope : Scope) (X : Cx) (ifs : List Expr) : TT := fun σ H Q => ∃ t : TT, (∀ (s : Shared) (H : Hp) (C : Addr) (cl : List (Str × Addr)) (fp : List Addr), PTs (X.blk s H scope (compEnvC scope cl C X.env) fp) ifs t) ∧ t σ H Q
def eAny (G : Gam) (scope : Scope) (X : Cx) (elt : Expr) : TE := fun σ H Q => ∃ t : TE, (∀ (s : Shared) (H : Hp) (C : Addr) (cl : List (Str × Addr)) (fp : List Addr), PE (X.blk s H scope (compEnvC scope cl C X.env) fp) elt t) ∧ t σ H Q
/-- the reading of a comprehension, from its turns -/
theorem lc_sound {X : Cx} (F : Fits G X) (hi : IX G tg it ρ items ρ1) (hm : noMut (own.map (·.2)) ρ1 = true) (hl : Lc (G.blk scope) tg ifs elt (own.map (·.2)) items (fg (own.map (·.2)) ρ1) ys ρ') (hz : items.length ≤ 1000) (σ : L2.St) (H : Hp) (Q : VK)
    (q : tEL G.K ρ ys (rest (own.map (·.2)) ρ1 ρ') σ H Q) : tLc (tI G.K ρ items ρ1) (gAny G scope X tg) (tAny G scope X ifs) (eAny G scope X elt) (own.map (·.2)) σ H Q := by
  obtain ⟨B, S, h, k⟩ := q
  refine ⟨B, S, h, fun J S1 H1 g wk D hD => ?_⟩
  generalize hown : own.map (·.2) = ow at *
  have fitb : ∀ (s : Shared) (H : Hp) (C : Addr) (cl : List (Str × Addr)) (fp : List Addr), Fits (G.blk scope) (X.blk s H scope (compEnvC scope cl C X.env) fp) := fun s H C cl fp => F.blk scope s H C cl fp
  have gK : (G.blk scope).K = G.K := rfl
  -- the new list stands, known to no slot
  have n0 : Nw S1 H1 S1 (upd H1 D (.lst [])) := ⟨(Nw.one g.sub hD).hh, Same.refl _, g.sub.trans (Nw.one g.sub hD).hh, fun _ _ z => z⟩
  have g0 := (g.up.grow n0).wipe ow
  have sD : S1 D = none := g.sub.free hD
  have bD : B.H D = none := g.dom D hD
  refine ⟨fun i mm H' => ∃ S' ρi acc ya yr, Ab G.K (B.at_ S1) S' H' (wipe σ ow) ρi ∧ H' D = some (.lst acc) ∧ S' D = none ∧ (∀ (j : Nat) (es : List PyData), ρi[j]? ≠ some (.mut D es)) ∧ DpAll G.K S' acc ya ∧ ya.length ≤ i ∧ Lc (G.blk scope) tg ifs elt ow (items.drop i) ρi yr ρ' ∧ ys = ya ++ yr ∧ mm = items.length - i ∧ i ≤ items.length,
    ⟨_, S1, _, [], [], ys, g0, upd_same, sD, fun j es e => ?_, .nil, Nat.le_refl _, hl, rfl, rfl, Nat.zero_le _⟩, ?_⟩
  · rw [fg_get] at e
    split at e
    · split at e <;> cases e
    · obtain ⟨_, _, _, ws, q4, _⟩ := g.mt j D es e
      rw [hD] at q4
      cases q4
  · rintro i mm H' ⟨S', ρi, acc, ya, yr, gi, eD, sD', nD, ra, la, li, eys, rfl, hle⟩
    obtain ⟨w1, w2, w3⟩ := wk S' H' gi.s0 gi.sub
    by_cases hlt : i < items.length
    · right
      refine ⟨w1 i hlt, ?_⟩
      rw [List.drop_eq_getElem_cons hlt] at li
      refine ⟨fun H2 => ∃ S2 ρ2 acc ya yr, Ab G.K (B.at_ S1) S2 H2 (wipe σ ow) ρ2 ∧ H2 D = some (.lst acc) ∧ S2 D = none ∧ (∀ (j : Nat) (es : List PyData), ρ2[j]? ≠ some (.mut D es)) ∧ DpAll G.K S2 acc ya ∧ ya.length ≤ i + 1 ∧ Lc (G.blk scope) tg ifs elt ow (items.drop (i + 1)) ρ2 yr ρ' ∧ ys = ya ++ yr,
        fun H2 ⟨S2, ρ2, acc, ya, yr, z1, z2, z3, z4, z5, z6, z7, z8⟩ => ⟨items.length - (i + 1), by omega, S2, ρ2, acc, ya, yr, z1, z2, z3, z4, z5, z6, z7, z8, rfl, hlt⟩, fun x H2 y => ?_⟩
      obtain ⟨S2, n2, r⟩ := w3 i x H2 _ (List.getElem?_eq_getElem hlt) y
      have g2 := gi.grow n2
      have eD2 : H2 D = some (.lst acc) := n2.hh _ _ eD
      have sD2 : S2 D = none := n2.new D (by rw [eD]; intro z; cases z) sD'
      -- what a part of the turn leaves of the new list
      have part : ∀ {Sa Ha Sb Hb : Hp} {σa σb : L2.St} {ρa ρb : List Sl}, Ab G.K (B.at_ S1) Sa Ha σa ρa → Ha D = some (.lst acc) → Sa D = none → (∀ (j : Nat) (es : List PyData), ρa[j]? ≠ some (.mut D es)) → Ab G.K (cut Sa Ha ρa) Sb Hb σb ρb →
          Hb D = some (.lst acc) ∧ Sb D = none ∧ ∀ (j : Nat) (es : List PyData), ρb[j]? ≠ some (.mut D es) := fun {Sa Ha Sb Hb σa σb ρa ρb} ga e1 e2 e3 gb => by
        refine ⟨gb.fr D _ (fun ⟨j, es, z⟩ => e3 j es z) e1, gb.new D (by show Ha D ≠ none; rw [e1]; intro z; cases z) e2, fun j es z => ?_⟩
        rcases (gb.mt j D es z).2.2.1 with ⟨j2, es2, w⟩ | w
        · exact e3 j2 es2 w
        · rw [show (cut Sa Ha ρa).H D = Ha D from rfl, e1] at w; cases w
      have mutSet : ∀ {is : List Nat} {ds : List PyData} {ρ : List Sl}, (∀ (j : Nat) (es : List PyData), ρ[j]? ≠ some (.mut D es)) → ∀ (j : Nat) (es : List PyData), (setD ρ is ds)[j]? ≠ some (.mut D es) := by
        intro is
        induction is with
        | nil => intro ds ρ hn j es; simpa [setD] using hn j es
        | cons i is ih =>
          intro ds ρ hn j es
          cases ds with
          | nil => simpa [setD] using hn j es
          | cons d ds =>
            refine ih (fun j es e => ?_) j es
            rcases get_set e with ⟨_, e1, _⟩ | ⟨_, e1⟩
            · cases e1
            · exact hn j es e1
      have mutFg : ∀ {ρ : List Sl}, (∀ (j : Nat) (es : List PyData), ρ[j]? ≠ some (.mut D es)) → ∀ (j : Nat) (es : List PyData), (fg ow ρ)[j]? ≠ some (.mut D es) := fun {ρ} hn j es e => by
        rw [fg_get] at e
        split at e
        · split at e <;> cases e
        · exact hn j es e
      cases li with
      | @keep _ _ _ ρa ρb _ is ds yv yr2 hg hsub hif he hn =>
        refine ⟨_, fun s H C cl fp => hg.2 _ (fitb s H C cl fp), S2, g2.sub, r, fun vs rv => ⟨by rw [wipe_setV hsub, wipe_wipe], _, fun s H C cl fp => hif _ (fitb s H C cl fp), ?_⟩⟩
        have g3 := g2.setD (is := is) rv
        have nD3 := mutSet (is := is) (ds := ds) nD
        refine ⟨cut S2 H2 _, S2, g3.here, fun S4 H4 c4 => iteT ⟨_, fun s H C cl fp => he _ (fitb s H C cl fp), ?_⟩⟩
        obtain ⟨e4, s4, n4⟩ := part g3 eD2 sD2 nD3 c4
        have g4 := g3.trans c4
        refine ⟨cut S4 H4 _, S4, g4.here, fun v S5 H5 c5 r5 => ?_⟩
        obtain ⟨e5, s5, n5⟩ := part g4 e4 s4 n4 c5
        have g5 := g4.trans c5
        have hlen : acc.length ≤ 1000 := by rw [dpa_len ra]; omega
        refine ⟨acc, e5, small1000 hlen, ?_⟩
        -- the item is put behind
        have s25 : Same S' S5 := n2.ss.trans (c4.s0.trans c5.s0)
        have wl : Ab G.K (B.at_ S1) S5 (upd H5 D (.lst (acc ++ [v]))) (wipe σ ow) (fg ow ρb) := by
          have w0 := g5.wipe ow
          rw [wipe_setV hsub, wipe_wipe] at w0
          refine ⟨fun b o z => ?_, w0.s0, fun b o hm z => ?_, fun b z => ?_, w0.new, w0.len, w0.dat, fun j b es z => ?_, w0.sep⟩
          · rw [upd_ne (ne_of_none z s5)]
            exact w0.sub _ _ z
          · have : b ≠ D := by
              rintro rfl
              rw [show (B.at_ S1).H b = B.H b from rfl, bD] at z
              cases z
            rw [upd_ne this]
            exact w0.fr _ _ hm z
          · by_cases hb : b = D
            · subst hb; exact bD
            · rw [upd_ne hb] at z; exact w0.dom _ z
          · obtain ⟨u1, u2, u3, us, u4, u5⟩ := w0.mt j b es z
            have : b ≠ D := by
              rintro rfl
              exact mutFg n5 j es z
            exact ⟨u1, u2, u3, us, by rw [upd_ne this]; exact u4, u5⟩
        exact ⟨S5, fg ow ρb, acc ++ [v], ya ++ [yv], yr2, wl, upd_same, s5, mutFg n5, dpa_app (Dpam ra s25) (.cons r5 .nil), by simp; exact la, hn, by rw [eys]; simp⟩
      | @skip _ _ _ ρa _ is ds _ hg hsub hif hn =>
        refine ⟨_, fun s H C cl fp => hg.2 _ (fitb s H C cl fp), S2, g2.sub, r, fun vs rv => ⟨by rw [wipe_setV hsub, wipe_wipe], _, fun s H C cl fp => hif _ (fitb s H C cl fp), ?_⟩⟩
        have g3 := g2.setD (is := is) rv
        have nD3 := mutSet (is := is) (ds := ds) nD
        refine ⟨cut S2 H2 _, S2, g3.here, fun S4 H4 c4 => iteF ?_⟩
        obtain ⟨e4, s4, n4⟩ := part g3 eD2 sD2 nD3 c4
        have g4 := (g3.trans c4).wipe ow
        rw [wipe_setV hsub, wipe_wipe] at g4
        exact ⟨S4, fg ow ρa, acc, ya, yr, g4, e4, s4, mutFg n4, Dpam ra (n2.ss.trans c4.s0), by omega, hn, eys⟩
    · left
      have e : i = items.length := by omega
      subst e
      refine ⟨w2, ?_⟩
      rw [List.drop_length] at li
      cases li with
      | nil =>
        rw [List.append_nil] at eys
        subst eys
        refine k D acc S' H' (Ab.restore g gi.s0 hm (g.down gi)) eD sD' bD ra fun j es z => ?_
        rw [rest_get] at z
        by_cases hj : j ∈ ow
        · rw [if_pos hj] at z
          split at z
          · cases w : ρ1[j]? with
            | none => rw [w] at z; cases z
            | some s1 =>
              rw [w] at z
              have z : s1 = .mut D es := Option.some.inj z
              subst z
              obtain ⟨_, _, _, ws, q4, _⟩ := g.mt j D es w
              rw [hD] at q4
              cases q4
          · cases z
        · rw [if_neg hj] at z
          exact nD j es z
theorem blkB_ok {X : Cx} (F : Fits G X) (ok : BlkOk G.N G.sc scope own) : BlkOk X.N X.env.scope scope own := by
  rw [F.N, F.sc]
  exact ok
/-- [elt for tg in it if ..] -/
theorem el_lcM (nd : G.N.Nodup) (ok : BlkOk G.N G.sc scope own) (hi : IX G tg it ρ items ρ1) (hl : Lc (G.blk scope) tg ifs elt (own.map (·.2)) items (fg (own.map (·.2)) ρ1) ys ρ') (hz : items.length ≤ 1000) (hr : rest (own.map (·.2)) ρ1 ρ' = ρ2 := by rfl) (hm : noMut (own.map (·.2)) ρ1 = true := by rfl) : EXL G (.ListComp elt [⟨tg, it, ifs, 0⟩] scope pos) ρ ys ρ2 := fun X F => by
  subst hr
  exact PEw (pe_lc (g := gAny G scope X tg) (tt := tAny G scope X ifs) (te := eAny G scope X elt) F.calm (by rw [F.N]; exact nd) (hi.2 X F) (blkB_ok F ok) (fun s H C cl fp => ⟨fun pins s' σ H' v u Q I r ⟨t, h, q⟩ => (h s H C cl fp).run pins s' σ H' v u Q I r q⟩)
    (fun s H C cl fp => ⟨fun pins s' σ H' Q I ⟨t, h, q⟩ => (h s H C cl fp).run pins s' σ H' Q I q⟩) (fun s H C cl fp => ⟨fun pins s' σ H' Q I ⟨t, h, q⟩ => (h s H C cl fp).run pins s' σ H' Q I q⟩) (hi.1 _)) fun σ H Q q => lc_sound F hi hm hl hz σ H Q q
theorem e_lcM (nd : G.N.Nodup) (ok : BlkOk G.N G.sc scope own) (hi : IX G tg it ρ items ρ1) (hl : Lc (G.blk scope) tg ifs elt (own.map (·.2)) items (fg (own.map (·.2)) ρ1) ys ρ') (hz : items.length ≤ 1000) (hr : rest (own.map (·.2)) ρ1 ρ' = ρ2 := by rfl) (hm : noMut (own.map (·.2)) ρ1 = true := by rfl) : EX G (.ListComp elt [⟨tg, it, ifs, 0⟩] scope pos) ρ (.list ys) ρ2 := e_ofL (el_lcM nd ok hi hl hz hr hm)
/-- a plain local set to a comprehension that stands on its row -/
theorem s_setLcM (i : Nat) (nd : G.N.Nodup) (ok : BlkOk G.N G.sc scope own) (hi : IX G tg it ρ items ρ1) (hl : Lc (G.blk scope) tg ifs elt (own.map (·.2)) items (fg (own.map (·.2)) ρ1) ys ρ') (hz : items.length ≤ 1000) (hr : rest (own.map (·.2)) ρ1 ρ' = ρ2 := by rfl) (hm : noMut (own.map (·.2)) ρ1 = true := by rfl) (hk : G.sc.kind = .function := by rfl) (hN : G.N[i]? = some y := by rfl) (hyl : G.sc.names.lookup y = some NameKind.local := by rfl)
    (hln : (py.line == pos.line) = true := by rfl) (ha : (scope.names.any fun (n, k) => n == y && (k == .local || k == .cell)) = false := by rfl) : SX G m (.Assign [.Name y py] (.ListComp elt [⟨tg, it, ifs, 0⟩] scope pos) spos) ρ (.nx (ρ2.set i (.dat (.list ys)))) := fun X F => by
  subst hr
  have hk' : X.env.scope.kind = .function := by rw [F.sc]; exact hk
  have hy' : X.env.scope.names.lookup y = some .local := by rw [F.sc]; exact hyl
  refine PSw (ps_setLc (i := i) (g := gAny G scope X tg) (tt := tAny G scope X ifs) (te := eAny G scope X elt) F.calm (by rw [F.N]; exact nd) (by rw [F.N]; exact hN) hy' (sw_true hk' hy' hln ha) (hi.2 X F) (blkB_ok F ok) (fun s H C cl fp => ⟨fun pins s' σ H' v u Q I r ⟨t, h, q⟩ => (h s H C cl fp).run pins s' σ H' v u Q I r q⟩)
    (fun s H C cl fp => ⟨fun pins s' σ H' Q I ⟨t, h, q⟩ => (h s H C cl fp).run pins s' σ H' Q I q⟩) (fun s H C cl fp => ⟨fun pins s' σ H' Q I ⟨t, h, q⟩ => (h s H C cl fp).run pins s' σ H' Q I q⟩) (hi.1 _)) fun D σ H ⟨B, S, eq, h, k⟩ => ?_
  refine lc_sound F hi hm hl hz σ H _ ⟨B, S, h, fun L vs S1 H1 g1 e1 e2 e3 r e4 => ?_⟩
  obtain ⟨g2, ss⟩ := g1.frz e1 e2 e3 e4
  exact k _ _ _ (g2.set (.lst (.of upd_same) (Dpam r ss)))
theorem sw_false {elt : Expr} {gs : List Comprehension} {scope : Scope} {pos py : Pos} {y : Str} {l : Nat} {env : Env} (hy : env.scope.names.lookup y = some .cell) : swapsWith (.ListComp elt gs scope pos) (some (.Name y py)) l env = pure false := by
  have ky : env.kindOf y = some .cell := hy
  unfold swapsWith
  simp only [ky]
  have e1 : (some NameKind.cell == some NameKind.local) = false := by decide
  simp only [e1, Bool.and_false, Bool.false_and]
/-- name = [..], the name a cell -/
theorem s_setLcCM (i : Nat) (nd : G.N.Nodup) (ok : BlkOk G.N G.sc scope own) (hi : IX G tg it ρ items ρ1) (hl : Lc (G.blk scope) tg ifs elt (own.map (·.2)) items (fg (own.map (·.2)) ρ1) ys ρ') (hz : items.length ≤ 1000) (hr : rest (own.map (·.2)) ρ1 ρ' = ρ2 := by rfl) (hm : noMut (own.map (·.2)) ρ1 = true := by rfl) (hN : G.N[i]? = some y := by rfl) (hyl : G.sc.names.lookup y = some NameKind.cell := by rfl)
    (hl2 : locB G.sc y = true := by rfl) (hf : storB G y = true := by rfl) : SX G m (.Assign [.Name y py] (.ListComp elt [⟨tg, it, ifs, 0⟩] scope pos) spos) ρ (.nx (ρ2.set i (.dat (.list ys)))) :=
  s_set i nd (e_lcM nd ok hi hl hz hr hm) hN hl2 hf fun env h => sw_false (by rw [h]; exact hyl)
/-! the same where nothing changes -/
theorem rest_fg {own : List Nat} {ρ : List Sl} : rest own ρ (fg own ρ) = ρ := by
  refine List.ext_getElem? fun j => ?_
  rw [rest_get, fg_len, fg_get]
  by_cases hj : j ∈ own
  · rw [if_pos hj]
    by_cases hl : j < ρ.length
    · rw [if_pos hl, List.getElem?_eq_getElem hl]
      rfl
    · rw [if_neg hl, List.getElem?_eq_none (by omega)]
  · rw [if_neg hj, if_neg hj]
theorem el_lc (nd : G.N.Nodup) (ok : blkB G.N G.sc scope own = true) (hi : IX G tg it ρ items ρ1) (hl : Lc (G.blk scope) tg ifs elt (own.map (·.2)) items (fg (own.map (·.2)) ρ1) ys (fg (own.map (·.2)) ρ1)) (hz : items.length ≤ 1000) (hm : noMut (own.map (·.2)) ρ1 = true := by rfl) : EXL G (.ListComp elt [⟨tg, it, ifs, 0⟩] scope pos) ρ ys ρ1 := el_lcM nd (blkB_mk ok) hi hl hz rest_fg hm
theorem e_lc (nd : G.N.Nodup) (ok : blkB G.N G.sc scope own = true) (hi : IX G tg it ρ items ρ1) (hl : Lc (G.blk scope) tg ifs elt (own.map (·.2)) items (fg (own.map (·.2)) ρ1) ys (fg (own.map (·.2)) ρ1)) (hz : items.length ≤ 1000) (hm : noMut (own.map (·.2)) ρ1 = true := by rfl) : EX G (.ListComp elt [⟨tg, it, ifs, 0⟩] scope pos) ρ (.list ys) ρ1 := e_ofL (el_lc nd ok hi hl hz hm)
theorem s_setLc (i : Nat) (nd : G.N.Nodup) (ok : blkB G.N G.sc scope own = true) (hi : IX G tg it ρ items ρ1) (hl : Lc (G.blk scope) tg ifs elt (own.map (·.2)) items (fg (own.map (·.2)) ρ1) ys (fg (own.map (·.2)) ρ1)) (hz : items.length ≤ 1000) (hm : noMut (own.map (·.2)) ρ1 = true := by rfl) (hk : G.sc.kind = .function := by rfl) (hN : G.N[i]? = some y := by rfl) (hyl : G.sc.names.lookup y = some NameKind.local := by rfl)
    (hln : (py.line == pos.line) = true := by rfl) (ha : (scope.names.any fun (n, k) => n == y && (k == .local || k == .cell)) = false := by rfl) : SX G m (.Assign [.Name y py] (.ListComp elt [⟨tg, it, ifs, 0⟩] scope pos) spos) ρ (.nx (ρ1.set i (.dat (.list ys)))) := s_setLcM i nd (blkB_mk ok) hi hl hz rest_fg hm hk hN hyl hln ha
theorem s_setLcC (i : Nat) (nd : G.N.Nodup) (ok : blkB G.N G.sc scope own = true) (hi : IX G tg it ρ items ρ1) (hl : Lc (G.blk scope) tg ifs elt (own.map (·.2)) items (fg (own.map (·.2)) ρ1) ys (fg (own.map (·.2)) ρ1)) (hz : items.length ≤ 1000) (hm : noMut (own.map (·.2)) ρ1 = true := by rfl) (hN : G.N[i]? = some y := by rfl) (hyl : G.sc.names.lookup y = some NameKind.cell := by rfl)
    (hl2 : locB G.sc y = true := by rfl) (hf : storB G y = true := by rfl) : SX G m (.Assign [.Name y py] (.ListComp elt [⟨tg, it, ifs, 0⟩] scope pos) spos) ρ (.nx (ρ1.set i (.dat (.list ys)))) := s_setLcCM i nd (blkB_mk ok) hi hl hz rest_fg hm hN hyl hl2 hf
/-! ### defs -/
theorem start_ab {K : PySem.W.Frag} {S H : Hp} {N : List Str} {vs : List V} (B : Bs) (sub : Same S H) (s0 : Same B.S S) (fr : ∀ a o, ¬ B.M a → B.H a = some o → H a = some o) (dom : ∀ a, H a = none → B.H a = none) (new : ∀ a, B.H a ≠ none → B.S a = none → S a = none) (r : DpAll K S vs ds) (hl : vs.length ≤ N.length) :
    Ab K B S H (L2.start N vs) (ds.map .dat ++ List.replicate (N.length - ds.length) .no) := by
  have e1 := dpa_len r
  refine ⟨sub, s0, fr, dom, new, by simp [L2.start, e1], fun j d e => ?_, fun j a es e => ?_, fun j k a ds' es e1 e2 => ?_⟩
  · by_cases hj : j < ds.length
    · rw [List.getElem?_append_left (by simpa using hj), List.getElem?_map] at e
      obtain ⟨d', hd, e'⟩ := Option.map_eq_some_iff.mp e
      cases e'
      obtain ⟨v, h1, h2⟩ := dpa_get r hd
      refine ⟨v, ?_, h2⟩
      unfold L2.start
      rw [List.getElem?_append_left (by simpa [e1] using hj), List.getElem?_map, h1]
      rfl
    · rw [List.getElem?_append_right (by simpa using hj), List.getElem?_replicate] at e
      split at e <;> cases e
  · by_cases hj : j < ds.length
    · rw [List.getElem?_append_left (by simpa using hj), List.getElem?_map] at e
      obtain ⟨d', hd, e'⟩ := Option.map_eq_some_iff.mp e
      cases e'
    · rw [List.getElem?_append_right (by simpa using hj), List.getElem?_replicate] at e
      split at e <;> cases e
  · by_cases hj : j < ds.length
    · rw [List.getElem?_append_left (by simpa using hj), List.getElem?_map] at e1
      obtain ⟨d', hd, e'⟩ := Option.map_eq_some_iff.mp e1
      cases e'
    · rw [List.getElem?_append_right (by simpa using hj), List.getElem?_replicate] at e1
      split at e1 <;> cases e1
/-- how a body ends -/
def Fin (d : PyData) (o : Out) : Prop := (∃ ρ, o = .rt d ρ) ∨ (∃ ρ, o = .nx ρ ∧ d = .none)
theorem fin_rt {d : PyData} {ρ : List Sl} : Fin d (.rt d ρ) := .inl ⟨ρ, rfl⟩
theorem fin_nx {ρ : List Sl} : Fin .none (.nx ρ) := .inr ⟨ρ, rfl, rfl⟩
def noM : Addr → Prop := fun _ => False
section
variable {P : Program} {w : World} {K : PySem.W.Frag} {mg : Str → Option Value} {base : Heap} {st : Stmt} {f : Addr} {fd : FuncData} {N ps : List Str} {k : Nat}
abbrev FnP (K : PySem.W.Frag) (x : Str) (st : Stmt) (f : Addr) (fd : FuncData) : Prop := FunD K x x (defArgs st) (defBody st) (defScope st) [] [] f fd
def gam (P : Program) (w : World) (K : PySem.W.Frag) (mg : Str → Option Value) (base : Heap) (N : List Str) (sc : Scope) (k : Nat) : Gam := ⟨P, w, K, mg, base, N, sc, fun _ => true, k⟩
theorem fn_pure {R : List PyData → PyData → Prop} (F : FnP K x st f fd) (Sc : FnScope N ps (defScope st)) (len : ∀ ds d, R ds d → ds.length = ps.length)
    (body : ∀ ds d, R ds d → ∃ o, Fin d o ∧ BX (gam P w K mg base N (defScope st) k) noM (defBody st) (ds.map .dat ++ List.replicate (N.length - ds.length) .no) o) : FnOk P w K mg base CX0 (k + 1) f fd ps (spP K R) := by
  refine FunD.ok F Sc (fun vs H Q E ⟨S, ds, d, s1, r, hR, _⟩ => by rw [dpa_len r]; exact len ds d hR) fun cdv A outer s H vs Q E hr ⟨S, ds, d, s1, r, hR, q⟩ => ?_
  obtain ⟨o, ho, hb⟩ := body ds d hR
  have fit : Fits (gam P w K mg base N (defScope st) k) (cxOf CX0 P w K mg base N x (defScope st) f cdv A outer s H E).nox := ⟨rfl, rfl, rfl, rfl, rfl, rfl, rfl, rfl, hr, rfl, rfl⟩
  refine ⟨_, (hb _ fit).nox, ⟨S, H, noM⟩, S, ⟨rfl, fun a z => z.elim⟩, ?_, ?_⟩
  · have hpl : ps.length ≤ N.length := by have := congrArg List.length Sc.pre; rw [List.length_take] at this; omega
    exact start_ab _ s1 (Same.refl _) (fun _ _ _ e => e) (fun _ e => e) (fun _ _ e => e) r (by rw [dpa_len r, len ds d hR]; exact hpl)
  · have nw : ∀ {σ' : L2.St} {S' H' : Hp} {ρ' : List Sl}, Ab K ⟨S, H, noM⟩ S' H' σ' ρ' → Nw S H S' H' := fun {σ' S' H' ρ'} g => ⟨fun a o e => g.fr a o (fun z => z) e, g.s0, g.sub, g.new⟩
    rcases ho with ⟨ρ', rfl⟩ | ⟨ρ', rfl, rfl⟩
    · exact fun v σ' S' H' g r' => q v S' H' (nw g) r'
    · exact fun σ' S' H' g => q .non S' H' (nw g) .non
/-- a def whose first argument is a list that it changes -/
theorem fn_box {R : List PyData → List PyData → PyData → List PyData → Prop} (F : FnP K x st f fd) (Sc : FnScope N ps (defScope st)) (len : ∀ bs ds d bs', R bs ds d bs' → ds.length + 1 = ps.length)
    (body : ∀ bs ds d bs', R bs ds d bs' → ∀ b : Addr, ∃ ρ', ρ'[0]? = some (.mut b bs') ∧ BX (gam P w K mg base N (defScope st) k) (fun a => a = b) (defBody st) (.mut b bs :: (ds.map .dat ++ List.replicate (N.length - (ds.length + 1)) .no)) (.rt d ρ')) : FnOk P w K mg base CX0 (k + 1) f fd ps (spB K R) := by
  refine FunD.ok F Sc (fun vs H Q E ⟨S, b, ws, bs, ds, d, bs', e, s1, r, hR, _⟩ => by rw [e, List.length_cons, dpa_len r]; exact len bs ds d bs' hR) fun cdv A outer s H vs Q E hr ⟨S, b, ws, bs, ds, d, bs', e, s1, r, hR, q⟩ => ?_
  subst e
  obtain ⟨ρ', h0, hb⟩ := body bs ds d bs' hR b
  obtain ⟨z1, z2, z3, us, z4, z5⟩ := s1.mt 0 b bs rfl
  have fit : Fits (gam P w K mg base N (defScope st) k) (cxOf CX0 P w K mg base N x (defScope st) f cdv A outer s H E).nox := ⟨rfl, rfl, rfl, rfl, rfl, rfl, rfl, rfl, hr, rfl, rfl⟩
  refine ⟨_, (hb _ fit).nox, ⟨S, H, fun a => a = b⟩, S, ⟨rfl, fun a z => by subst z; show H a ≠ none; rw [z4]; intro z; cases z⟩, ?_, ?_⟩
  · have hpl : ps.length ≤ N.length := by have := congrArg List.length Sc.pre; rw [List.length_take] at this; omega
    have hln := len bs ds d bs' hR
    cases N with
    | nil => simp only [List.length_nil] at hpl; omega
    | cons n0 N' =>
    have g0 : Ab K ⟨S, H, fun a => a = b⟩ S H (L2.start N' ws) (ds.map .dat ++ List.replicate (N'.length - ds.length) .no) := start_ab _ s1.sub (Same.refl _) (fun _ _ _ e => e) (fun _ e => e) (fun _ _ e => e) r (by rw [dpa_len r]; simp at hpl; omega)
    have e1 : L2.start (n0 :: N') (.ref b :: ws) = some (.ref b) :: L2.start N' ws := by simp [L2.start]
    have e2 : (n0 :: N').length - (ds.length + 1) = N'.length - ds.length := by simp
    have e1' : (((cxOf CX0 P w K mg base (n0 :: N') x (defScope st) f cdv A outer s H E).nox).N) = n0 :: N' := rfl
    rw [e1, e2]
    have nomut : ∀ (j : Nat) (a : Addr) (es : List PyData), (ds.map Sl.dat ++ List.replicate (N'.length - ds.length) Sl.no)[j]? ≠ some (.mut a es) := fun j a es e => by
      have := List.mem_of_getElem? e
      rcases List.mem_append.mp this with z | z
      · obtain ⟨d', _, z⟩ := List.mem_map.mp z
        cases z
      · have := List.eq_of_mem_replicate z
        cases this
    refine ⟨g0.sub, g0.s0, g0.fr, g0.dom, g0.new, by simp [g0.len], fun j d' e => ?_, fun j a es e => ?_, fun j k2 a es fs e3 e4 => ?_⟩
    · cases j with
      | zero => cases e
      | succ j =>
        obtain ⟨v, q1, q2⟩ := g0.dat j d' (by simpa using e)
        exact ⟨v, by simpa using q1, q2⟩
    · cases j with
      | zero =>
        cases e
        exact ⟨rfl, z2, .inl rfl, us, z4, z5⟩
      | succ j => exact absurd (by simpa using e) (nomut j a es)
    · cases j with
      | zero =>
        cases k2 with
        | zero => rfl
        | succ k2 => exact absurd (by simpa using e4) (nomut k2 a fs)
      | succ j => exact absurd (by simpa using e3) (nomut j a es)
  · intro v σ' S' H' g r'
    refine q v S' H' ?_ r'
    obtain ⟨u1, u2, u3, u4⟩ := g.mt 0 b bs' h0
    refine ⟨g.sub, g.s0, g.fr, g.dom, g.new, rfl, fun j d' e => ?_, fun j a es e => ?_, fun j k2 a es fs e3 e4 => ?_⟩
    · match j, e with
      | 0, e => cases e
    · match j, e with
      | 0, e =>
        cases e
        exact ⟨rfl, u2, u3, u4⟩
    · match j, k2, e3, e4 with
      | 0, 0, _, _ => rfl
theorem has_mk {j : Nat} {sp : Sp} (F : FnOk P w K mg base CX0 j f fd ps sp) (D : FnP K x st f fd) (hm : mg x = some (.ref f)) (hb : Binds K fd ps []) : Has P w K mg base x j sp := ⟨f, fd, ps, F, hm, D.kp, hb⟩
end
end
end Sg
namespace Sg
open PySem PySem.Spec PyProof.Rows L2
section
variable {G : Gam} {m : Addr → Prop} {tg elt : Expr} {ifs : List Expr} {body : List Stmt} {own : List Nat} {ρ0 ρ : List Sl} {α : Type}
/-- a comprehension as a map -/
theorem lc_map (f g : α → PyData) : ∀ (l : List α), (∀ a ∈ l, ∃ is ds ρ1, GX G tg (f a) is ds ∧ (∀ i ∈ is, i ∈ own) ∧ EX G elt (setD ρ0 is ds) (g a) ρ1 ∧ fg own ρ1 = ρ0) → Lc G tg [] elt own (l.map f) ρ0 (l.map g) ρ0
  | [], _ => .nil
  | a :: l, h => by
    obtain ⟨is, ds, ρ1, h1, h2, h3, h4⟩ := h a List.mem_cons_self
    refine .keep h1 h2 if_nil h3 ?_
    rw [h4]
    exact lc_map f g l fun b hb => h b (List.mem_cons_of_mem _ hb)
/-- .. of those that pass a test -/
theorem lc_filter (f g : α → PyData) (p : α → Bool) {c : Expr} : ∀ (l : List α), (∀ a ∈ l, ∃ is ds ρ1, GX G tg (f a) is ds ∧ (∀ i ∈ is, i ∈ own) ∧ TX G c (setD ρ0 is ds) (p a) ρ1 ∧ fg own ρ1 = ρ0 ∧ (p a = true → ∃ ρ2, EX G elt ρ1 (g a) ρ2 ∧ fg own ρ2 = ρ0)) → Lc G tg [c] elt own (l.map f) ρ0 ((l.filter p).map g) ρ0
  | [], _ => .nil
  | a :: l, h => by
    obtain ⟨is, ds, ρ1, h1, h2, h3, h4, h5⟩ := h a List.mem_cons_self
    have ih := lc_filter f g p l fun b hb => h b (List.mem_cons_of_mem _ hb)
    cases q : p a with
    | true =>
      obtain ⟨ρ2, h6, h7⟩ := h5 q
      rw [List.filter_cons_of_pos q]
      rw [q] at h3
      refine .keep h1 h2 (if_one h3) h6 ?_
      rw [h7]
      exact ih
    | false =>
      rw [List.filter_cons_of_neg (by rw [q]; exact Bool.false_ne_true)]
      rw [q] at h3
      refine .skip h1 h2 (if_one h3) ?_
      rw [h4]
      exact ih
/-- .. where each turn changes a state -/
def accS {β σt : Type} (step : σt → α → σt × β) : σt → List α → σt
  | s, [] => s
  | s, a :: l => accS step (step s a).1 l
def accV {β σt : Type} (step : σt → α → σt × β) : σt → List α → List β
  | _, [] => []
  | s, a :: l => (step s a).2 :: accV step (step s a).1 l
theorem lc_acc {β σt : Type} (f : α → PyData) (g : β → PyData) (step : σt → α → σt × β) (ρ : σt → List Sl) (I : σt → Nat → Prop) : ∀ (l : List α) (s : σt) (n : Nat), I s n → (∀ s a n, a ∈ l → I s n → I (step s a).1 (n + 1) ∧ ∃ is ds ρ1, GX G tg (f a) is ds ∧ (∀ i ∈ is, i ∈ own) ∧ EX G elt (setD (ρ s) is ds) (g (step s a).2) ρ1 ∧ fg own ρ1 = ρ (step s a).1) → Lc G tg [] elt own (l.map f) (ρ s) ((accV step s l).map g) (ρ (accS step s l))
  | [], _, _, _, _ => .nil
  | a :: l, s, n, hI, h => by
    obtain ⟨h0, is, ds, ρ1, h1, h2, h3, h4⟩ := h s a n List.mem_cons_self hI
    refine .keep h1 h2 if_nil h3 ?_
    rw [h4]
    exact lc_acc f g step ρ I l (step s a).1 (n + 1) h0 fun s b n hb => h s b n (List.mem_cons_of_mem _ hb)
/-- a loop as a fold -/
theorem lp_fold {σt : Type} (f : α → PyData) (step : σt → α → σt) (ρ : σt → List Sl) : ∀ (l : List α) (s : σt), (∀ l1 a l2, l = l1 ++ a :: l2 → ∃ is ds ρ2 is2, GX G tg (f a) is ds ∧ BX G m body (setD (ρ (l1.foldl step s)) is ds) (.nx ρ2) ∧ fg is2 ρ2 = ρ (step (l1.foldl step s) a)) → Lp G m tg body (l.map f) (ρ s) (.nx (ρ (l.foldl step s)))
  | [], s, _ => .nil []
  | a :: l, s, h => by
    obtain ⟨is, ds, ρ2, is2, h1, h2, h3⟩ := h [] a l rfl
    refine .step is2 h1 h2 ?_
    rw [h3]
    exact lp_fold f step ρ l (step s a) fun l1 b l2 e => h (a :: l1) b l2 (by rw [e]; rfl)
/-- a loop that searches: it ends at the first that p tells, by a return -/
theorem lp_find (f : α → PyData) (p : α → Bool) (g : α → PyData) (ρ : List Sl) {ρ' : α → List Sl} : ∀ (l : List α) {a : α}, l.find? p = some a → (∀ a ∈ l, ∃ is ds, GX G tg (f a) is ds ∧ (p a = false → ∃ ρ2 is2, BX G m body (setD ρ is ds) (.nx ρ2) ∧ fg is2 ρ2 = ρ) ∧ (p a = true → BX G m body (setD ρ is ds) (.rt (g a) (ρ' a)))) → Lp G m tg body (l.map f) ρ (.rt (g a) (ρ' a))
  | [], _, e, _ => by cases e
  | b :: l, a, e, h => by
    obtain ⟨is, ds, h1, h2, h3⟩ := h b List.mem_cons_self
    cases q : p b with
    | true =>
      rw [List.find?_cons_of_pos q] at e
      cases e
      exact .ret h1 (h3 q)
    | false =>
      rw [List.find?_cons_of_neg (by rw [q]; exact Bool.false_ne_true)] at e
      obtain ⟨ρ2, is2, h4, h5⟩ := h2 q
      refine .step is2 h1 h4 ?_
      rw [h5]
      exact lp_find f p g ρ l e fun c hc => h c (List.mem_cons_of_mem _ hc)
theorem lp_none (f : α → PyData) (p : α → Bool) (ρ : List Sl) : ∀ (l : List α), l.find? p = none → (∀ a ∈ l, p a = false → ∃ is ds ρ2 is2, GX G tg (f a) is ds ∧ BX G m body (setD ρ is ds) (.nx ρ2) ∧ fg is2 ρ2 = ρ) → Lp G m tg body (l.map f) ρ (.nx ρ)
  | [], _, _ => .nil []
  | b :: l, e, h => by
    cases q : p b with
    | true =>
      rw [List.find?_cons_of_pos q] at e
      cases e
    | false =>
      rw [List.find?_cons_of_neg (by rw [q]; exact Bool.false_ne_true)] at e
      obtain ⟨is, ds, ρ2, is2, h1, h4, h5⟩ := h b List.mem_cons_self q
      refine .step is2 h1 h4 ?_
      rw [h5]
      exact lp_none f p ρ l e fun c hc => h c (List.mem_cons_of_mem _ hc)
/-- all slots forgotten behind -/
theorem Ab.forget {K : PySem.W.Frag} {B : Bs} {S H : Hp} {σ : L2.St} {ρ : List Sl} (h : Ab K B S H σ ρ) : Ab K B S H σ (List.replicate ρ.length .no) := by
  have no : ∀ {j : Nat} {s : Sl}, (List.replicate ρ.length Sl.no)[j]? = some s → s = .no := fun {j s} e => by
    rw [List.getElem?_replicate] at e
    split at e
    · cases e; rfl
    · cases e
  exact ⟨h.sub, h.s0, h.fr, h.dom, h.new, by rw [List.length_replicate]; exact h.len, fun j d e => absurd (no e) (by intro z; cases z), fun j a ds e => absurd (no e) (by intro z; cases z), fun j k a ds es e1 e2 => absurd (no e1) (by intro z; cases z)⟩
theorem b_rt0 {sts : List Stmt} {ρ ρ1 : List Sl} {d : PyData} {n : Nat} (h : BX G m sts ρ (.rt d ρ1)) (hn : ρ1.length = n := by rfl) : BX G m sts ρ (.rt d (List.replicate n .no)) := fun X F => PSsw (h X F) fun D σ H ⟨B, S, e, h, k⟩ => ⟨B, S, e, h, fun v σ1 S1 H1 g r => k v σ1 S1 H1 (by rw [← hn]; exact g.forget) r⟩
end
end Sg
namespace Sg
open PySem PySem.Spec PyProof.Rows L2
section
variable {G : Gam} {m : Addr → Prop} {e a b c o : Expr} {es : List Expr} {ρ ρ1 ρ2 ρ3 : List Sl} {d d1 d2 : PyData} {ds : List PyData} {pos p p2 apos cpos px pt : Pos} {x y z : Str}
/-- (x[k], z) = e, x a list that may be changed -/
theorem s_asgMN (i l : Nat) {q : Addr} {kk : Int} {j kt : Nat} (nd : G.N.Nodup) (h : EX G e ρ (.tuple [d1, d2]) ρ1) (hk : EX G a ρ1 (.int kk) ρ1) (h0 : ρ1[i]? = some (.mut q ds) := by rfl) (hj : ixN ds.length kk = some j) (hN : G.N[i]? = some y := by rfl) (hv : visB G.sc y = true := by rfl)
    (hNz : G.N[l]? = some z := by rfl) (hl : locB G.sc z = true := by rfl) (hf : storB G z = true := by rfl) (hd : (y == ("__debug__" : Str)) = false := by decide) (hcd : (y == ("__classdict__" : Str)) = false := by decide)
    (ha : ∀ (env : Env) (v : Value), assign (.Subscript (.Name y p2) a p) env v = (do
      let ov ← holding [v] (eval (.Name y p2) env)
      let iv ← holding [v, ov] (eval a env)
      standAt p
      holding [v, ov, iv] (setItem ov iv v)
      release [v, ov, iv] []) := by intro _ _; rfl) (hs : ∀ env : Env, swapsWithSole [.Tuple [.Subscript (.Name y p2) a p, .Name z px] kt pt] e pos.line env = pure false := by intro _; rfl) (hw : ∀ env : Env, swappedStores [.Tuple [.Subscript (.Name y p2) a p, .Name z px] kt pt] e env = pure none := by intro _; rfl) :
    SX G m (.Assign [.Tuple [.Subscript (.Name y p2) a p, .Name z px] kt pt] e pos) ρ (.nx ((ρ1.set i (.mut q (ds.set j d1))).set l (.dat d2))) := fun X F => by
  have pv0 : PE X (.Name y p2) (tVar i) := pe_var (i := i) (by rw [F.N]; exact hN) (by rw [F.sc]; exact visB_ok hv) hd hcd
  refine PSw (ps_asg (h X F) (pg_tup F.calm (pgs_cons (pg_sub pv0 (hk X F) set_list (ha _)) (pgs_cons (pg_name (i := l) (by rw [F.N]; exact nd) (by rw [F.N]; exact hNz) (by rw [F.sc]; exact locB_ok hl) (storB_ok F hf)) pgs_nil rfl) rfl) (n := 2) rfl rfl) (hs _) (hw _) rfl) fun D σ H ⟨B, S, eq, g, k⟩ => ?_
  refine ⟨B, S, g, fun v S1 H1 g1 r => ?_⟩
  cases r with
  | @tup t vs _ t1 t2 =>
    obtain ⟨u1, u2, rfl, r1, r2⟩ : ∃ u1 u2, vs = [u1, u2] ∧ Dp G.K S1 u1 d1 ∧ Dp G.K S1 u2 d2 := by
      cases t2 with
      | cons h1 h2 =>
        cases h2 with
        | cons h2 h3 => cases h3; exact ⟨_, _, rfl, h1, h2⟩
    refine ⟨t, [u1, u2], rfl, by rw [F.K]; exact sqT_mono g1.sub t1, rfl, u1, [u2], rfl, ?_⟩
    obtain ⟨q1, q2, q3, vs0, q4, q5⟩ := g1.mt i q ds h0
    refine ⟨.ref q, q1, cut S1 H1 ρ1, S1, g1.here, fun v2 S2 H2 g2 r3 => ?_⟩
    cases r3
    obtain ⟨_, _, _, ws, z4, z5⟩ := g2.mt i q ds h0
    have gg := (g1.trans g2).mutate h0 (dpa_set j z5 (Dpm r1 g2.s0))
    exact ⟨q, ws, kk, j, rfl, rfl, z4, by rw [dpa_len z5]; exact hj, u2, [], rfl, rfl, k _ S2 _ (gg.set (Dpm r2 g2.s0))⟩
/-- list(a text): a new list of its signs -/
theorem call_listS {X : Cx} (hc : X.calm = true) : CallR X (.type "list") (fun xs H Q => ∃ z : Str, xs = [.str z] ∧ z.cps.size ≤ sizeLine ∧ ∀ l, H l = none → Q (.ref l) (upd H l (.lst (signs z)))) := by
  intro pz s σ H xs us Q I r h
  obtain ⟨z, rfl, hz, q⟩ := h
  obtain ⟨u, rfl, tk, rfl⟩ := vals1 r
  refine call_list_str (hn := hz) (I.ok.hd hc) z tk fun h' tz acc' c' kp e hi => ?_
  have hv : Vals (signs z) acc'.toList := by
    refine vals_of_idx _ _ (by simp [signs, hi.1]) fun j u hj => ?_
    obtain ⟨c, u', h1, h2⟩ := hi.2 j u (by simpa using hj)
    refine ⟨.str ⟨#[c]⟩, ?_, by rw [h2]; exact ⟨_, rfl⟩⟩
    rw [signs, List.getElem?_map, Array.getElem?_toList, h1]; rfl
  exact ⟨.ref s.heap.objs.size, _, I.laid (t' := tz) kp (Nat.le_refl _) (show ObjOk X.prog X.w _ h' _ (.lst (signs z)) from ⟨by rw [signs, List.length_map, Array.length_toList]; exact hz, acc'.toList, c', hv, by simpa using e⟩), rfl, q _ (I.hok.fresh (Nat.le_refl _))⟩
theorem el_listS {z : Str} (hm : G.mg "list" = none) (ha : EX G a ρ (.str z) ρ1) (hz : z.cps.size ≤ sizeLine) (hs : notStar a = true := by rfl) (hg : G.sc.names.lookup ("list" : Str) = some NameKind.globalImplicit := by rfl) : EXL G (.Call (.Name "list" p) [a] [] pos) ρ (signD z) ρ1 := fun X F => by
  refine PEw (pe_callTy (call_listS F.calm) (show X.env.scope.names.lookup ("list" : Str) = _ by rw [F.sc]; exact hg) (by rw [F.mg]; exact hm) PyProof.Rows.boot_list ((a_cons ha a_nil hs).2 X F) (by decide) (by decide) (star_cons hs) rfl) fun σ H Q ⟨B, S, h, k⟩ => ?_
  refine ⟨B, S, h, fun vs S1 H1 h1 r1 => ?_⟩
  obtain ⟨v, rfl, r2⟩ := dpa1 r1
  cases r2
  refine ⟨z, rfl, hz, fun l hl => ?_⟩
  have n : Nw S1 H1 S1 (upd H1 l (.lst (signs z))) := ⟨(Nw.one h1.sub hl).hh, Same.refl _, h1.sub.trans (Nw.one h1.sub hl).hh, fun _ _ z => z⟩
  refine k l _ S1 _ (h1.grow n) upd_same (h1.sub.free hl) (h1.dom l hl) dpa_signs fun i es q => ?_
  obtain ⟨_, _, _, ws, q4, _⟩ := h1.mt i l es q
  rw [hl] at q4
  cases q4
theorem dpa_erase {K : PySem.W.Frag} {H : Hp} : ∀ {vs : List V} {ds : List PyData} (n : Nat), DpAll K H vs ds → DpAll K H (vs.eraseIdx n) (ds.eraseIdx n)
  | _, [], n, h => by cases h; simp; exact .nil
  | _, d :: ds, 0, h => by
    cases h with
    | cons h1 h2 => exact h2
  | _, d :: ds, n + 1, h => by
    cases h with
    | cons h1 h2 => exact .cons h1 (dpa_erase n h2)
/-- x.pop(e), x a list that may be changed -/
theorem e_popM (i : Nat) {q : Addr} {ds0 : List PyData} {kk : Nat} (h : EX G e ρ (.int (kk : Nat)) ρ1) (h0 : ρ[i]? = some (.mut q ds0) := by rfl) (h1 : ρ1[i]? = some (.mut q ds) := by rfl) (hd1 : ds[kk]? = some d) (hk : kk < 2 ^ 62) (hs : notStar e = true := by rfl) (hN : G.N[i]? = some y := by rfl) (hv : visB G.sc y = true := by rfl) (hd : (y == ("__debug__" : Str)) = false := by decide) (hcd : (y == ("__classdict__" : Str)) = false := by decide) (hl : (apos.endLine == cpos.line) = true := by rfl) :
    EX G (.Call (.Attribute (.Name y p2) "pop" apos) [e] [] cpos) ρ d (ρ1.set i (.mut q (ds.eraseIdx kk))) := fun X F => by
  have pv0 : PE X (.Name y p2) (tVar i) := pe_var (i := i) (by rw [F.N]; exact hN) (by rw [F.sc]; exact visB_ok hv) hd hcd
  refine PEw (pe_bm PySem.F.plainAttrs_list PySem.F.slot_list_pop PySem.F.type_list_pop mt_popAt pv0 ((a_cons h a_nil hs).2 X F) rfl (few1 hs) hl (star_cons hs) rfl) fun σ H Q ⟨B, S, g, k⟩ => ?_
  obtain ⟨q1, q2, q3, vs0, q4, q5⟩ := g.mt i q ds0 h0
  refine ⟨.ref q, q1, .inl ⟨rfl, vs0, .of q4⟩, B, S, g, fun vs S1 H1 g1 r => ?_⟩
  obtain ⟨v, rfl, r1⟩ := dpa1 r
  cases r1
  obtain ⟨_, _, _, ws, z4, z5⟩ := g1.mt i q ds h1
  obtain ⟨v, e1, e2⟩ := dpa_get z5 hd1
  have hlt : kk < ws.length := (List.getElem?_eq_some_iff.mp e1).1
  have hix : seqIndex? (kk : Int) ws.length = some kk := by
    have h0 : ¬ ((kk : Int) < 0) := by omega
    simp [seqIndex?, h0, hlt]
  exact ⟨q, ws, (kk : Int), kk, v, rfl, rfl, z4, by omega, by omega, hix, e1, k _ _ _ (g1.mutate h1 (dpa_erase kk z5)) e2⟩
/-! ### defs that return a new list -/
def spN (K : PySem.W.Frag) (R : List PyData → List PyData → Prop) : Sp := fun vs H Q _ => ∃ S ds bs, Same S H ∧ DpAll K S vs ds ∧ R ds bs ∧ ∀ L ws S' H', Nw S H S' H' → H L = none → H' L = some (.lst ws) → S' L = none → DpAll K S' ws bs → Q (.ref L) H'
theorem el_call {j : Nat} {R : List PyData → List PyData → Prop} {bs : List PyData} (F : Has G.P G.w G.K G.mg G.base x j (spN G.K R)) (ha : AX G (e :: es) ρ ds ρ1) (hR : R ds bs) (hj : j ≤ G.k := by exact Nat.le_of_ble_eq_true rfl) (hg : G.sc.names.lookup x = some .globalImplicit := by rfl) (hd : (x == ("__debug__" : Str)) = false := by decide) :
    EXL G (.Call (.Name x p) (e :: es) [] pos) ρ bs ρ1 := fun X F' => by
  obtain ⟨f, fd, ps, F, hm, hk, hb⟩ := F
  obtain ⟨n1, n2⟩ := Bool.and_eq_true_iff.mp ha.1
  refine PEw (pe_call (CX := CX0) (k := j) (E := E0) (by rw [F'.prog, F'.w, F'.K, F'.mg, F'.base]; exact F) (F'.room.mono hj) (show X.env.scope.names.lookup x = _ by rw [F'.sc]; exact hg) (by rw [F'.mg]; exact hm) (by rw [F'.K]; exact hk) (by rw [F'.K]; exact hb) .nil pass0 (ha.2 X F') hd (star_cons n1) (star_any n2)) fun σ H Q ⟨B, S, h, k⟩ => ?_
  refine ⟨B, S, h, fun vs S1 H1 h1 r1 => ?_⟩
  refine ⟨S1, ds, bs, h1.sub, by rw [List.append_nil]; exact r1, hR, fun L ws S2 H2 n e1 e2 e3 r2 => k L ws S2 H2 (h1.grow n) e2 e3 (h1.dom L e1) r2 fun i es q => ?_⟩
  obtain ⟨_, _, _, us, q4, _⟩ := h1.mt i L es q
  rw [e1] at q4
  cases q4
end
section
variable {P : Program} {w : World} {K : PySem.W.Frag} {mg : Str → Option Value} {base : Heap} {st : Stmt} {f : Addr} {fd : FuncData} {N ps : List Str} {k : Nat} {x : Str}
theorem fn_new {R : List PyData → List PyData → Prop} (F : FnP K x st f fd) (Sc : FnScope N ps (defScope st)) (len : ∀ ds bs, R ds bs → ds.length = ps.length)
    (body : ∀ ds bs, R ds bs → ∃ ρ', BX (gam P w K mg base N (defScope st) k) noM (defBody st) (ds.map .dat ++ List.replicate (N.length - ds.length) .no) (.rl bs ρ')) : FnOk P w K mg base CX0 (k + 1) f fd ps (spN K R) := by
  refine FunD.ok F Sc (fun vs H Q E ⟨S, ds, d, s1, r, hR, _⟩ => by rw [dpa_len r]; exact len ds d hR) fun cdv A outer s H vs Q E hr ⟨S, ds, bs, s1, r, hR, q⟩ => ?_
  obtain ⟨ρ', hb⟩ := body ds bs hR
  have fit : Fits (gam P w K mg base N (defScope st) k) (cxOf CX0 P w K mg base N x (defScope st) f cdv A outer s H E).nox := ⟨rfl, rfl, rfl, rfl, rfl, rfl, rfl, rfl, hr, rfl, rfl⟩
  refine ⟨_, (hb _ fit).nox, ⟨S, H, noM⟩, S, ⟨rfl, fun a z => z.elim⟩, ?_, ?_⟩
  · have hpl : ps.length ≤ N.length := by have := congrArg List.length Sc.pre; rw [List.length_take] at this; omega
    exact start_ab _ s1 (Same.refl _) (fun _ _ _ e => e) (fun _ e => e) (fun _ _ e => e) r (by rw [dpa_len r, len ds bs hR]; exact hpl)
  · exact fun L ws σ' S' H' g e1 e2 e3 r' => q L ws S' H' ⟨fun a o e => g.fr a o (fun z => z) e, g.s0, g.sub, g.new⟩ e3 e1 e2 r'
end
end Sg
namespace Sg
open PySem PySem.Spec PyProof.Rows L2
/-! ### a list of lists, all new and still to be changed -/
structure RawM (K : PySem.W.Frag) (BH S H : Hp) (ρ : List Sl) (L : Addr) (as : List Addr) (rs : List (List PyData)) : Prop where
  top : H L = some (.lst (as.map V.ref))
  rows : ∀ (j : Nat) (r : List PyData), rs[j]? = some r → ∃ a vs, as[j]? = some a ∧ H a = some (.lst vs) ∧ DpAll K S vs r
  len : as.length = rs.length
  nd : (L :: as).Nodup
  fr : ∀ a ∈ L :: as, S a = none ∧ BH a = none ∧ ∀ (j : Nat) (es : List PyData), ρ[j]? ≠ some (.mut a es)
section
variable {K : PySem.W.Frag} {B : Bs} {BH S S1 H H1 : Hp} {σ σ1 : L2.St} {ρ ρ' ρ1 : List Sl} {L : Addr} {as : List Addr} {rs : List (List PyData)}
theorem mut_set {i j : Nat} {s : Sl} {a : Addr} {es : List PyData} (hs : ∀ a es, s ≠ .mut a es) (e : (ρ.set i s)[j]? = some (.mut a es)) : ρ[j]? = some (.mut a es) := by
  rcases get_set e with ⟨_, e1, _⟩ | ⟨_, e1⟩
  · exact absurd e1 (hs a es)
  · exact e1
theorem mut_setD : ∀ {is : List Nat} {ds : List PyData} {ρ : List Sl} {j : Nat} {a : Addr} {es : List PyData}, (setD ρ is ds)[j]? = some (.mut a es) → ρ[j]? = some (.mut a es)
  | [], _, _, _, _, _, e => by simpa [setD] using e
  | i :: is, [], _, _, _, _, e => by simpa [setD] using e
  | i :: is, d :: ds, ρ, j, a, es, e => mut_set (s := .dat d) (fun _ _ z => by cases z) (mut_setD (is := is) (ds := ds) (ρ := ρ.set i (.dat d)) e)
theorem mut_fg {is : List Nat} {j : Nat} {a : Addr} {es : List PyData} (e : (fg is ρ)[j]? = some (.mut a es)) : ρ[j]? = some (.mut a es) := by
  rw [fg_get] at e
  split at e
  · split at e <;> cases e
  · exact e
theorem RawM.live (r : RawM K BH S H ρ L as rs) {a : Addr} (ha : a ∈ L :: as) : ∃ vs, H a = some (.lst vs) := by
  rcases List.mem_cons.mp ha with z | z
  · subst z; exact ⟨_, r.top⟩
  · obtain ⟨j, hj, e⟩ := List.getElem_of_mem z
    have hj2 : j < rs.length := by rw [← r.len]; exact hj
    obtain ⟨b, vs, h1, h2, _⟩ := r.rows j rs[j] (List.getElem?_eq_getElem hj2)
    rw [List.getElem?_eq_getElem hj, e] at h1
    cases h1
    exact ⟨vs, h2⟩
theorem RawM.keep (r : RawM K BH S H ρ L as rs) (g : Ab K (cut S H ρ) S1 H1 σ1 ρ1) : RawM K BH S1 H1 ρ1 L as rs := by
  have eq : ∀ a ∈ L :: as, ∀ o, H a = some o → H1 a = some o := fun a ha o e => g.fr a o (fun ⟨j, es, z⟩ => (r.fr a ha).2.2 j es z) e
  refine ⟨eq L List.mem_cons_self _ r.top, fun j x e => ?_, r.len, r.nd, fun a ha => ⟨?_, (r.fr a ha).2.1, fun j es z => ?_⟩⟩
  · obtain ⟨a, vs, h1, h2, h3⟩ := r.rows j x e
    exact ⟨a, vs, h1, eq a (List.mem_cons_of_mem _ (List.mem_of_getElem? h1)) _ h2, Dpam h3 g.s0⟩
  · obtain ⟨vs, hv⟩ := r.live ha
    exact g.new a (show H a ≠ none by rw [hv]; intro z; cases z) (r.fr a ha).1
  · obtain ⟨vs, hv⟩ := r.live ha
    rcases (g.mt j a es z).2.2.1 with ⟨j2, es2, w⟩ | w
    · exact (r.fr a ha).2.2 j2 es2 w
    · rw [show (cut S H ρ).H a = H a from rfl, hv] at w; cases w
theorem RawM.nw (r : RawM K BH S H ρ L as rs) (n : Nw S H S1 H1) : RawM K BH S1 H1 ρ L as rs := by
  refine ⟨n.hh _ _ r.top, fun j x e => ?_, r.len, r.nd, fun a ha => ⟨?_, (r.fr a ha).2⟩⟩
  · obtain ⟨a, vs, h1, h2, h3⟩ := r.rows j x e
    exact ⟨a, vs, h1, n.hh _ _ h2, Dpam h3 n.ss⟩
  · obtain ⟨vs, hv⟩ := r.live ha
    exact n.new a (by rw [hv]; intro z; cases z) (r.fr a ha).1
theorem RawM.re (r : RawM K BH S H ρ L as rs) (h : ∀ (j : Nat) (a : Addr) (es : List PyData), ρ'[j]? = some (.mut a es) → ∃ j2 : Nat, ρ[j2]? = some (.mut a es)) : RawM K BH S H ρ' L as rs :=
  ⟨r.top, r.rows, r.len, r.nd, fun a ha => ⟨(r.fr a ha).1, (r.fr a ha).2.1, fun j es z => let ⟨j2, w⟩ := h j a es z; (r.fr a ha).2.2 j2 es w⟩⟩
theorem Ab.write {a : Addr} {o : HO} (h : Ab K B S H σ ρ) (sa : S a = none) (ba : B.H a = none) (na : ∀ (j : Nat) (es : List PyData), ρ[j]? ≠ some (.mut a es)) : Ab K B S (upd H a o) σ ρ := by
  refine ⟨fun b x z => ?_, h.s0, fun b x hm z => ?_, fun b z => ?_, h.new, h.len, h.dat, fun j b es z => ?_, h.sep⟩
  · rw [upd_ne (ne_of_none z sa)]
    exact h.sub _ _ z
  · rw [upd_ne (ne_of_none z ba)]
    exact h.fr _ _ hm z
  · by_cases hb : b = a
    · subst hb; exact ba
    · rw [upd_ne hb] at z; exact h.dom _ z
  · obtain ⟨u1, u2, u3, us, u4, u5⟩ := h.mt j b es z
    have : b ≠ a := by
      rintro rfl
      exact na j es z
    exact ⟨u1, u2, u3, us, by rw [upd_ne this]; exact u4, u5⟩
theorem RawM.store (r : RawM K BH S H ρ L as rs) {j k : Nat} {row : List PyData} {a : Addr} {vs : List V} {v : V} {d : PyData} (e : rs[j]? = some row) (ea : as[j]? = some a) (hv : DpAll K S vs row) (hd : Dp K S v d) : RawM K BH S (upd H a (.lst (vs.set k v))) ρ L as (rs.set j (row.set k d)) := by
  have ham : a ∈ as := List.mem_of_getElem? ea
  have hne : L ≠ a := fun z => (List.nodup_cons.mp r.nd).1 (z ▸ ham)
  refine ⟨by rw [upd_ne hne]; exact r.top, fun j2 x e2 => ?_, by rw [List.length_set]; exact r.len, r.nd, r.fr⟩
  by_cases hj : j = j2
  · subst hj
    have hlt : j < rs.length := (List.getElem?_eq_some_iff.mp e).1
    rw [List.getElem?_set_self hlt] at e2
    cases e2
    exact ⟨a, _, ea, upd_same, dpa_set k hv hd⟩
  · rw [List.getElem?_set_ne hj] at e2
    obtain ⟨b, ws, h1, h2, h3⟩ := r.rows j2 x e2
    have : b ≠ a := by
      rintro rfl
      obtain ⟨l1, e3⟩ := List.getElem?_eq_some_iff.mp h1
      obtain ⟨l2, e4⟩ := List.getElem?_eq_some_iff.mp ea
      have nd := (List.nodup_cons.mp r.nd).2
      exact hj ((List.getElem_inj (h₀ := l2) (h₁ := l1) nd).mp (e4.trans e3.symm))
    exact ⟨b, ws, h1, by rw [upd_ne this]; exact h2, h3⟩
theorem RawM.push (r : RawM K BH S H ρ L as rs) {a : Addr} {vs : List V} {row : List PyData} (h1 : H a = some (.lst vs)) (h2 : S a = none) (h3 : BH a = none) (h4 : ∀ (j : Nat) (es : List PyData), ρ[j]? ≠ some (.mut a es)) (h5 : a ∉ L :: as) (h6 : DpAll K S vs row) :
    RawM K BH S (upd H L (.lst ((as.map V.ref) ++ [.ref a]))) ρ L (as ++ [a]) (rs ++ [row]) := by
  have ne : ∀ b, b ∈ as ∨ b = a → b ≠ L := fun b hb z => by
    subst z
    rcases hb with hb | hb
    · exact (List.nodup_cons.mp r.nd).1 hb
    · subst hb; exact h5 List.mem_cons_self
  refine ⟨by rw [upd_same, List.map_append]; rfl, fun j x e => ?_, by simp [r.len], ?_, fun b hb => ?_⟩
  · by_cases hj : j < rs.length
    · rw [List.getElem?_append_left hj] at e
      obtain ⟨b, ws, q1, q2, q3⟩ := r.rows j x e
      exact ⟨b, ws, by rw [List.getElem?_append_left (by rw [r.len]; exact hj)]; exact q1, by rw [upd_ne (ne b (.inl (List.mem_of_getElem? q1)))]; exact q2, q3⟩
    · rw [List.getElem?_append_right (by omega)] at e
      have hj0 : j - rs.length = 0 := by
        have := (List.getElem?_eq_some_iff.mp e).1
        simp at this; omega
      rw [hj0] at e
      simp at e
      subst e
      exact ⟨a, vs, by rw [List.getElem?_append_right (by rw [r.len]; omega), r.len, hj0]; rfl, by rw [upd_ne (ne a (.inr rfl))]; exact h1, h6⟩
  · have nd := List.nodup_cons.mp r.nd
    refine List.nodup_cons.mpr ⟨fun z => ?_, List.nodup_append.mpr ⟨nd.2, by simp, fun x hx y hy e => ?_⟩⟩
    · rcases List.mem_append.mp z with z | z
      · exact nd.1 z
      · simp at z; exact h5 (by rw [← z]; exact List.mem_cons_self)
    · simp at hy; subst hy; subst e
      exact h5 (List.mem_cons_of_mem _ hx)
  · rcases List.mem_cons.mp hb with z | z
    · exact r.fr b (by rw [z]; exact List.mem_cons_self)
    · rcases List.mem_append.mp z with z | z
      · exact r.fr b (List.mem_cons_of_mem _ z)
      · simp at z; subst z; exact ⟨h2, h3, h4⟩
theorem frz_all : ∀ (as : List Addr) {S : Hp}, Ab K B S H σ ρ → as.Nodup → (∀ a ∈ as, S a = none ∧ B.H a = none ∧ (∀ (j : Nat) (es : List PyData), ρ[j]? ≠ some (.mut a es)) ∧ ∃ vs, H a = some (.lst vs)) → ∃ S', Ab K B S' H σ ρ ∧ Same S S' ∧ (∀ a ∈ as, S' a = H a) ∧ ∀ a, a ∉ as → S' a = S a
  | [], S, h, _, _ => ⟨S, h, Same.refl _, (fun _ z => nomatch z), fun _ _ => rfl⟩
  | a :: as, S, h, nd, hf => by
    obtain ⟨f1, f2, f3, vs, f4⟩ := hf a List.mem_cons_self
    obtain ⟨g1, ss⟩ := h.frz f4 f1 f2 f3
    have nd' := List.nodup_cons.mp nd
    have ne : ∀ b ∈ as, b ≠ a := fun b hb z => nd'.1 (z ▸ hb)
    obtain ⟨S', q1, q2, q3, q4⟩ := frz_all as g1 nd'.2 fun b hb => ⟨by rw [upd_ne (ne b hb)]; exact (hf b (List.mem_cons_of_mem _ hb)).1, (hf b (List.mem_cons_of_mem _ hb)).2⟩
    refine ⟨S', q1, ss.trans q2, fun b hb => ?_, fun b hb => ?_⟩
    · rcases List.mem_cons.mp hb with z | z
      · subst z; rw [q4 b nd'.1, upd_same, f4]
      · exact q3 b z
    · rw [q4 b fun z => hb (List.mem_cons_of_mem _ z), upd_ne fun z => hb (by rw [z]; exact List.mem_cons_self)]
theorem dpa_idx {S : Hp} : ∀ {vs : List V} {ds : List PyData}, vs.length = ds.length → (∀ (j : Nat) (v : V) (d : PyData), vs[j]? = some v → ds[j]? = some d → Dp K S v d) → DpAll K S vs ds
  | [], [], _, _ => .nil
  | [], _ :: _, h, _ => by simp at h
  | _ :: _, [], h, _ => by simp at h
  | v :: vs, d :: ds, h, k => .cons (k 0 v d rfl rfl) (dpa_idx (by simpa using h) fun j w e h1 h2 => k (j + 1) w e (by simpa using h1) (by simpa using h2))
theorem RawM.freeze {i : Nat} (r : RawM K B.H S H ρ L as rs) (h : Ab K B S H σ ρ) (hσ : σ[i]? = some (some (.ref L))) : ∃ S', Ab K B S' H σ (ρ.set i (.dat (.list (rs.map .list)))) ∧ Same S S' := by
  obtain ⟨S', q1, q2, q3, _⟩ := frz_all (L :: as) h r.nd fun a ha => ⟨(r.fr a ha).1, (r.fr a ha).2.1, (r.fr a ha).2.2, r.live ha⟩
  have hd : Dp K S' (.ref L) (.list (rs.map .list)) := by
    refine .lst (.of (by rw [q3 L List.mem_cons_self]; exact r.top)) (dpa_idx (by rw [List.length_map, List.length_map]; exact r.len) fun j v d e1 e2 => ?_)
    rw [List.getElem?_map] at e1 e2
    obtain ⟨row, hr, rfl⟩ := Option.map_eq_some_iff.mp e2
    obtain ⟨a, vs, h1, h2, h3⟩ := r.rows j row hr
    rw [h1] at e1
    cases e1
    exact .lst (.of (by rw [q3 a (List.mem_cons_of_mem _ (List.mem_of_getElem? h1))]; exact h2)) (Dpam h3 q2)
  have g := q1.set (i := i) hd
  have e : σ.set i (some (.ref L)) = σ := by
    obtain ⟨hl, e⟩ := List.getElem?_eq_some_iff.mp hσ
    rw [← e, List.set_getElem_self]
  rw [e] at g
  exact ⟨S', g, q2⟩
end
/-! ### nested comprehensions -/
def tEM (K : PySem.W.Frag) (ρ : List Sl) (rs : List (List PyData)) (ρ' : List Sl) : TE := fun σ H Q => ∃ B S, Ab K B S H σ ρ ∧ ∀ L as S' H', Ab K B S' H' σ ρ' → RawM K B.H S' H' ρ' L as rs → Q (.ref L) H'
section
variable {G : Gam} {m : Addr → Prop} {e a b c tg it elt : Expr} {ρ ρ' ρ1 ρ2 ρ3 : List Sl} {d : PyData} {ds items ys : List PyData} {pos p py spos p2 p3 apos cpos : Pos} {x y : Str} {scope : Scope} {own : List (Str × Nat)} {α : Type}
theorem lm_sound {X : Cx} (F : Fits G X) (f : α → PyData) (g : α → List PyData) (l : List α) (hi : IX G tg it ρ (l.map f) ρ1) (hm : noMut (own.map (·.2)) ρ1 = true)
    (hl : ∀ a ∈ l, ∃ is ds ρ2, GX (G.blk scope) tg (f a) is ds ∧ (∀ i ∈ is, i ∈ own.map (·.2)) ∧ EXL (G.blk scope) elt (setD (fg (own.map (·.2)) ρ1) is ds) (g a) ρ2 ∧ fg (own.map (·.2)) ρ2 = fg (own.map (·.2)) ρ1) (hz : l.length ≤ 1000) (σ : L2.St) (H : Hp) (Q : VK)
    (q : tEM G.K ρ (l.map g) ρ1 σ H Q) : tLc (tI G.K ρ (l.map f) ρ1) (gAny G scope X tg) (tAny G scope X []) (eAny G scope X elt) (own.map (·.2)) σ H Q := by
  obtain ⟨B, S, h, k⟩ := q
  refine ⟨B, S, h, fun J S1 H1 g0 wk D hD => ?_⟩
  generalize hown : own.map (·.2) = ow at *
  have fitb : ∀ (s : Shared) (H : Hp) (C : Addr) (cl : List (Str × Addr)) (fp : List Addr), Fits (G.blk scope) (X.blk s H scope (compEnvC scope cl C X.env) fp) := fun s H C cl fp => F.blk scope s H C cl fp
  have sD : S1 D = none := g0.sub.free hD
  have bD : B.H D = none := g0.dom D hD
  have nD : ∀ (j : Nat) (es : List PyData), ρ1[j]? ≠ some (.mut D es) := fun j es e => by
    obtain ⟨_, _, _, ws, q4, _⟩ := g0.mt j D es e
    rw [hD] at q4
    cases q4
  have n0 : Nw S1 H1 S1 (upd H1 D (.lst [])) := ⟨(Nw.one g0.sub hD).hh, Same.refl _, g0.sub.trans (Nw.one g0.sub hD).hh, fun _ _ z => z⟩
  have gw := (g0.up.grow n0).wipe ow
  refine ⟨fun i mm H' => ∃ S' as, Ab G.K (B.at_ S1) S' H' (wipe σ ow) (fg ow ρ1) ∧ RawM G.K B.H S' H' (fg ow ρ1) D as ((l.take i).map g) ∧ mm = l.length - i ∧ i ≤ l.length,
    ⟨_, S1, [], gw, ⟨upd_same, fun j r e => by simp at e, rfl, by simp, fun a ha => ?_⟩, rfl, Nat.zero_le _⟩, ?_⟩
  · simp at ha
    subst ha
    exact ⟨sD, bD, fun j es e => nD j es (mut_fg e)⟩
  · rintro i mm H' ⟨S', as, gi, R, rfl, hle⟩
    obtain ⟨w1, w2, w3⟩ := wk S' H' gi.s0 gi.sub
    rw [List.length_map] at w1 w2
    by_cases hlt : i < l.length
    · right
      refine ⟨w1 i hlt, ?_⟩
      obtain ⟨is, ds, ρ2, hg, hsub, he, hfg⟩ := hl l[i] (List.getElem_mem hlt)
      refine ⟨fun H2 => ∃ S2 as, Ab G.K (B.at_ S1) S2 H2 (wipe σ ow) (fg ow ρ1) ∧ RawM G.K B.H S2 H2 (fg ow ρ1) D as ((l.take (i + 1)).map g), fun H2 ⟨S2, as, z1, z2⟩ => ⟨l.length - (i + 1), by omega, S2, as, z1, z2, rfl, hlt⟩, fun x H2 y => ?_⟩
      obtain ⟨S2, n2, r⟩ := w3 i x H2 (f l[i]) (by rw [List.getElem?_map, List.getElem?_eq_getElem hlt]; rfl) y
      have g2 := gi.grow n2
      have R2 := R.nw n2
      refine ⟨_, fun s H C cl fp => hg.2 _ (fitb s H C cl fp), S2, g2.sub, r, fun vs rv => ⟨by rw [wipe_setV hsub, wipe_wipe], _, fun s H C cl fp => if_nil (ρ := setD (fg ow ρ1) is ds) _ (fitb s H C cl fp), ?_⟩⟩
      have g3 := g2.setD (is := is) rv
      have R3 : RawM G.K B.H S2 H2 (setD (fg ow ρ1) is ds) D as ((l.take i).map g) := R2.re fun j a es z => ⟨j, mut_setD z⟩
      refine ⟨cut S2 H2 _, S2, g3.here, fun S4 H4 c4 => iteT ⟨_, fun s H C cl fp => he _ (fitb s H C cl fp), ?_⟩⟩
      have R4 := R3.keep c4
      have g4 := g3.trans c4
      refine ⟨cut S4 H4 _, S4, g4.here, fun Dn vn S5 H5 c5 e1 e2 e3 r5 e4 => ?_⟩
      have R5 := R4.keep c5
      have g5 := g4.trans c5
      have hDn : Dn ∉ D :: as := fun z => by
        obtain ⟨vs, hv⟩ := R4.live z
        rw [show (cut S4 H4 (setD (fg ow ρ1) is ds)).H Dn = H4 Dn from rfl, hv] at e3
        cases e3
      have bDn : B.H Dn = none := g4.dom Dn e3
      have hlen : (as.map V.ref).length ≤ 1000 := by rw [List.length_map, R5.len, List.length_map, List.length_take]; omega
      refine ⟨as.map V.ref, R5.top, small1000 hlen, ?_⟩
      have w0 := g5.wipe ow
      rw [wipe_setV hsub, wipe_wipe, hfg] at w0
      have R6 : RawM G.K B.H S5 H5 (fg ow ρ1) D as ((l.take i).map g) := R5.re fun j a es z => by
        rw [← hfg] at z
        exact ⟨j, mut_fg z⟩
      have e4' : ∀ (j : Nat) (es : List PyData), (fg ow ρ1)[j]? ≠ some (.mut Dn es) := fun j es z => by
        rw [← hfg] at z
        exact e4 j es (mut_fg z)
      have hfD := R6.fr D List.mem_cons_self
      refine ⟨S5, as ++ [Dn], w0.write hfD.1 hfD.2.1 hfD.2.2, ?_⟩
      rw [List.take_succ, List.getElem?_eq_getElem hlt, Option.toList_some, List.map_append]
      exact R6.push e1 e2 bDn e4' hDn r5
    · left
      have e : i = l.length := by omega
      subst e
      refine ⟨w2, ?_⟩
      have gr := Ab.restore g0 gi.s0 hm (g0.down gi)
      rw [rest_fg] at gr
      rw [List.take_length] at R
      refine k D as S' H' gr (R.re fun j a es z => ⟨j, ?_⟩)
      rw [fg_get]
      by_cases hj : j ∈ ow
      · exfalso
        have q := List.all_eq_true.mp hm j hj
        simp only [z] at q
        cases q
      · rw [if_neg hj]; exact z
/-! ### with a fact that stands -/
abbrev Fx := Hp → L2.St → Prop
def FxT : Fx := fun _ _ => True
def EXf (Φ : Fx) (G : Gam) (e : Expr) (ρ : List Sl) (d : PyData) (ρ' : List Sl) : Prop := ∀ X, Fits G X → PE X e (fun σ H Q => ∃ B S, Ab G.K B S H σ ρ ∧ Φ S σ ∧ ∀ v S' H', Ab G.K B S' H' σ ρ' → Dp G.K S' v d → Q v H')
def BXf (Φ : Fx) (G : Gam) (m : Addr → Prop) (sts : List Stmt) (ρ : List Sl) (o : Out) : Prop := ∀ X, Fits G X → PSs X sts (fun D σ H => ∃ B S, BM B m ∧ Ab G.K B S H σ ρ ∧ Φ S σ ∧ OutOk G.K B D o)
def MB (Φ : Fx) (G : Gam) (m : Addr → Prop) (i : Nat) (sts : List Stmt) (ρ : List Sl) (rs : List (List PyData)) (o : Out) : Prop := ∀ X, Fits G X → PSs X sts (fun D σ H => ∃ B S L as, BM B m ∧ Ab G.K B S H σ ρ ∧ RawM G.K B.H S H ρ L as rs ∧ σ[i]? = some (some (.ref L)) ∧ Φ S σ ∧ OutOk G.K B D o)
def MS (Φ : Fx) (G : Gam) (i : Nat) (st : Stmt) (ρ : List Sl) (rs : List (List PyData)) (ρ' : List Sl) (rs' : List (List PyData)) : Prop := ∀ X, Fits G X → PS X st (fun D σ H => ∃ B S L as, Ab G.K B S H σ ρ ∧ RawM G.K B.H S H ρ L as rs ∧ σ[i]? = some (some (.ref L)) ∧ Φ S σ ∧
  ∀ σ' S' H', Ab G.K B S' H' σ' ρ' → RawM G.K B.H S' H' ρ' L as rs' → σ'[i]? = some (some (.ref L)) → Φ S' σ' → D.nx σ' H')
variable {Φ : Fx} {st : Stmt} {rest : List Stmt} {rs rs1 rs2 : List (List PyData)} {o : Out}
theorem exf (h : EX G e ρ d ρ') : EXf Φ G e ρ d ρ' := fun X F => PEw (h X F) fun σ H Q ⟨B, S, g, _, k⟩ => ⟨B, S, g, k⟩
theorem bxf (h : BX G m rest ρ o) : BXf Φ G m rest ρ o := fun X F => PSsw (h X F) fun D σ H ⟨B, S, e, g, _, k⟩ => ⟨B, S, e, g, k⟩
theorem bx_of (h : BXf FxT G m rest ρ o) : BX G m rest ρ o := fun X F => PSsw (h X F) fun D σ H ⟨B, S, e, g, k⟩ => ⟨B, S, e, g, trivial, k⟩
theorem mb_cons {i : Nat} (h1 : MS Φ G i st ρ rs ρ1 rs1) (h2 : MB Φ G m i rest ρ1 rs1 o) : MB Φ G m i (st :: rest) ρ rs o := fun X F => PSsw (pss_cons (h1 X F) (h2 X F)) fun D σ H ⟨B, S, L, as, e, g, R, hσ, φ, k⟩ =>
  ⟨B, S, L, as, g, R, hσ, φ, fun σ1 S1 H1 g1 R1 h1 φ1 => ⟨B, S1, L, as, e, g1, R1, h1, φ1, k⟩⟩
/-- frozen: data from here on -/
theorem mb_frz {i : Nat} (h : BX G m rest (ρ.set i (.dat (.list (rs.map .list)))) o) : MB Φ G m i rest ρ rs o := fun X F => PSsw (h X F) fun D σ H ⟨B, S, L, as, e, g, R, hσ, φ, k⟩ => by
  obtain ⟨S', g', _⟩ := R.freeze g hσ
  exact ⟨B, S', e, g', k⟩
/-- x[e1][e2] = e3 -/
theorem ms_store (hΦ : ∀ S S' σ, Φ S σ → Same S S' → Φ S' σ) (i : Nat) {e1 e2 e3 : Expr} {k1 k2 : Int} {j1 j2 : Nat} {r : List PyData} (h3 : EXf Φ G e3 ρ d ρ1) (h1 : EXf Φ G e1 ρ1 (.int k1) ρ2) (h2 : EXf Φ G e2 ρ2 (.int k2) ρ3) (hj1 : ixN rs.length k1 = some j1) (hr : rs[j1]? = some r) (hj2 : ixN r.length k2 = some j2)
    (hN : G.N[i]? = some y := by rfl) (hv : visB G.sc y = true := by rfl) (hd : (y == ("__debug__" : Str)) = false := by decide) (hcd : (y == ("__classdict__" : Str)) = false := by decide) (hp1 : PlainIx e1 := by exact fun _ _ => rfl)
    (ha : ∀ (env : Env) (v : Value), assign (.Subscript (.Subscript (.Name y p2) e1 p3) e2 p) env v = (do
      let ov ← holding [v] (eval (.Subscript (.Name y p2) e1 p3) env)
      let iv ← holding [v, ov] (eval e2 env)
      standAt p
      holding [v, ov, iv] (setItem ov iv v)
      release [v, ov, iv] []) := by intro _ _; rfl) (hs : ∀ env : Env, swapsWithSole [.Subscript (.Subscript (.Name y p2) e1 p3) e2 p] e3 pos.line env = pure false := by intro _; rfl) (hw : ∀ env : Env, swappedStores [.Subscript (.Subscript (.Name y p2) e1 p3) e2 p] e3 env = pure none := by intro _; rfl) :
    MS Φ G i (.Assign [.Subscript (.Subscript (.Name y p2) e1 p3) e2 p] e3 pos) ρ rs ρ3 (rs.set j1 (r.set j2 d)) := fun X F => by
  have pv0 : PE X (.Name y p2) (tVar i) := pe_var (i := i) (by rw [F.N]; exact hN) (by rw [F.sc]; exact visB_ok hv) hd hcd
  refine PSw (ps_asg (h3 X F) (pg_sub (pe_ix ix_list pv0 (h1 X F) hp1) (h2 X F) set_list (ha _)) (hs _) (hw _) rfl) fun D σ H ⟨B, S, L, as, g, R, hσ, φ, k⟩ => ?_
  refine ⟨cut S H ρ, S, g.here, φ, fun v S1 H1 c1 r1 => ?_⟩
  have R1 := R.keep c1
  have g1 := g.trans c1
  have φ1 := hΦ _ _ _ φ c1.s0
  refine ⟨.ref L, hσ, cut S1 H1 ρ1, S1, g1.here, φ1, fun v2 S2 H2 c2 r2 => ?_⟩
  cases r2
  have R2 := R1.keep c2
  have g2 := g1.trans c2
  have φ2 := hΦ _ _ _ φ1 c2.s0
  obtain ⟨a, vs, q1, q2, q3⟩ := R2.rows j1 r hr
  have hat : atI (as.map V.ref) k1 = some (.ref a) := by
    have hl : (as.map V.ref).length = rs.length := by rw [List.length_map]; exact R2.len
    rw [atI, hl, hj1]
    show (as.map V.ref)[j1]? = _
    rw [List.getElem?_map, q1]; rfl
  refine ⟨L, as.map V.ref, k1, .ref a, rfl, rfl, .of R2.top, hat, ?_⟩
  refine ⟨cut S2 H2 ρ2, S2, g2.here, φ2, fun v3 S3 H3 c3 r3 => ?_⟩
  cases r3
  have R3 := R2.keep c3
  have g3 := g2.trans c3
  have φ3 := hΦ _ _ _ φ2 c3.s0
  obtain ⟨a', vs', t1, t2, t3⟩ := R3.rows j1 r hr
  have e : a' = a := by rw [q1] at t1; exact (Option.some.inj t1).symm
  subst e
  have hf := R3.fr a' (List.mem_cons_of_mem _ (List.mem_of_getElem? t1))
  have r13 : Dp G.K S3 v d := Dpm r1 (c2.s0.trans c3.s0)
  exact ⟨a', vs', k2, j2, rfl, rfl, t2, by rw [dpa_len t3]; exact hj2, k σ S3 _ (g3.write hf.1 hf.2.1 hf.2.2) (R3.store hr t1 t3 r13) hσ φ3⟩
theorem setV_ne : ∀ {is : List Nat} {vs : List V} {σ : L2.St} {i : Nat}, i ∉ is → (setV σ is vs)[i]? = σ[i]?
  | [], _, _, _, _ => by simp [setV]
  | j :: is, [], _, _, _ => by simp [setV]
  | j :: is, v :: vs, σ, i, h => by
    show (setV (σ.set j (some v)) is vs)[i]? = _
    rw [setV_ne (fun z => h (List.mem_cons_of_mem _ z)), List.getElem?_set_ne (fun z => h (by rw [z]; exact List.mem_cons_self))]
inductive LpM (G : Gam) (i : Nat) (tg : Expr) (st : Stmt) : List PyData → List Sl → List (List PyData) → List Sl → List (List PyData) → Prop
  | nil {ρ : List Sl} {rs : List (List PyData)} : LpM G i tg st [] ρ rs ρ rs
  | step {x : PyData} {xs : List PyData} {ρ ρ2 ρ' : List Sl} {rs rs2 rs' : List (List PyData)} {is : List Nat} {ds : List PyData} (is2 : List Nat) : GX G tg x is ds → i ∉ is → MS FxT G i st (setD ρ is ds) rs ρ2 rs2 → LpM G i tg st xs (fg is2 ρ2) rs2 ρ' rs' → LpM G i tg st (x :: xs) ρ rs ρ' rs'
theorem ms_for {i : Nat} (hi : IX G tg it ρ items ρ1) (hl : LpM G i tg st items ρ1 rs ρ' rs1) : MS FxT G i (.For tg it [st] [] pos) ρ rs ρ' rs1 := fun X F => by
  have hp : PassesOwn (model X.prog X.w) X.A X.env X.xe := by
    rw [F.xe]
    exact .never
  refine PSw (ps_for hp F.calm (hi.2 X F) pg_any pss_any (hi.1 _)) fun D σ H ⟨B, S, L, as, h, R, hσ, _, k⟩ => ?_
  refine ⟨cut S H ρ, S, h.here, fun J S1 H1 c wk => ?_⟩
  have g := h.trans c
  have R1 := R.keep c
  refine ⟨fun n mm σ' H' => ∃ S' ρi ri, Ab G.K (B.at_ S1) S' H' σ' ρi ∧ RawM G.K B.H S' H' ρi L as ri ∧ σ'[i]? = some (some (.ref L)) ∧ LpM G i tg st (items.drop n) ρi ri ρ' rs1 ∧ mm = items.length - n ∧ n ≤ items.length, ⟨_, S1, ρ1, rs, g.up, R1, hσ, hl, rfl, Nat.zero_le _⟩, ?_⟩
  rintro n mm σ' H' ⟨S', ρi, ri, gi, Ri, hi', li, rfl, hle⟩
  obtain ⟨w1, w2, w3⟩ := wk S' H' gi.s0 gi.sub
  by_cases hlt : n < items.length
  · right
    rw [List.drop_eq_getElem_cons hlt] at li
    refine ⟨w1 n hlt, ?_⟩
    cases li with
    | @step _ _ _ ρ2 _ _ rs2 _ is ds is2 hg hni hb hn =>
      refine ⟨fun σ2 H2 => ∃ S2, Ab G.K (B.at_ S1) S2 H2 σ2 ρ2 ∧ RawM G.K B.H S2 H2 ρ2 L as rs2 ∧ σ2[i]? = some (some (.ref L)), fun σ2 H2 ⟨S2, g2, R2, h2⟩ => ⟨items.length - (n + 1), by omega, S2, fg is2 ρ2, rs2, g2.drop, R2.re fun j a es z => ⟨j, mut_fg z⟩, h2, hn, rfl, hlt⟩, fun x H2 y => ?_⟩
      obtain ⟨S2, n2, r⟩ := w3 n x H2 _ (List.getElem?_eq_getElem hlt) y
      have g2 := gi.grow n2
      have R2 := Ri.nw n2
      refine ⟨_, hg.2 X F, S2, g2.sub, r, fun vs r2 => ⟨_, pss_cons (hb X F) pss_nil, B.at_ S1, S2, L, as, g2.setD r2, R2.re fun j a es z => ⟨j, mut_setD z⟩, by rw [setV_ne hni]; exact hi', trivial, fun σ3 S3 H3 g3 R3 h3 _ => ⟨S3, g3, R3, h3⟩⟩⟩
  · left
    have e : n = items.length := by omega
    subst e
    rw [List.drop_length] at li
    cases li with
    | nil => exact ⟨w2, k _ _ _ (g.down gi) Ri hi' trivial⟩
/-- name = [[..] ..], the name a local -/
theorem b_mat {Ψ : Fx} (i : Nat) (f : α → PyData) (gf : α → List PyData) (l : List α) (nd : G.N.Nodup) (ok : blkB G.N G.sc scope own = true) (hi : IX G tg it ρ (l.map f) ρ1)
    (hl : ∀ a ∈ l, ∃ is ds ρ2, GX (G.blk scope) tg (f a) is ds ∧ (∀ i ∈ is, i ∈ own.map (·.2)) ∧ EXL (G.blk scope) elt (setD (fg (own.map (·.2)) ρ1) is ds) (gf a) ρ2 ∧ fg (own.map (·.2)) ρ2 = fg (own.map (·.2)) ρ1) (hz : l.length ≤ 1000) (hΦ : ∀ S S' σ v, Φ S σ → Same S S' → Ψ S' (σ.set i v))
    (h2 : MB Ψ G m i rest (ρ1.set i .no) (l.map gf) o) (hlen : i < ρ1.length) (hm : noMut (own.map (·.2)) ρ1 = true := by rfl) (hk : G.sc.kind = .function := by rfl) (hN : G.N[i]? = some y := by rfl) (hyl : G.sc.names.lookup y = some NameKind.local := by rfl)
    (hln : (py.line == pos.line) = true := by rfl) (ha : (scope.names.any fun (n, k) => n == y && (k == .local || k == .cell)) = false := by rfl) : BXf Φ G m (.Assign [.Name y py] (.ListComp elt [⟨tg, it, [], 0⟩] scope pos) spos :: rest) ρ o := fun X F => by
  have hk' : X.env.scope.kind = .function := by rw [F.sc]; exact hk
  have hy' : X.env.scope.names.lookup y = some .local := by rw [F.sc]; exact hyl
  refine PSsw (pss_cons (ps_setLc (i := i) (g := gAny G scope X tg) (tt := tAny G scope X []) (te := eAny G scope X elt) F.calm (by rw [F.N]; exact nd) (by rw [F.N]; exact hN) hy' (sw_true hk' hy' hln ha) (hi.2 X F) (blkB_ok F (blkB_mk ok)) (fun s H C cl fp => ⟨fun pins s' σ H' v u Q I r ⟨t, h, q⟩ => (h s H C cl fp).run pins s' σ H' v u Q I r q⟩)
    (fun s H C cl fp => ⟨fun pins s' σ H' Q I ⟨t, h, q⟩ => (h s H C cl fp).run pins s' σ H' Q I q⟩) (fun s H C cl fp => ⟨fun pins s' σ H' Q I ⟨t, h, q⟩ => (h s H C cl fp).run pins s' σ H' Q I q⟩) (hi.1 _)) (h2 X F)) fun D σ H ⟨B, S, eq, h, φ, k⟩ => ?_
  unfold tSeq tAsg
  refine lm_sound F f gf l hi hm hl hz σ H _ ⟨cut S H ρ, S, h.here, fun L as S1 H1 c R => ?_⟩
  have g := h.trans c
  have R' : RawM G.K B.H S1 H1 (ρ1.set i .no) L as (l.map gf) := ⟨R.top, R.rows, R.len, R.nd, fun a ha => ⟨(R.fr a ha).1, h.dom a (R.fr a ha).2.1, fun j es z => (R.fr a ha).2.2 j es (mut_set (fun _ _ w => by cases w) z)⟩⟩
  refine ⟨B, S1, L, as, eq, ?_, R', List.getElem?_set_self (by rw [g.len]; exact hlen), hΦ _ _ _ _ φ c.s0, k⟩
  -- the slot holds the list, of which nothing is said
  have g1 : Ab G.K B S1 H1 σ (ρ1.set i .no) := g.drop1
  have nslot : ∀ {j : Nat} {s : Sl}, s ≠ .no → (ρ1.set i .no)[j]? = some s → i ≠ j := fun {j s} hs e z => by
    subst z
    rw [List.getElem?_set_self hlen] at e
    exact hs (Option.some.inj e).symm
  exact ⟨g1.sub, g1.s0, g1.fr, g1.dom, g1.new, by rw [List.length_set]; exact g1.len, fun j d e => by
    obtain ⟨v, h1, h2⟩ := g1.dat j d e
    exact ⟨v, by rw [List.getElem?_set_ne (nslot (by intro z; cases z) e)]; exact h1, h2⟩, fun j a es e => by
    obtain ⟨h1, h2⟩ := g1.mt j a es e
    exact ⟨by rw [List.getElem?_set_ne (nslot (by intro z; cases z) e)]; exact h1, h2⟩, g1.sep⟩
/-! ### a tuple known to be plain, its index -/
def FxTup (K : PySem.W.Frag) (i : Nat) (us : List PyData) : Fx := fun S σ => ∃ t o ws, σ[i]? = some (some (.ref t)) ∧ S t = some (.frz o (.tup ws)) ∧ o.cls = .type "tuple" ∧ o.dict = none ∧ DpAll K S ws us
theorem FxTup.mono {K : PySem.W.Frag} {i : Nat} {us : List PyData} (S S' : Hp) (σ : L2.St) (h : FxTup K i us S σ) (ss : Same S S') : FxTup K i us S' σ := by
  obtain ⟨t, o, ws, h1, h2, h3, h4, h5⟩ := h
  exact ⟨t, o, ws, h1, ss _ _ h2, h3, h4, Dpam h5 ss⟩
theorem FxTup.slot {K : PySem.W.Frag} {i l : Nat} {us : List PyData} (hil : i ≠ l) (S S' : Hp) (σ : L2.St) (v : Option V) (h : FxTup K i us S σ) (ss : Same S S') : FxTup K i us S' (σ.set l v) := by
  obtain ⟨t, o, ws, h1, h2, h3, h4, h5⟩ := h
  exact ⟨t, o, ws, by rw [List.getElem?_set_ne (Ne.symm hil)]; exact h1, ss _ _ h2, h3, h4, Dpam h5 ss⟩
def spX (K : PySem.W.Frag) (R : List PyData → List PyData → Prop) : Sp := fun vs H Q _ => ∃ S ds us, Same S H ∧ DpAll K S vs ds ∧ R ds us ∧ ∀ t o ws S' H', Nw S H S' H' → S' t = some (.frz o (.tup ws)) → o.cls = .type "tuple" → o.dict = none → DpAll K S' ws us → Q (.ref t) H'
def tBMf (T : String) (r : V → List V → Hp → VK → Prop) (to : TE) (t : TA) : TE := fun σ H Q => to σ H fun x H1 => (∃ p o u, x = .ref p ∧ H1 p = some (.frz o u) ∧ o.cls = .type T ∧ o.dict = none) ∧ t σ H1 fun xs H2 => r x xs H2 Q
theorem pe_bmF {X : Cx} {o e : Expr} {es : List Expr} {to : TE} {t : TA} {name : Str} {T id : String} {r : V → List V → Hp → VK → Prop} (pa : PlainAttrs T) (slot : Slot T name id) (hty : typeOf (.builtin id) = pure (.type "method_descriptor")) (hm : MtR X id r) (ho : PE X o to) (ha : PA X (e :: es) t)
    (hBs : attributeBase o name X.env (eval o X.env) = eval o X.env)
    (hFew : ((backTo cpos (starEach (e :: es) X.env)).all (fun x => !x.1) && (backToKw cpos (keywordEach [] X.env)).all (fun x => x.1.isSome)
      && decide ((e :: es).length + ([] : List Keyword).length + (if ([] : List Keyword).isEmpty then 0 else 1) < 30)) = true)
    (hLn : (apos.endLine == cpos.line) = true) (hs : starEach (e :: es) X.env = (false, eval e X.env) :: starEach es X.env) (hPl : (backTo cpos (starEach es X.env)).any (·.1) = false) :
    PE X (.Call (.Attribute o name apos) (e :: es) [] cpos) (tBMf T r to t) := by
  refine ⟨fun pz s σ H Q I h => ?_⟩
  refine wpAny_Call_method_late hBs hFew hLn rfl (thn (ho.run pz s σ H _ I h) fun v sA ⟨x, HA, JA, rA, ty, qA⟩ => ?_)
  obtain ⟨p, ob, u, ex, hp, hc, hd⟩ := ty
  subst ex
  cases (show v = .ref p from rA)
  have hob := (JA.hok p _ hp).1
  refine ⟨T, id, pa, slot, hty, ⟨ob, hob, hc⟩, fun a e => by cases e; exact ⟨ob, hob, hd⟩, ?_⟩
  have kA := ha.run cpos pz sA σ HA _ JA qA
  rw [hs] at kA ⊢
  refine Calls.callWith_builtin (by show (false || (backTo cpos (starEach es X.env)).any (·.1)) = false; rw [hPl] <;> rfl) (Calls.evalArgs_plain ?_)
  exact thn kA fun us s2 ⟨vs, H2, JB, r2, q2⟩ => hm pz s2 σ H2 (.ref p) vs _ us Q JB rfl r2 q2
theorem e_index (i : Nat) {zs : List Str} {z : Str} {j : Nat} (h : EX G e ρ (.str z) ρ) (hz : zs[j]? = some z) (hf : ∀ k, k < j → zs[k]? ≠ some z) (hs : notStar e = true := by rfl) (hN : G.N[i]? = some y := by rfl) (hv : visB G.sc y = true := by rfl) (hd : (y == ("__debug__" : Str)) = false := by decide) (hcd : (y == ("__classdict__" : Str)) = false := by decide) (hl : (apos.endLine == cpos.line) = true := by rfl) :
    EXf (FxTup G.K i (zs.map .str)) G (.Call (.Attribute (.Name y p2) "index" apos) [e] [] cpos) ρ (.int (j : Nat)) ρ := fun X F => by
  have pv0 : PE X (.Name y p2) (tVar i) := pe_var (i := i) (by rw [F.N]; exact hN) (by rw [F.sc]; exact visB_ok hv) hd hcd
  refine PEw (pe_bmF PySem.F.plainAttrs_tuple PySem.F.slot_tuple_index PySem.F.type_tuple_index mt_tup_index pv0 ((a_cons h a_nil hs).2 X F) rfl (few1 hs) hl (star_cons hs) rfl) fun σ H Q ⟨B, S, g, φ, k⟩ => ?_
  obtain ⟨t, o, ws, h1, h2, h3, h4, h5⟩ := φ
  refine ⟨.ref t, h1, ⟨t, o, _, rfl, g.sub _ _ h2, h3, h4⟩, cut S H ρ, S, g.here, fun vs S1 H1 c r => ?_⟩
  obtain ⟨v, rfl, r1⟩ := dpa1 r
  cases r1
  have e := dpa_strs_inv h5
  subst e
  exact ⟨t, zs, z, j, rfl, rfl, .inl (.inr ⟨o, c.sub _ _ (c.s0 _ _ h2)⟩), hz, hf, k _ S1 H1 (g.trans c) (.int _)⟩
/-- name = a call that gives such a tuple -/
theorem b_setX {j : Nat} {R : List PyData → List PyData → Prop} {us : List PyData} {es : List Expr} (i : Nat) (nd : G.N.Nodup) (F : Has G.P G.w G.K G.mg G.base x j (spX G.K R)) (ha : AX G (e :: es) ρ ds ρ1) (hR : R ds us) (h2 : BXf (FxTup G.K i us) G m rest (ρ1.set i (.dat (.tuple us))) o) (hlen : i < ρ1.length) (hj : j ≤ G.k := by exact Nat.le_of_ble_eq_true rfl) (hg : G.sc.names.lookup x = some .globalImplicit := by rfl) (hd : (x == ("__debug__" : Str)) = false := by decide)
    (hN : G.N[i]? = some y := by rfl) (hl : locB G.sc y = true := by rfl) (hf : storB G y = true := by rfl) (hs : ∀ env : Env, env.scope = G.sc → swapsWith (.Call (.Name x p) (e :: es) [] pos) (some (.Name y py)) spos.line env = pure false := by intro _ _; rfl) :
    BX G m (.Assign [.Name y py] (.Call (.Name x p) (e :: es) [] pos) spos :: rest) ρ o := fun X F' => by
  obtain ⟨f, fd, ps, F, hm, hk, hb⟩ := F
  obtain ⟨n1, n2⟩ := Bool.and_eq_true_iff.mp ha.1
  have pc := pe_call (CX := CX0) (k := j) (E := E0) (pos := pos) (p := p) (by rw [F'.prog, F'.w, F'.K, F'.mg, F'.base]; exact F) (F'.room.mono hj) (show X.env.scope.names.lookup x = _ by rw [F'.sc]; exact hg) (by rw [F'.mg]; exact hm) (by rw [F'.K]; exact hk) (by rw [F'.K]; exact hb) .nil pass0 (ha.2 X F') hd (star_cons n1) (star_any n2)
  refine PSsw (pss_cons (ps_set (i := i) (by rw [F'.N]; exact nd) (by rw [F'.N]; exact hN) (by rw [F'.sc]; exact locB_ok hl) pc (hs _ F'.sc) (storB_ok F' hf)) (h2 X F')) fun D σ H ⟨B, S, eq, h, k⟩ => ?_
  refine ⟨B, S, h, fun vs S1 H1 h1 r1 => ?_⟩
  refine ⟨S1, ds, us, h1.sub, by rw [List.append_nil]; exact r1, hR, fun t o ws S2 H2 n q1 q2 q3 q4 => ?_⟩
  have g := h1.grow n
  exact ⟨B, S2, eq, g.set (.tup (.inl (.inr ⟨o, q1⟩)) q4), ⟨t, o, ws, List.getElem?_set_self (by rw [g.len]; exact hlen), q1, q2, q3, q4⟩, k⟩
end
end Sg
namespace Sg
open PySem PySem.Spec PyProof.Rows L2
def topS (i : Nat) : Stmt := PySem.Challenge.pw_stampgaps_k69_whole_likes_in_lines.main.body.getD i (.Pass ⟨0, 0, 0, 0⟩)
/-- the built-ins that the module leaves as they are, its constants -/
structure Glo (mg : Str → Option Value) : Prop where
  isi : mg "isinstance" = none
  int : mg "int" = none
  bool : mg "bool" = none
  str : mg "str" = none
  len : mg "len" = none
  tuple : mg "tuple" = none
  enum : mg "enumerate" = none
  zip : mg "zip" = none
  all : mg "all" = none
  any : mg "any" = none
  rev : mg "reversed" = none
  range : mg "range" = none
  set : mg "set" = none
  divmod : mg "divmod" = none
  abs : mg "abs" = none
  list : mg "list" = none
  max : mg "max" = none
  min : mg "min" = none
  letters : ∃ t, mg "LETTERS" = some (.str "abcdefghijklmnopqrstuvwxyz" t)
  most : ∃ t, mg "MOST_LETTERS" = some (.int 10 t)
  far : ∃ t, mg "FAR" = some (.int 9 t)
  mwide : ∃ t, mg "MOST_WIDE" = some (.int 999 t)
/-! ### data -/
abbrev Face := Int × List (Nat × Int)
abbrev Prs := List (Nat × Nat × Int)
def chD (c : Nat) : PyData := .str ⟨#[c]⟩
def ltD (q : Nat × Int) : PyData := .tuple [chD q.1, .int q.2]
def faceD (f : Face) : PyData := .tuple [.int f.1, .tuple (f.2.map ltD)]
def prD (q : Nat × Nat × Int) : PyData := .tuple [chD q.1, chD q.2.1, .int q.2.2]
def prsD (l : Prs) : PyData := .tuple (l.map prD)
def lets (f : Face) : List Nat := f.2.map (·.1)
def txS (t : List Nat) : Str := ⟨t.toArray⟩
def txD (t : List Nat) : PyData := .str (txS t)
end Sg
namespace Sg
open PySem PySem.Spec PyProof.Rows L2
/-! ### equality and depth of data -/
theorem q_int (a b : Int) : PyData.eqv (.int a) (.int b) = decide (a = b) := by
  rw [PyData.eqv]
  by_cases h : a = b
  · subst h; simp
  · rw [decide_eq_false h]
    exact beq_eq_false_iff_ne.mpr h
theorem q_ch (a b : Nat) : PyData.eqv (chD a) (chD b) = decide (a = b) := by
  rw [chD, chD, PyData.eqv]
  by_cases h : a = b
  · subst h; simp
  · rw [decide_eq_false h]
    refine beq_eq_false_iff_ne.mpr fun z => h ?_
    have := congrArg (fun s : Str => s.cps.toList) z
    simpa using this
theorem q_tx (a b : List Nat) : PyData.eqv (txD a) (txD b) = decide (a = b) := by
  rw [txD, txD, PyData.eqv]
  by_cases h : a = b
  · subst h; simp
  · rw [decide_eq_false h]
    refine beq_eq_false_iff_ne.mpr fun z => h ?_
    have := congrArg (fun s : Str => s.cps.toList) z
    simpa [txS] using this
theorem q_all {α : Type} [DecidableEq α] {f : α → PyData} (h : ∀ a b, PyData.eqv (f a) (f b) = decide (a = b)) : ∀ l m : List α, PyData.eqvAll (l.map f) (m.map f) = decide (l = m)
  | [], [] => by simp [PyData.eqvAll]
  | [], _ :: _ => by simp [PyData.eqvAll]
  | _ :: _, [] => by simp [PyData.eqvAll]
  | a :: l, b :: m => by
    rw [List.map_cons, List.map_cons, PyData.eqvAll, h, q_all h l m, ← Bool.decide_and]
    exact decide_eq_decide.mpr (by rw [List.cons.injEq])
theorem q_tup {α : Type} [DecidableEq α] {f : α → PyData} (h : ∀ a b, PyData.eqv (f a) (f b) = decide (a = b)) (l m : List α) : PyData.eqv (.tuple (l.map f)) (.tuple (m.map f)) = decide (l = m) := by
  rw [PyData.eqv, q_all h]
theorem q_lst {α : Type} [DecidableEq α] {f : α → PyData} (h : ∀ a b, PyData.eqv (f a) (f b) = decide (a = b)) (l m : List α) : PyData.eqv (.list (l.map f)) (.list (m.map f)) = decide (l = m) := by
  rw [PyData.eqv, q_all h]
theorem z_all {α : Type} {f : α → PyData} {n : Nat} (h : ∀ a, (f a).depth ≤ n) : ∀ l : List α, PyData.depthAll (l.map f) ≤ n
  | [] => Nat.zero_le _
  | x :: xs => by
    rw [List.map_cons, PyData.depthAll]
    exact Nat.max_le.mpr ⟨h x, z_all h xs⟩
theorem z_tup {α : Type} {f : α → PyData} {n : Nat} (h : ∀ a, (f a).depth ≤ n) (l : List α) : (PyData.tuple (l.map f)).depth ≤ n + 1 := by
  rw [PyData.depth]
  have := z_all h l
  omega
theorem z_lst {α : Type} {f : α → PyData} {n : Nat} (h : ∀ a, (f a).depth ≤ n) (l : List α) : (PyData.list (l.map f)).depth ≤ n + 1 := by
  rw [PyData.depth]
  have := z_all h l
  omega
theorem z_int (a : Int) : (PyData.int a).depth ≤ 0 := Nat.le_refl _
theorem z_ch (a : Nat) : (chD a).depth ≤ 0 := Nat.le_refl _
theorem z_tx (a : List Nat) : (txD a).depth ≤ 0 := Nat.le_refl _
/-! ### what the program computes -/
def placeOf (f : Face) (c : Nat) : Option Nat := (f.2.zipIdx.find? fun q => q.1.1 == c).map (·.2)
def gapIn (p : Prs) (a b : Nat) : Int := ((p.find? fun q => q.1 == a && q.2.1 == b).map (·.2.2)).getD 0
def rowsM (f : Face) (p : Prs) : List (List Int) := (lets f).map fun a => (lets f).map fun b => gapIn p a b
def rowPrs (ls : List Nat) (l : Nat) (row : List Int) : Prs := ((ls.zip row).filter fun q => q.2 != 0).map fun q => (l, q.1, q.2)
def fromRows (ls : List Nat) (rows : List (List Int)) : Prs := (ls.zip rows).flatMap fun q => rowPrs ls q.1 q.2
def widC (f : Face) (c : Nat) : Int := ((f.2.find? fun q => q.1 == c).map (·.2)).getD 0
def sgW (f : Face) (c : Nat) : Int := if c = 32 then f.1 else widC f c
def betw (p : Prs) (a b : Nat) : Int := if a = 32 ∨ b = 32 then 0 else gapIn p a b
def sAt (t : List Nat) (k : Nat) : Nat := t.getD k 32
def startM (f : Face) (p : Prs) (t : List Nat) : Nat → Int
  | 0 => 0
  | k + 1 => startM f p t k + sgW f (sAt t k) + betw p (sAt t k) (sAt t (k + 1))
def begM (f : Face) (p : Prs) (t : List Nat) : List Int := (List.range t.length).map (startM f p t)
def wideM (f : Face) (p : Prs) (t : List Nat) : Int := if t = [] then 0 else startM f p t (t.length - 1) + sgW f (sAt t (t.length - 1))
def signM (f : Face) (p : Prs) (t : List Nat) (n : Int) : Option Nat := (List.range t.length).find? fun k => decide (startM f p t k ≤ n) && decide (n < startM f p t k + sgW f (sAt t k))
/-- letters, texts of a face -/
def isLt (c : Nat) : Prop := 97 ≤ c ∧ c ≤ 122
structure FOk (f : Face) : Prop where
  len : f.2.length ≤ 10
  ne : f.2 ≠ []
  nd : (lets f).Nodup
  az : ∀ c ∈ lets f, isLt c
def TOk (f : Face) (t : List Nat) : Prop := t.length ≤ 200 ∧ ∀ c ∈ t, c = 32 ∨ c ∈ lets f
def joinB (ws : List (List Nat)) : List Nat := TL.joinL [32] ws
structure WOk (f : Face) (ws : List (List Nat)) : Prop where
  len : ws.length ≤ 50
  ne : ws ≠ []
  wd : ∀ w ∈ ws, w ≠ [] ∧ ∀ c ∈ w, c ∈ lets f
  tx : TOk f (joinB ws)
def optD : Option Nat → PyData
  | none => .none
  | some k => .int k
abbrev rowD (r : List Int) : PyData := .tuple (r.map .int)
abbrev rowL (r : List Int) : PyData := .list (r.map .int)
theorem enm_map {α : Type} (g : α → PyData) (l : List α) : enm (l.map g) = l.zipIdx.map fun q => PyData.tuple [.int (q.2 : Nat), g q.1] := by
  rw [enm, List.zipIdx_map, List.map_map]; rfl
theorem zp_map {α β : Type} (f : α → PyData) (g : β → PyData) (l : List α) (m : List β) : zpD (l.map f) (m.map g) = (l.zip m).map fun q => PyData.tuple [f q.1, g q.2] := by
  rw [zpD, List.zipWith_map, List.zip, List.map_zipWith]
theorem signD_tx (t : List Nat) : signD (txS t) = t.map chD := by
  simp [signD, txS, chD]
theorem txS_len (t : List Nat) : (txS t).length = t.length := by simp [txS, Str.length]
theorem foldl_app {α β : Type} (g : α → List β) : ∀ (l : List α) (s : List β), l.foldl (fun s q => s ++ g q) s = s ++ l.flatMap g
  | [], s => by simp
  | a :: l, s => by rw [List.foldl_cons, foldl_app g l, List.flatMap_cons, List.append_assoc]
theorem rowPrs_len (ls : List Nat) (l : Nat) (r : List Int) : (rowPrs ls l r).length ≤ ls.length := by
  rw [rowPrs, List.length_map]
  exact Nat.le_trans (List.length_filter_le _ _) (by rw [List.length_zip]; omega)
theorem flat_len (ls : List Nat) : ∀ l : List (Nat × List Int), (l.flatMap fun q => rowPrs ls q.1 q.2).length ≤ l.length * ls.length
  | [] => by simp
  | q :: l => by
    rw [List.flatMap_cons, List.length_append, List.length_cons, Nat.succ_mul]
    have := flat_len ls l
    have := rowPrs_len ls q.1 q.2
    omega
theorem lets_len (f : Face) : (lets f).length = f.2.length := by simp [lets]
end Sg
namespace Sg
open PySem PySem.Spec PyProof.Rows L2
theorem fin_rt_of {d d1 : PyData} {ρ : List Sl} (h : d1 = d) : Fin d (.rt d1 ρ) := h ▸ fin_rt
theorem k_ii : kitB "int" "int" = some true := by decide +kernel
theorem k_ib : kitB "int" "bool" = some false := by decide +kernel
theorem k_ss : kitB "str" "str" = some true := by decide +kernel
theorem k_tt : kitB "tuple" "tuple" = some true := by decide +kernel
abbrev Hs (P : Program) (w : World) (K : PySem.W.Frag) (mg : Str → Option Value) (base : Heap) (x : Str) (j : Nat) (R : List PyData → PyData → Prop) : Prop := Has P w K mg base x j (spP K R)
section
variable {P : Program} {w : World} {K : PySem.W.Frag} {mg : Str → Option Value} {base : Heap} {f : Addr} {fd : FuncData}
/-! ### is_from_to -/
def R_from_to (ds : List PyData) (d : PyData) : Prop := ∃ a lo hi : Int, ds = [.int a, .int lo, .int hi] ∧ d = .bool (decide (lo ≤ a) && decide (a ≤ hi))
theorem sc12 : FnScope ["thing", "least", "most"] ["thing", "least", "most"] (defScope (topS 12)) := ⟨rfl, rfl, rfl, by decide +kernel, rfl, by decide +kernel, by decide +kernel⟩
theorem ok_from_to (T : Glo mg) (F : FnP K "is_from_to" (topS 12) f fd) : FnOk P w K mg base CX0 1 f fd ["thing", "least", "most"] (spP K R_from_to) := by
  refine fn_pure F sc12 (fun ds d ⟨_, _, _, e, _⟩ => by rw [e]; rfl) fun ds d hR => ?_
  obtain ⟨a, lo, hi, rfl, rfl⟩ := hR
  exact ⟨_, fin_rt, show BX _ _ _ [.dat (.int a), .dat (.int lo), .dat (.int hi)] _ from b_ret (s_ret (e_andT (e_isi T.isi T.int PyProof.Rows.boot_int (e_var 0) (by exact k_ii)) (e_andT (e_eq (e_not (e_isi T.isi T.bool PyProof.Rows.boot_bool (e_var 0) (by exact k_ib))) rfl) (e_one (e_chLL (e_var 1) (e_var 0) (e_var 2))))))⟩
/-! ### is_letter -/
def R_is_letter (ds : List PyData) (d : PyData) : Prop := ∃ c : Nat, isLt c ∧ ds = [chD c] ∧ d = .bool true
theorem sc13 : FnScope ["thing"] ["thing"] (defScope (topS 13)) := ⟨rfl, rfl, rfl, by decide +kernel, rfl, by decide +kernel, by decide +kernel⟩
theorem occ_lt : ∀ n, n < 26 → (!(Builtin.Str.occurrences (Str.ofString "abcdefghijklmnopqrstuvwxyz") ⟨#[97 + n]⟩ 0 26 1).isEmpty) = true := by decide +kernel
theorem ok_is_letter (T : Glo mg) (F : FnP K "is_letter" (topS 13) f fd) : FnOk P w K mg base CX0 1 f fd ["thing"] (spP K R_is_letter) := by
  refine fn_pure F sc13 (fun ds d ⟨_, _, e, _⟩ => by rw [e]; rfl) fun ds d hR => ?_
  obtain ⟨c, hc, rfl, rfl⟩ := hR
  refine ⟨_, fin_rt, show BX _ _ _ [.dat (chD c)] _ from b_ret (s_ret (e_andT (e_isi T.isi T.str PyProof.Rows.boot_str (e_var 0) (by exact k_ss)) (e_andT (e_eq (e_eqP (e_lenS T.len (e_var 0) (by exact (show 1 ≤ sizeLine by decide))) e_int (Nat.zero_le _)) (by rw [q_int]; rfl)) (e_one (e_eq (e_inS (e_var 0) (e_gstr rfl T.letters)) ?_)))))⟩
  have h := occ_lt (c - 97) (by have := hc.1; have := hc.2; omega)
  have e : 97 + (c - 97) = c := by have := hc.1; omega
  rw [e] at h
  exact congrArg PyData.bool h
/-! ### is_gap -/
def R_is_gap (ds : List PyData) (d : PyData) : Prop := ∃ g : Int, -9 ≤ g ∧ g ≤ 9 ∧ ds = [.int g] ∧ d = .bool true
theorem sc14 : FnScope ["thing"] ["thing"] (defScope (topS 14)) := ⟨rfl, rfl, rfl, by decide +kernel, rfl, by decide +kernel, by decide +kernel⟩
theorem ok_is_gap (T : Glo mg) (H1 : Hs P w K mg base "is_from_to" 1 R_from_to) (F : FnP K "is_gap" (topS 14) f fd) : FnOk P w K mg base CX0 2 f fd ["thing"] (spP K R_is_gap) := by
  refine fn_pure F sc14 (fun ds d ⟨_, _, _, e, _⟩ => by rw [e]; rfl) fun ds d hR => ?_
  obtain ⟨g, h1, h2, rfl, rfl⟩ := hR
  exact ⟨_, fin_rt, show BX _ _ _ [.dat (.int g)] _ from b_ret (s_ret (e_call H1 (a_cons (e_var 0) (a_cons (e_sub e_int (e_gint rfl T.far)) (a_cons (e_gint rfl T.far) a_nil))) ⟨g, _, _, rfl, by simp [h1, h2]⟩))⟩
/-! ### letters_of -/
def R_letters_of (ds : List PyData) (d : PyData) : Prop := ∃ f : Face, FOk f ∧ ds = [faceD f] ∧ d = .tuple ((lets f).map chD)
theorem sc15 : FnScope ["face", "one"] ["face"] (defScope (topS 15)) := ⟨rfl, rfl, rfl, by decide +kernel, rfl, by decide +kernel, by decide +kernel⟩
theorem ok_letters_of (T : Glo mg) (F : FnP K "letters_of" (topS 15) f fd) : FnOk P w K mg base CX0 1 f fd ["face"] (spP K R_letters_of) := by
  refine fn_pure F sc15 (fun ds d ⟨f, _, e, _⟩ => by rw [e]; rfl) fun ds d hR => ?_
  obtain ⟨f, hf, rfl, rfl⟩ := hR
  refine ⟨_, fin_rt, show BX _ _ _ [.dat (faceD f), .no] _ from b_ret (s_ret (e_tuple T.tuple (e_lc (ys := (lets f).map chD) (own := [("one", 1)]) sc15.nd (by kernel_rfl) (i_tup (e_ixT (e_var 0) e_int rfl)) ?_ ?_)))⟩
  · rw [lets, List.map_map]
    exact lc_map ltD _ f.2 fun a ha => ⟨[1], [ltD a], _, g_name 1 sc15.nd, by simp, e_ixT (e_var 1) e_int rfl, rfl⟩
  · rw [List.length_map]; exact Nat.le_trans hf.len (by decide)
/-! ### place_of -/
def R_place_of (ds : List PyData) (d : PyData) : Prop := ∃ (f : Face) (c : Nat), ds = [faceD f, chD c] ∧ d = optD (placeOf f c)
theorem sc16 : FnScope ["face", "thing", "place", "one"] ["face", "thing"] (defScope (topS 16)) := ⟨rfl, rfl, rfl, by decide +kernel, rfl, by decide +kernel, by decide +kernel⟩
theorem ok_place_of (T : Glo mg) (F : FnP K "place_of" (topS 16) f fd) : FnOk P w K mg base CX0 1 f fd ["face", "thing"] (spP K R_place_of) := by
  refine fn_pure F sc16 (fun ds d ⟨_, _, e, _⟩ => by rw [e]; rfl) fun ds d hR => ?_
  obtain ⟨f, c, rfl, rfl⟩ := hR
  cases e : f.2.zipIdx.find? fun q => q.1.1 == c with
  | none =>
    refine ⟨.rt .none _, fin_rt_of (by rw [placeOf, e]; rfl), show BX _ _ _ [.dat (faceD f), .dat (chD c), .no, .no] _ from b_cons (s_for (i_enum T.enum (e_ixT (e_var 0) e_int rfl) (d := .tuple (f.2.map ltD)) rfl) (by
      rw [enm_map]
      exact lp_none _ (fun q => q.1.1 == c) _ f.2.zipIdx e fun q _ hq => ⟨_, _, _, [2, 3], g_tup (gs_cons (g_name 2 sc16.nd) (gs_cons (g_name 3 sc16.nd) gs_nil)), b_cons (s_ifF (t_is (t_eqP (e_ixT (e_var 3) e_int (d := chD q.1.1) rfl) (e_var 1) (Nat.zero_le _)) (by rw [q_ch]; exact hq)) b_nil) b_nil, rfl⟩)) (b_ret (s_ret e_non))⟩
  | some q =>
    refine ⟨.rt (.int (q.2 : Nat)) _, fin_rt_of (by rw [placeOf, e]; rfl), show BX _ _ _ [.dat (faceD f), .dat (chD c), .no, .no] _ from b_ret (s_for (i_enum T.enum (e_ixT (e_var 0) e_int rfl) (d := .tuple (f.2.map ltD)) rfl) (by
      rw [enm_map]
      refine lp_find (ρ' := fun q => [.dat (faceD f), .dat (chD c), .dat (.int (q.2 : Nat)), .dat (ltD q.1)]) _ (fun q => q.1.1 == c) (fun q => .int (q.2 : Nat)) _ f.2.zipIdx e fun q _ => ?_
      exact ⟨_, _, g_tup (gs_cons (g_name 2 sc16.nd) (gs_cons (g_name 3 sc16.nd) gs_nil)), fun hq => ⟨_, [2, 3], b_cons (s_ifF (t_is (t_eqP (e_ixT (e_var 3) e_int (d := chD q.1.1) rfl) (e_var 1) (Nat.zero_le _)) (by rw [q_ch]; exact hq)) b_nil) b_nil, rfl⟩, fun hq => b_ret (s_ifT (t_is (t_eqP (e_ixT (e_var 3) e_int (d := chD q.1.1) rfl) (e_var 1) (Nat.zero_le _)) (by rw [q_ch]; exact hq)) (b_ret (s_ret (e_var 2))))⟩))⟩
end
end Sg
namespace Sg
open PySem PySem.Spec PyProof.Rows L2
section
variable {P : Program} {w : World} {K : PySem.W.Frag} {mg : Str → Option Value} {base : Heap} {f : Addr} {fd : FuncData}
/-! ### need_letter -/
def R_need_letter (ds : List PyData) (d : PyData) : Prop := ∃ (f : Face) (c k : Nat), placeOf f c = some k ∧ ds = [faceD f, chD c] ∧ d = .int (k : Nat)
theorem sc17 : FnScope ["face", "thing", "place"] ["face", "thing"] (defScope (topS 17)) := ⟨rfl, rfl, rfl, by decide +kernel, rfl, by decide +kernel, by decide +kernel⟩
theorem ok_need_letter (T : Glo mg) (H1 : Hs P w K mg base "place_of" 1 R_place_of) (F : FnP K "need_letter" (topS 17) f fd) : FnOk P w K mg base CX0 2 f fd ["face", "thing"] (spP K R_need_letter) := by
  refine fn_pure F sc17 (fun ds d ⟨_, _, _, _, e, _⟩ => by rw [e]; rfl) fun ds d hR => ?_
  obtain ⟨f, c, k, hk, rfl, rfl⟩ := hR
  exact ⟨_, fin_rt, show BX _ _ _ [.dat (faceD f), .dat (chD c), .no] _ from b_cons (s_set 2 sc17.nd (e_call (d := .int (k : Nat)) H1 (a_cons (e_var 0) (a_cons (e_var 1) a_nil)) ⟨f, c, rfl, by rw [hk]; rfl⟩)) (b_cons (s_ifF (t_is (t_isN (e_var 2)) rfl) b_nil) (b_ret (s_ret (e_var 2))))⟩
/-! ### gap_in -/
def R_gap_in (ds : List PyData) (d : PyData) : Prop := ∃ (p : Prs) (a b : Nat), ds = [prsD p, chD a, chD b] ∧ d = .int (gapIn p a b)
theorem sc18 : FnScope ["pairs", "left", "right", "one", "other", "gap"] ["pairs", "left", "right"] (defScope (topS 18)) := ⟨rfl, rfl, rfl, by decide +kernel, rfl, by decide +kernel, by decide +kernel⟩
theorem ok_gap_in (T : Glo mg) (F : FnP K "gap_in" (topS 18) f fd) : FnOk P w K mg base CX0 1 f fd ["pairs", "left", "right"] (spP K R_gap_in) := by
  refine fn_pure F sc18 (fun ds d ⟨_, _, _, e, _⟩ => by rw [e]; rfl) fun ds d hR => ?_
  obtain ⟨p, a, b, rfl, rfl⟩ := hR
  cases e : p.find? fun q => q.1 == a && q.2.1 == b with
  | none =>
    refine ⟨.rt (.int 0) _, fin_rt_of (by rw [gapIn, e]; rfl), show BX _ _ _ [.dat (prsD p), .dat (chD a), .dat (chD b), .no, .no, .no] _ from b_cons (s_for (o := .nx [.dat (prsD p), .dat (chD a), .dat (chD b), .no, .no, .no]) (i_tup (e_var 0)) ?_) (b_ret (s_ret e_int))⟩
    refine lp_none prD (fun q => q.1 == a && q.2.1 == b) _ p e fun q _ hq => ?_
    exact ⟨_, _, _, [3, 4, 5], g_tup (gs_cons (g_name 3 sc18.nd) (gs_cons (g_name 4 sc18.nd) (gs_cons (g_name 5 sc18.nd) gs_nil))), b_cons (s_ifF (t_is (t_w (w_and (t_eqP (e_var 3) (e_var 1) (Nat.zero_le _)) fun _ => w_and1 (t_eqP (e_var 4) (e_var 2) (Nat.zero_le _)))) (by rw [q_ch, q_ch]; exact hq)) b_nil) b_nil, rfl⟩
  | some q =>
    refine ⟨.rt (.int q.2.2) _, fin_rt_of (by rw [gapIn, e]; rfl), show BX _ _ _ [.dat (prsD p), .dat (chD a), .dat (chD b), .no, .no, .no] _ from b_ret (s_for (o := .rt (.int q.2.2) [.dat (prsD p), .dat (chD a), .dat (chD b), .dat (chD q.1), .dat (chD q.2.1), .dat (.int q.2.2)]) (i_tup (e_var 0)) ?_)⟩
    refine lp_find (ρ' := fun q => [.dat (prsD p), .dat (chD a), .dat (chD b), .dat (chD q.1), .dat (chD q.2.1), .dat (.int q.2.2)]) prD (fun q => q.1 == a && q.2.1 == b) (fun q => .int q.2.2) _ p e fun q _ => ?_
    exact ⟨_, _, g_tup (gs_cons (g_name 3 sc18.nd) (gs_cons (g_name 4 sc18.nd) (gs_cons (g_name 5 sc18.nd) gs_nil))), fun hq => ⟨_, [3, 4, 5], b_cons (s_ifF (t_is (t_w (w_and (t_eqP (e_var 3) (e_var 1) (Nat.zero_le _)) fun _ => w_and1 (t_eqP (e_var 4) (e_var 2) (Nat.zero_le _)))) (by rw [q_ch, q_ch]; exact hq)) b_nil) b_nil, rfl⟩,
      fun hq => b_ret (s_ifT (t_is (t_w (w_and (t_eqP (e_var 3) (e_var 1) (Nat.zero_le _)) fun _ => w_and1 (t_eqP (e_var 4) (e_var 2) (Nat.zero_le _)))) (by rw [q_ch, q_ch]; exact hq)) (b_ret (s_ret (e_var 5))))⟩
/-! ### gap_of -/
def R_gap_of (ds : List PyData) (d : PyData) : Prop := ∃ (f : Face) (p : Prs) (a b k l : Nat), placeOf f a = some k ∧ placeOf f b = some l ∧ ds = [faceD f, prsD p, chD a, chD b] ∧ d = .int (gapIn p a b)
theorem sc19 : FnScope ["face", "pairs", "left", "right"] ["face", "pairs", "left", "right"] (defScope (topS 19)) := ⟨rfl, rfl, rfl, by decide +kernel, rfl, by decide +kernel, by decide +kernel⟩
theorem ok_gap_of (T : Glo mg) (H1 : Hs P w K mg base "need_letter" 2 R_need_letter) (H2 : Hs P w K mg base "gap_in" 1 R_gap_in) (F : FnP K "gap_of" (topS 19) f fd) : FnOk P w K mg base CX0 3 f fd ["face", "pairs", "left", "right"] (spP K R_gap_of) := by
  refine fn_pure F sc19 (fun ds d ⟨_, _, _, _, _, _, _, _, e, _⟩ => by rw [e]; rfl) fun ds d hR => ?_
  obtain ⟨f, p, a, b, k, l, hk, hl, rfl, rfl⟩ := hR
  exact ⟨_, fin_rt, show BX _ _ _ [.dat (faceD f), .dat (prsD p), .dat (chD a), .dat (chD b)] _ from b_cons (s_expr (e_call H1 (a_cons (e_var 0) (a_cons (e_var 2) a_nil)) ⟨f, a, k, hk, rfl, rfl⟩)) (b_cons (s_expr (e_call H1 (a_cons (e_var 0) (a_cons (e_var 3) a_nil)) ⟨f, b, l, hl, rfl, rfl⟩)) (b_ret (s_ret (e_call H2 (a_cons (e_var 1) (a_cons (e_var 2) (a_cons (e_var 3) a_nil))) ⟨p, a, b, rfl, rfl⟩))))⟩
/-! ### rows_of -/
def R_rows_of (ds : List PyData) (d : PyData) : Prop := ∃ (f : Face) (p : Prs), FOk f ∧ ds = [faceD f, prsD p] ∧ d = .tuple ((rowsM f p).map rowD)
theorem sc20 : FnScope ["face", "pairs", "letters", "left", "right"] ["face", "pairs"] (defScope (topS 20)) := ⟨rfl, rfl, rfl, by decide +kernel, rfl, by decide +kernel, by decide +kernel⟩
theorem FOk.len1 {f : Face} (h : FOk f) : ((lets f).map chD).length ≤ 1000 := by
  rw [List.length_map, lets_len]; exact Nat.le_trans h.len (by decide)
theorem ok_rows_of (T : Glo mg) (H1 : Hs P w K mg base "letters_of" 1 R_letters_of) (H2 : Hs P w K mg base "gap_in" 1 R_gap_in) (F : FnP K "rows_of" (topS 20) f fd) : FnOk P w K mg base CX0 2 f fd ["face", "pairs"] (spP K R_rows_of) := by
  refine fn_pure F sc20 (fun ds d ⟨_, _, _, e, _⟩ => by rw [e]; rfl) fun ds d hR => ?_
  obtain ⟨f, p, hf, rfl, rfl⟩ := hR
  refine ⟨_, fin_rt, show BX _ _ _ [.dat (faceD f), .dat (prsD p), .no, .no, .no] _ from b_cons (s_set 2 sc20.nd (e_call H1 (a_cons (e_var 0) a_nil) ⟨f, hf, rfl, rfl⟩)) (b_ret (s_ret (e_tuple T.tuple (e_lc (ys := (rowsM f p).map rowD) (own := [("left", 3)]) sc20.nd (by kernel_rfl) (i_tup (e_var 2)) ?_ hf.len1))))⟩
  rw [rowsM, List.map_map]
  refine lc_map chD _ (lets f) fun a ha => ?_
  refine ⟨[3], [chD a], _, g_name 3 sc20.nd, by simp, e_tuple T.tuple (e_lc (ys := ((lets f).map fun b => gapIn p a b).map .int) (own := [("right", 4)]) sc20.nd (by kernel_rfl) (i_tup (e_var 2)) ?_ hf.len1), rfl⟩
  rw [List.map_map]
  exact lc_map chD _ (lets f) fun b hb => ⟨[4], [chD b], _, g_name 4 sc20.nd, by simp, e_call H2 (a_cons (e_var 1) (a_cons (e_var 3) (a_cons (e_var 4) a_nil))) ⟨p, a, b, rfl, rfl⟩, rfl⟩
/-! ### from_rows -/
def R_from_rows (ds : List PyData) (d : PyData) : Prop := ∃ (f : Face) (rows : List (List Int)), FOk f ∧ rows.length ≤ 10 ∧ ds = [faceD f, .list (rows.map rowL)] ∧ d = prsD (fromRows (lets f) rows)
theorem sc21 : FnScope ["face", "rows", "letters", "found", "left", "row", "right", "gap"] ["face", "rows"] (defScope (topS 21)) := ⟨rfl, rfl, rfl, by decide +kernel, rfl, by decide +kernel, by decide +kernel⟩
theorem ok_from_rows (T : Glo mg) (H1 : Hs P w K mg base "letters_of" 1 R_letters_of) (F : FnP K "from_rows" (topS 21) f fd) : FnOk P w K mg base CX0 2 f fd ["face", "rows"] (spP K R_from_rows) := by
  refine fn_pure F sc21 (fun ds d ⟨_, _, _, _, e, _⟩ => by rw [e]; rfl) fun ds d hR => ?_
  obtain ⟨f, rows, hf, hr, rfl, rfl⟩ := hR
  refine ⟨.rt (prsD (fromRows (lets f) rows)) (List.replicate 8 .no), fin_rt, show BX _ _ _ [.dat (faceD f), .dat (.list (rows.map rowL)), .no, .no, .no, .no, .no, .no] _ from b_cons (s_set 2 sc21.nd (e_call H1 (a_cons (e_var 0) a_nil) ⟨f, hf, rfl, rfl⟩)) (b_new 3 sc21.nd (el_lst a_nil) fun q _ => b_rt0 (b_cons (s_for (o := .nx [.dat (faceD f), .dat (.list (rows.map rowL)), .dat (.tuple ((lets f).map chD)), .mut q ((fromRows (lets f) rows).map prD), .no, .no, .no, .no]) (i_zip T.zip (e_var 2) (e_var 1) (by exact rfl) (by exact rfl)) ?_) (b_ret (s_ret (e_tupleM 3 T.tuple)))))⟩
  rw [zp_map]
  have e : fromRows (lets f) rows = ((lets f).zip rows).foldl (fun s q => s ++ rowPrs (lets f) q.1 q.2) [] := by rw [foldl_app]; rfl
  rw [e]
  refine lp_fold (fun q : Nat × List Int => PyData.tuple [chD q.1, rowL q.2]) (fun s q => s ++ rowPrs (lets f) q.1 q.2) (fun s => [.dat (faceD f), .dat (.list (rows.map rowL)), .dat (.tuple ((lets f).map chD)), .mut q (s.map prD), .no, .no, .no, .no]) ((lets f).zip rows) [] fun l1 a l2 hl => ?_
  refine ⟨_, _, _, [4, 5], g_tup (gs_cons (g_name 4 sc21.nd) (gs_cons (g_name 5 sc21.nd) gs_nil)), b_cons (s_extend 3 (el_lc (ys := (rowPrs (lets f) a.1 a.2).map prD) (own := [("right", 6), ("gap", 7)]) sc21.nd (by kernel_rfl) (i_zip T.zip (e_var 2) (e_var 5) (by exact rfl) (by exact rfl)) ?_ ?_) rfl rfl ?_) b_nil, ?_⟩
  · rw [zp_map, rowPrs, List.map_map]
    refine lc_filter (fun r : Nat × Int => PyData.tuple [chD r.1, .int r.2]) _ (fun r : Nat × Int => r.2 != 0) ((lets f).zip a.2) fun r hr => ?_
    exact ⟨_, _, _, g_tup (gs_cons (g_name 6 sc21.nd) (gs_cons (g_name 7 sc21.nd) gs_nil)), by simp, t_is (t_neP (e_var 7) e_int (Nat.zero_le _)) (by rw [q_int]; rfl), rfl, fun _ => ⟨_, e_tup (a_cons (e_var 4) (a_cons (e_var 6) (a_cons (e_var 7) a_nil))), rfl⟩⟩
  · rw [zp_map, List.length_map, List.length_zip, lets_len]
    have := hf.len
    omega
  · rw [foldl_app, List.nil_append, List.length_map, List.length_map]
    have h1 := flat_len (lets f) l1
    have h2 := rowPrs_len (lets f) a.1 a.2
    have h3 : l1.length ≤ 10 := by
      have : (l1 ++ a :: l2).length ≤ 10 := by rw [← hl, List.length_zip, lets_len]; have := hf.len; omega
      simp at this; omega
    have h4 : (lets f).length ≤ 10 := by rw [lets_len]; exact hf.len
    have h5 : l1.length * (lets f).length ≤ 10 * 10 := Nat.mul_le_mul h3 h4
    omega
  · rw [List.map_append]; rfl
end
end Sg
namespace Sg
open PySem PySem.Spec PyProof.Rows L2
theorem blankD : PyData.str (Str.ofString " ") = chD 32 := by kernel_rfl
theorem emptyD : PyData.str (Str.ofString "") = txD [] := by kernel_rfl
theorem atI_nat {α : Type} (l : List α) (k : Nat) (h : k < l.length) : atI l (k : Int) = l[k]? := by
  have h0 : ¬ ((k : Int) < 0) := by omega
  simp [atI, ixN, h0, h]
theorem atI_last {α : Type} (l : List α) (h : l ≠ []) : atI l (-1) = l[l.length - 1]? := by
  have hp : 0 < l.length := List.length_pos_iff.mpr h
  have e : ixN l.length (-1) = some (l.length - 1) := by
    simp [ixN]
    omega
  rw [atI, e]; rfl
theorem map_sAt {α : Type} (t : List Nat) (h : Nat → α) : t.map h = (List.range t.length).map fun k => h (sAt t k) := by
  refine List.ext_getElem (by simp) fun i h1 h2 => ?_
  simp at h1
  simp [sAt, h1]
theorem enm_range (n : Nat) (h : Nat → PyData) : enm ((List.range n).map h) = (List.range n).map fun (k : Nat) => PyData.tuple [.int (k : Nat), h k] := by
  refine List.ext_getElem? fun i => ?_
  rw [enm_get, List.getElem?_map, List.getElem?_map]
  by_cases hi : i < n
  · simp [hi]
  · simp [hi]
theorem find_zip {α : Type} (p : α → Bool) : ∀ (l : List α) (n : Nat), (∃ k q, (l.zipIdx n).find? (fun x => p x.1) = some (q, n + k) ∧ l[k]? = some q ∧ l.find? p = some q) ∨ ((l.zipIdx n).find? (fun x => p x.1) = none ∧ l.find? p = none)
  | [], n => .inr ⟨rfl, rfl⟩
  | a :: l, n => by
    cases e : p a with
    | true => exact .inl ⟨0, a, by simp [List.zipIdx_cons, e], rfl, by simp [e]⟩
    | false =>
      rcases find_zip p l (n + 1) with ⟨k, q, h1, h2, h3⟩ | ⟨h1, h2⟩
      · refine .inl ⟨k + 1, q, ?_, by simpa using h2, by simp [e, h3]⟩
        rw [List.zipIdx_cons, List.find?_cons_of_neg (by simp [e]), h1]
        simp; omega
      · refine .inr ⟨?_, by simp [e, h2]⟩
        rw [List.zipIdx_cons, List.find?_cons_of_neg (by simp [e]), h1]
theorem place_some {f : Face} {c : Nat} (h : c ∈ lets f) : ∃ k q, placeOf f c = some k ∧ f.2[k]? = some q ∧ q.1 = c ∧ widC f c = q.2 := by
  obtain ⟨q0, hq0, e0⟩ := List.mem_map.mp h
  rcases find_zip (fun q : Nat × Int => q.1 == c) f.2 0 with ⟨k, q, h1, h2, h3⟩ | ⟨h1, h2⟩
  · refine ⟨k, q, by rw [placeOf, h1]; simp, h2, ?_, by rw [widC, h3]; rfl⟩
    have := List.find?_some h3
    simpa using this
  · have := List.find?_eq_none.mp h2 q0 hq0
    simp [e0] at this
theorem place_none {f : Face} {c : Nat} (h : c ∉ lets f) : placeOf f c = none := by
  rcases find_zip (fun q : Nat × Int => q.1 == c) f.2 0 with ⟨k, q, h1, h2, h3⟩ | ⟨h1, h2⟩
  · exfalso
    have e := List.find?_some h3
    have hm := List.mem_of_find?_eq_some h3
    exact h (List.mem_map.mpr ⟨q, hm, by simpa using e⟩)
  · rw [placeOf, h1]; rfl
section
variable {G : Gam} {m : Addr → Prop} {tg : Expr} {body : List Stmt}
/-- a loop by its turns -/
theorem lp_idx' (g : Nat → PyData) (ρ : Nat → List Sl) (n : Nat) (h : ∀ k, k < n → ∃ is ds ρ2 is2, GX G tg (g k) is ds ∧ BX G m body (setD (ρ k) is ds) (.nx ρ2) ∧ fg is2 ρ2 = ρ (k + 1)) : ∀ c j, j + c = n → Lp G m tg body ((List.range' j c).map g) (ρ j) (.nx (ρ n))
  | 0, j, e => by
    have : j = n := by omega
    subst this
    exact .nil []
  | c + 1, j, e => by
    obtain ⟨is, ds, ρ2, is2, h1, h2, h3⟩ := h j (by omega)
    rw [List.range'_succ, List.map_cons]
    refine .step is2 h1 h2 ?_
    rw [h3]
    exact lp_idx' g ρ n h c (j + 1) (by omega)
theorem lp_idx (g : Nat → PyData) (ρ : Nat → List Sl) (n : Nat) (h : ∀ k, k < n → ∃ is ds ρ2 is2, GX G tg (g k) is ds ∧ BX G m body (setD (ρ k) is ds) (.nx ρ2) ∧ fg is2 ρ2 = ρ (k + 1)) : Lp G m tg body ((List.range n).map g) (ρ 0) (.nx (ρ n)) := by
  rw [List.range_eq_range']
  exact lp_idx' g ρ n h n 0 (by omega)
end
end Sg
namespace Sg
open PySem PySem.Spec PyProof.Rows L2
section
variable {P : Program} {w : World} {K : PySem.W.Frag} {mg : Str → Option Value} {base : Heap} {f : Addr} {fd : FuncData}
/-! ### is_sign -/
def R_is_sign (ds : List PyData) (d : PyData) : Prop := ∃ (f : Face) (c : Nat), (c = 32 ∨ c ∈ lets f) ∧ ds = [faceD f, chD c] ∧ d = .bool true
theorem sc23 : FnScope ["face", "thing"] ["face", "thing"] (defScope (topS 23)) := ⟨rfl, rfl, rfl, by decide +kernel, rfl, by decide +kernel, by decide +kernel⟩
theorem ok_is_sign (T : Glo mg) (H1 : Hs P w K mg base "place_of" 1 R_place_of) (F : FnP K "is_sign" (topS 23) f fd) : FnOk P w K mg base CX0 2 f fd ["face", "thing"] (spP K R_is_sign) := by
  refine fn_pure F sc23 (fun ds d ⟨_, _, _, e, _⟩ => by rw [e]; rfl) fun ds d hR => ?_
  obtain ⟨f, c, hc, rfl, rfl⟩ := hR
  by_cases h : c = 32
  · exact ⟨_, fin_rt, show BX _ _ _ [.dat (faceD f), .dat (chD c)] _ from b_ret (s_ret (e_orT (e_eq (e_eqP (e_var 1) (e_eq e_str blankD) (Nat.zero_le _)) (by rw [q_ch, decide_eq_true h]))))⟩
  · obtain ⟨k, q, h1, _⟩ := place_some (hc.resolve_left h)
    exact ⟨_, fin_rt, show BX _ _ _ [.dat (faceD f), .dat (chD c)] _ from b_ret (s_ret (e_orF (e_eq (e_eqP (e_var 1) (e_eq e_str blankD) (Nat.zero_le _)) (by rw [q_ch, decide_eq_false h])) (e_one (e_eq (e_notN (e_call (d := .int (k : Nat)) H1 (a_cons (e_var 0) (a_cons (e_var 1) a_nil)) ⟨f, c, rfl, by rw [h1]; rfl⟩)) rfl))))⟩
/-! ### is_text -/
def R_is_text (ds : List PyData) (d : PyData) : Prop := ∃ (f : Face) (t : List Nat), TOk f t ∧ ds = [faceD f, txD t] ∧ d = .bool true
theorem sc24 : FnScope ["face", "thing", "sign"] ["face", "thing"] (defScope (topS 24)) := ⟨rfl, rfl, rfl, by decide +kernel, rfl, by decide +kernel, by decide +kernel⟩
theorem ok_is_text (T : Glo mg) (H1 : Hs P w K mg base "is_sign" 2 R_is_sign) (F : FnP K "is_text" (topS 24) f fd) : FnOk P w K mg base CX0 3 f fd ["face", "thing"] (spP K R_is_text) := by
  refine fn_pure F sc24 (fun ds d ⟨_, _, _, e, _⟩ => by rw [e]; rfl) fun ds d hR => ?_
  obtain ⟨f, t, ht, rfl, rfl⟩ := hR
  refine ⟨_, fin_rt, show BX _ _ _ [.dat (faceD f), .dat (txD t), .no] _ from b_ret (s_ret (e_andT (e_isi T.isi T.str PyProof.Rows.boot_str (e_var 1) (by exact k_ss)) (e_one (e_eq (e_all (bs := t.map fun _ => true) T.all (e_lc (ys := (t.map fun _ => true).map PyData.bool) (own := [("sign", 2)]) sc24.nd (by kernel_rfl) (i_str (e_var 1)) ?_ ?_)) ?_))))⟩
  · rw [signD_tx, List.map_map]
    exact lc_map chD _ t fun c hc => ⟨[2], [chD c], _, g_name 2 sc24.nd, by simp, e_call H1 (a_cons (e_var 0) (a_cons (e_var 2) a_nil)) ⟨f, c, ht.2 c hc, rfl, rfl⟩, rfl⟩
  · rw [signD_tx, List.length_map]; exact Nat.le_trans ht.1 (by decide)
  · simp
/-! ### need_text -/
def R_need_text (ds : List PyData) (d : PyData) : Prop := ∃ (f : Face) (t : List Nat), TOk f t ∧ ds = [faceD f, txD t] ∧ d = .none
theorem sc25 : FnScope ["face", "thing"] ["face", "thing"] (defScope (topS 25)) := ⟨rfl, rfl, rfl, by decide +kernel, rfl, by decide +kernel, by decide +kernel⟩
theorem ok_need_text (T : Glo mg) (H1 : Hs P w K mg base "is_text" 3 R_is_text) (F : FnP K "need_text" (topS 25) f fd) : FnOk P w K mg base CX0 4 f fd ["face", "thing"] (spP K R_need_text) := by
  refine fn_pure F sc25 (fun ds d ⟨_, _, _, e, _⟩ => by rw [e]; rfl) fun ds d hR => ?_
  obtain ⟨f, t, ht, rfl, rfl⟩ := hR
  exact ⟨_, fin_nx, show BX _ _ _ [.dat (faceD f), .dat (txD t)] _ from b_cons (s_ifF (t_is (t_not (t_val (e_call H1 (a_cons (e_var 0) (a_cons (e_var 1) a_nil)) ⟨f, t, ht, rfl, rfl⟩))) rfl) b_nil) b_nil⟩
/-! ### sign_width -/
def R_sign_width (ds : List PyData) (d : PyData) : Prop := ∃ (f : Face) (c : Nat), (c = 32 ∨ c ∈ lets f) ∧ ds = [faceD f, chD c] ∧ d = .int (sgW f c)
theorem sc26 : FnScope ["face", "sign"] ["face", "sign"] (defScope (topS 26)) := ⟨rfl, rfl, rfl, by decide +kernel, rfl, by decide +kernel, by decide +kernel⟩
theorem ok_sign_width (T : Glo mg) (H1 : Hs P w K mg base "place_of" 1 R_place_of) (F : FnP K "sign_width" (topS 26) f fd) : FnOk P w K mg base CX0 2 f fd ["face", "sign"] (spP K R_sign_width) := by
  refine fn_pure F sc26 (fun ds d ⟨_, _, _, e, _⟩ => by rw [e]; rfl) fun ds d hR => ?_
  obtain ⟨f, c, hc, rfl, rfl⟩ := hR
  by_cases h : c = 32
  · exact ⟨.rt (.int f.1) _, fin_rt_of (by rw [sgW, if_pos h]), show BX _ _ _ [.dat (faceD f), .dat (chD c)] _ from b_ret (s_ifT (t_is (t_eqP (e_var 1) (e_eq e_str blankD) (Nat.zero_le _)) (by rw [q_ch, decide_eq_true h])) (b_ret (s_ret (e_ixT (e_var 0) e_int rfl))))⟩
  · obtain ⟨k, q, h1, h2, h3, h4⟩ := place_some (hc.resolve_left h)
    have hk : k < f.2.length := (List.getElem?_eq_some_iff.mp h2).1
    exact ⟨.rt (.int q.2) _, fin_rt_of (by rw [sgW, if_neg h, h4]), show BX _ _ _ [.dat (faceD f), .dat (chD c)] _ from b_cons (s_ifF (t_is (t_eqP (e_var 1) (e_eq e_str blankD) (Nat.zero_le _)) (by rw [q_ch, decide_eq_false h])) b_nil) (b_ret (s_ret (e_ixT (ds := [chD q.1, .int q.2]) (e_ixT (i := (k : Nat)) (e_ixT (ds := [.int f.1, .tuple (f.2.map ltD)]) (e_var 0) e_int rfl) (e_call (d := .int (k : Nat)) H1 (a_cons (e_var 0) (a_cons (e_var 1) a_nil)) ⟨f, c, rfl, by rw [h1]; rfl⟩) (by rw [atI_nat _ _ (by rw [List.length_map]; exact hk), List.getElem?_map, h2]; rfl)) e_int rfl)))⟩
/-! ### between -/
def R_between (ds : List PyData) (d : PyData) : Prop := ∃ (p : Prs) (a b : Nat), ds = [prsD p, chD a, chD b] ∧ d = .int (betw p a b)
theorem sc27 : FnScope ["pairs", "one", "other"] ["pairs", "one", "other"] (defScope (topS 27)) := ⟨rfl, rfl, rfl, by decide +kernel, rfl, by decide +kernel, by decide +kernel⟩
theorem ok_between (T : Glo mg) (H1 : Hs P w K mg base "gap_in" 1 R_gap_in) (F : FnP K "between" (topS 27) f fd) : FnOk P w K mg base CX0 2 f fd ["pairs", "one", "other"] (spP K R_between) := by
  refine fn_pure F sc27 (fun ds d ⟨_, _, _, e, _⟩ => by rw [e]; rfl) fun ds d hR => ?_
  obtain ⟨p, a, b, rfl, rfl⟩ := hR
  by_cases h : a = 32 ∨ b = 32
  · exact ⟨.rt (.int 0) _, fin_rt_of (by rw [betw, if_pos h]), show BX _ _ _ [.dat (prsD p), .dat (chD a), .dat (chD b)] _ from b_ret (s_ifT (t_is (t_w (w_or (t_eqP (e_var 1) (e_eq e_str blankD) (Nat.zero_le _)) fun _ => w_or1 (t_eqP (e_var 2) (e_eq e_str blankD) (Nat.zero_le _)))) (by rw [q_ch, q_ch]; simpa using h)) (b_ret (s_ret e_int)))⟩
  · exact ⟨.rt (.int (gapIn p a b)) _, fin_rt_of (by rw [betw, if_neg h]), show BX _ _ _ [.dat (prsD p), .dat (chD a), .dat (chD b)] _ from b_cons (s_ifF (t_is (t_w (w_or (t_eqP (e_var 1) (e_eq e_str blankD) (Nat.zero_le _)) fun _ => w_or1 (t_eqP (e_var 2) (e_eq e_str blankD) (Nat.zero_le _)))) (by rw [q_ch, q_ch]; simpa using h)) b_nil) (b_ret (s_ret (e_call H1 (a_cons (e_var 0) (a_cons (e_var 1) (a_cons (e_var 2) a_nil))) ⟨p, a, b, rfl, rfl⟩)))⟩
end
end Sg
namespace Sg
open PySem PySem.Spec PyProof.Rows L2
theorem sAt_mem {t : List Nat} {k : Nat} (h : k < t.length) : sAt t k ∈ t := by
  rw [sAt, List.getD_eq_getElem?_getD, List.getElem?_eq_getElem h]
  exact List.getElem_mem h
theorem TOk.at_ {f : Face} {t : List Nat} (h : TOk f t) {k : Nat} (hk : k < t.length) : sAt t k = 32 ∨ sAt t k ∈ lets f := h.2 _ (sAt_mem hk)
theorem sAt_ix {t : List Nat} {k : Nat} (h : k < t.length) : atI (txS t).cps.toList (k : Int) = some (sAt t k) := by
  rw [atI_nat _ _ (by simpa [txS] using h), sAt, List.getD_eq_getElem?_getD, List.getElem?_eq_getElem h]
  simp [txS, h]
theorem sAt_last {t : List Nat} (h : t ≠ []) : atI (txS t).cps.toList (-1) = some (sAt t (t.length - 1)) := by
  have hp : 0 < t.length := List.length_pos_iff.mpr h
  rw [atI_last _ (by simpa [txS] using h), sAt, List.getD_eq_getElem?_getD]
  have : t.length - 1 < t.length := by omega
  simp [txS, this]
theorem TOk.line {f : Face} {t : List Nat} (h : TOk f t) : (txS t).length ≤ sizeLine := by
  rw [txS_len]; exact Nat.le_trans h.1 (by decide)
section
variable {P : Program} {w : World} {K : PySem.W.Frag} {mg : Str → Option Value} {base : Heap} {f : Addr} {fd : FuncData}
/-! ### begins_in -/
def R_begins (ds : List PyData) (d : PyData) : Prop := ∃ (f : Face) (p : Prs) (t : List Nat), TOk f t ∧ ds = [faceD f, prsD p, txD t] ∧ d = rowD (begM f p t)
theorem sc28 : FnScope ["face", "pairs", "text", "found", "here", "place", "sign"] ["face", "pairs", "text"] (defScope (topS 28)) := ⟨rfl, rfl, rfl, by decide +kernel, rfl, by decide +kernel, by decide +kernel⟩
theorem ok_begins_in (T : Glo mg) (H1 : Hs P w K mg base "sign_width" 2 R_sign_width) (H2 : Hs P w K mg base "between" 2 R_between) (F : FnP K "begins_in" (topS 28) f fd) : FnOk P w K mg base CX0 3 f fd ["face", "pairs", "text"] (spP K R_begins) := by
  refine fn_pure F sc28 (fun ds d ⟨_, _, _, _, e, _⟩ => by rw [e]; rfl) fun ds d hR => ?_
  obtain ⟨f, p, t, ht, rfl, rfl⟩ := hR
  refine ⟨.rt (rowD (begM f p t)) (List.replicate 7 .no), fin_rt, show BX _ _ _ [.dat (faceD f), .dat (prsD p), .dat (txD t), .no, .no, .no, .no] _ from b_new 3 sc28.nd (el_lst a_nil) fun q _ => b_cons (s_set 4 sc28.nd e_int) (b_rt0 (b_cons (s_for (o := .nx [.dat (faceD f), .dat (prsD p), .dat (txD t), .mut q ((begM f p t).map .int), .dat (.int (startM f p t (t.length - 1))), .no, .no]) (i_enum (ds := t.map chD) T.enum (e_var 2) (by exact (signD_tx t).symm)) ?_) (b_ret (s_ret (e_tupleM 3 T.tuple)))))⟩
  rw [map_sAt, enm_range]
  refine lp_idx (fun k => .tuple [.int (k : Nat), chD (sAt t k)]) (fun k => [.dat (faceD f), .dat (prsD p), .dat (txD t), .mut q (((List.range k).map (startM f p t)).map .int), .dat (.int (startM f p t (k - 1))), .no, .no]) t.length fun k hk => ?_
  have hl : (((List.range k).map (startM f p t)).map PyData.int).length ≤ 1000 := by
    rw [List.length_map, List.length_map, List.length_range]; have := ht.1; omega
  cases k with
  | zero => exact ⟨_, _, _, [5, 6], g_tup (gs_cons (g_name 5 sc28.nd) (gs_cons (g_name 6 sc28.nd) gs_nil)), b_cons (s_ifF (t_is (t_gt (e_var 5) e_int) rfl) b_nil) (b_cons (s_append 3 (e_var 4) rfl rfl (by exact hl)) b_nil), rfl⟩
  | succ k =>
    have e1 : ((k + 1 : Nat) : Int) - 1 = (k : Nat) := by omega
    refine ⟨_, _, _, [5, 6], g_tup (gs_cons (g_name 5 sc28.nd) (gs_cons (g_name 6 sc28.nd) gs_nil)), b_cons (s_ifT (t_is (t_gt (e_var 5) e_int) (decide_eq_true (show (0 : Int) < ((k + 1 : Nat) : Int) by omega))) (b_cons (s_set 4 sc28.nd (e_add (i := startM f p t k + sgW f (sAt t k)) (e_add (i := startM f p t k) (e_var 4)
      (e_call H1 (a_cons (e_var 0) (a_cons (e_ixS (z := txS t) (c1 := sAt t k) (e_var 2) (e_sub (e_var 5) e_int) ht.line (by rw [e1]; exact sAt_ix (by omega))) a_nil)) ⟨f, sAt t k, ht.at_ (by omega), rfl, rfl⟩))
      (e_call H2 (a_cons (e_var 1) (a_cons (e_ixS (z := txS t) (c1 := sAt t k) (e_var 2) (e_sub (e_var 5) e_int) ht.line (by rw [e1]; exact sAt_ix (by omega))) (a_cons (e_var 6) a_nil))) ⟨p, sAt t k, sAt t (k + 1), rfl, rfl⟩))) b_nil)) (b_cons (s_append 3 (e_var 4) rfl rfl (by exact hl)) b_nil), ?_⟩
    rw [show List.range (k + 1 + 1) = List.range (k + 1) ++ [k + 1] from List.range_succ, List.map_append, List.map_append]
    rfl
/-! ### begins -/
theorem sc29 : FnScope ["face", "pairs", "text"] ["face", "pairs", "text"] (defScope (topS 29)) := ⟨rfl, rfl, rfl, by decide +kernel, rfl, by decide +kernel, by decide +kernel⟩
theorem ok_begins (T : Glo mg) (H1 : Hs P w K mg base "need_text" 4 R_need_text) (H2 : Hs P w K mg base "begins_in" 3 R_begins) (F : FnP K "begins" (topS 29) f fd) : FnOk P w K mg base CX0 5 f fd ["face", "pairs", "text"] (spP K R_begins) := by
  refine fn_pure F sc29 (fun ds d ⟨_, _, _, _, e, _⟩ => by rw [e]; rfl) fun ds d hR => ?_
  obtain ⟨f, p, t, ht, rfl, rfl⟩ := hR
  exact ⟨_, fin_rt, show BX _ _ _ [.dat (faceD f), .dat (prsD p), .dat (txD t)] _ from b_cons (s_expr (e_call H1 (a_cons (e_var 0) (a_cons (e_var 2) a_nil)) ⟨f, t, ht, rfl, rfl⟩)) (b_ret (s_ret (e_call H2 (a_cons (e_var 0) (a_cons (e_var 1) (a_cons (e_var 2) a_nil))) ⟨f, p, t, ht, rfl, rfl⟩)))⟩
/-! ### wide_in, wide -/
def R_wide (ds : List PyData) (d : PyData) : Prop := ∃ (f : Face) (p : Prs) (t : List Nat), TOk f t ∧ ds = [faceD f, prsD p, txD t] ∧ d = .int (wideM f p t)
theorem sc30 : FnScope ["face", "pairs", "text"] ["face", "pairs", "text"] (defScope (topS 30)) := ⟨rfl, rfl, rfl, by decide +kernel, rfl, by decide +kernel, by decide +kernel⟩
theorem ok_wide_in (T : Glo mg) (H1 : Hs P w K mg base "sign_width" 2 R_sign_width) (H2 : Hs P w K mg base "begins_in" 3 R_begins) (F : FnP K "wide_in" (topS 30) f fd) : FnOk P w K mg base CX0 4 f fd ["face", "pairs", "text"] (spP K R_wide) := by
  refine fn_pure F sc30 (fun ds d ⟨_, _, _, _, e, _⟩ => by rw [e]; rfl) fun ds d hR => ?_
  obtain ⟨f, p, t, ht, rfl, rfl⟩ := hR
  by_cases h : t = []
  · exact ⟨.rt (.int 0) _, fin_rt_of (by rw [wideM, if_pos h]), show BX _ _ _ [.dat (faceD f), .dat (prsD p), .dat (txD t)] _ from b_ret (s_ifT (t_is (t_eqP (e_var 2) (e_eq e_str emptyD) (Nat.zero_le _)) (by rw [q_tx, decide_eq_true h])) (b_ret (s_ret e_int)))⟩
  · have hp : 0 < t.length := List.length_pos_iff.mpr h
    have hb : atI ((begM f p t).map PyData.int) (-1) = some (.int (startM f p t (t.length - 1))) := by
      have e : ((begM f p t).map PyData.int).length = t.length := by simp [begM]
      rw [atI_last _ (by intro z; rw [z] at e; simp at e; omega), e, begM, List.map_map, List.getElem?_map, List.getElem?_range (by omega)]
      rfl
    exact ⟨.rt (.int (startM f p t (t.length - 1) + sgW f (sAt t (t.length - 1)))) _, fin_rt_of (by rw [wideM, if_neg h]), show BX _ _ _ [.dat (faceD f), .dat (prsD p), .dat (txD t)] _ from b_cons (s_ifF (t_is (t_eqP (e_var 2) (e_eq e_str emptyD) (Nat.zero_le _)) (by rw [q_tx, decide_eq_false h])) b_nil) (b_ret (s_ret (e_add
      (e_ixT (ds := (begM f p t).map .int) (i := -1) (e_call H2 (a_cons (e_var 0) (a_cons (e_var 1) (a_cons (e_var 2) a_nil))) ⟨f, p, t, ht, rfl, rfl⟩) (e_neg e_int) hb)
      (e_call H1 (a_cons (e_var 0) (a_cons (e_ixS (i := -1) (z := txS t) (c1 := sAt t (t.length - 1)) (e_var 2) (e_neg e_int) ht.line (sAt_last h)) a_nil)) ⟨f, sAt t (t.length - 1), ht.at_ (by omega), rfl, rfl⟩))))⟩
theorem sc31 : FnScope ["face", "pairs", "text"] ["face", "pairs", "text"] (defScope (topS 31)) := ⟨rfl, rfl, rfl, by decide +kernel, rfl, by decide +kernel, by decide +kernel⟩
theorem ok_wide (T : Glo mg) (H1 : Hs P w K mg base "need_text" 4 R_need_text) (H2 : Hs P w K mg base "wide_in" 4 R_wide) (F : FnP K "wide" (topS 31) f fd) : FnOk P w K mg base CX0 5 f fd ["face", "pairs", "text"] (spP K R_wide) := by
  refine fn_pure F sc31 (fun ds d ⟨_, _, _, _, e, _⟩ => by rw [e]; rfl) fun ds d hR => ?_
  obtain ⟨f, p, t, ht, rfl, rfl⟩ := hR
  exact ⟨_, fin_rt, show BX _ _ _ [.dat (faceD f), .dat (prsD p), .dat (txD t)] _ from b_cons (s_expr (e_call H1 (a_cons (e_var 0) (a_cons (e_var 2) a_nil)) ⟨f, t, ht, rfl, rfl⟩)) (b_ret (s_ret (e_call H2 (a_cons (e_var 0) (a_cons (e_var 1) (a_cons (e_var 2) a_nil))) ⟨f, p, t, ht, rfl, rfl⟩)))⟩
/-! ### need_whole -/
def R_need_whole (ds : List PyData) (d : PyData) : Prop := ∃ n : Int, ds = [.int n] ∧ d = .none
theorem sc32 : FnScope ["thing"] ["thing"] (defScope (topS 32)) := ⟨rfl, rfl, rfl, by decide +kernel, rfl, by decide +kernel, by decide +kernel⟩
theorem ok_need_whole (T : Glo mg) (F : FnP K "need_whole" (topS 32) f fd) : FnOk P w K mg base CX0 1 f fd ["thing"] (spP K R_need_whole) := by
  refine fn_pure F sc32 (fun ds d ⟨_, e, _⟩ => by rw [e]; rfl) fun ds d hR => ?_
  obtain ⟨n, rfl, rfl⟩ := hR
  exact ⟨_, fin_nx, show BX _ _ _ [.dat (.int n)] _ from b_cons (s_ifF (t_w (w_orF (t_is (t_not (t_val (e_isi T.isi T.int PyProof.Rows.boot_int (e_var 0) (by exact k_ii)))) rfl) (w_or1 (t_val (e_isi T.isi T.bool PyProof.Rows.boot_bool (e_var 0) (by exact k_ib)))))) b_nil) b_nil⟩
/-! ### sign_at -/
def R_sign_at (ds : List PyData) (d : PyData) : Prop := ∃ (f : Face) (p : Prs) (t : List Nat) (n : Int), TOk f t ∧ ds = [faceD f, prsD p, txD t, .int n] ∧ d = optD (signM f p t n)
theorem sc33 : FnScope ["face", "pairs", "text", "number", "place", "start"] ["face", "pairs", "text", "number"] (defScope (topS 33)) := ⟨rfl, rfl, rfl, by decide +kernel, rfl, by decide +kernel, by decide +kernel⟩
theorem ok_sign_at (T : Glo mg) (H1 : Hs P w K mg base "need_text" 4 R_need_text) (H2 : Hs P w K mg base "need_whole" 1 R_need_whole) (H3 : Hs P w K mg base "begins_in" 3 R_begins) (H4 : Hs P w K mg base "sign_width" 2 R_sign_width) (F : FnP K "sign_at" (topS 33) f fd) : FnOk P w K mg base CX0 5 f fd ["face", "pairs", "text", "number"] (spP K R_sign_at) := by
  refine fn_pure F sc33 (fun ds d ⟨_, _, _, _, _, e, _⟩ => by rw [e]; rfl) fun ds d hR => ?_
  obtain ⟨f, p, t, n, ht, rfl, rfl⟩ := hR
  cases e : (List.range t.length).find? fun k => decide (startM f p t k ≤ n) && decide (n < startM f p t k + sgW f (sAt t k)) with
  | none =>
    refine ⟨.rt .none _, fin_rt_of (by rw [signM, e]; rfl), show BX _ _ _ [.dat (faceD f), .dat (prsD p), .dat (txD t), .dat (.int n), .no, .no] _ from b_cons (s_expr (e_call H1 (a_cons (e_var 0) (a_cons (e_var 2) a_nil)) ⟨f, t, ht, rfl, rfl⟩)) (b_cons (s_expr (e_call H2 (a_cons (e_var 3) a_nil) ⟨n, rfl, rfl⟩)) (b_cons (s_for (o := .nx [.dat (faceD f), .dat (prsD p), .dat (txD t), .dat (.int n), .no, .no])
      (i_enum (d := rowD (begM f p t)) (ds := (begM f p t).map .int) T.enum (e_call H3 (a_cons (e_var 0) (a_cons (e_var 1) (a_cons (e_var 2) a_nil))) ⟨f, p, t, ht, rfl, rfl⟩) rfl) ?_) (b_ret (s_ret e_non))))⟩
    rw [begM, List.map_map, enm_range]
    refine lp_none (fun k : Nat => PyData.tuple [.int (k : Nat), .int (startM f p t k)]) _ _ _ e fun k hk hq => ?_
    exact ⟨_, _, _, [4, 5], g_tup (gs_cons (g_name 4 sc33.nd) (gs_cons (g_name 5 sc33.nd) gs_nil)), b_cons (s_ifF (t_is (t_chLT (e_var 5) (e_var 3) (e_add (e_var 5) (e_call H4 (a_cons (e_var 0) (a_cons (e_ixS (i := (k : Nat)) (z := txS t) (c1 := sAt t k) (e_var 2) (e_var 4) ht.line (sAt_ix (List.mem_range.mp hk))) a_nil)) ⟨f, sAt t k, ht.at_ (List.mem_range.mp hk), rfl, rfl⟩))) hq) b_nil) b_nil, rfl⟩
  | some k =>
    refine ⟨.rt (.int (k : Nat)) _, fin_rt_of (by rw [signM, e]; rfl), show BX _ _ _ [.dat (faceD f), .dat (prsD p), .dat (txD t), .dat (.int n), .no, .no] _ from b_cons (s_expr (e_call H1 (a_cons (e_var 0) (a_cons (e_var 2) a_nil)) ⟨f, t, ht, rfl, rfl⟩)) (b_cons (s_expr (e_call H2 (a_cons (e_var 3) a_nil) ⟨n, rfl, rfl⟩)) (b_ret (s_for (o := .rt (.int (k : Nat)) [.dat (faceD f), .dat (prsD p), .dat (txD t), .dat (.int n), .dat (.int (k : Nat)), .dat (.int (startM f p t k))])
      (i_enum (d := rowD (begM f p t)) (ds := (begM f p t).map .int) T.enum (e_call H3 (a_cons (e_var 0) (a_cons (e_var 1) (a_cons (e_var 2) a_nil))) ⟨f, p, t, ht, rfl, rfl⟩) rfl) ?_)))⟩
    rw [begM, List.map_map, enm_range]
    refine lp_find (ρ' := fun k => [.dat (faceD f), .dat (prsD p), .dat (txD t), .dat (.int n), .dat (.int (k : Nat)), .dat (.int (startM f p t k))]) (fun k : Nat => PyData.tuple [.int (k : Nat), .int (startM f p t k)]) _ (fun k => .int (k : Nat)) _ _ e fun k hk => ?_
    exact ⟨_, _, g_tup (gs_cons (g_name 4 sc33.nd) (gs_cons (g_name 5 sc33.nd) gs_nil)), fun hq => ⟨_, [4, 5], b_cons (s_ifF (t_is (t_chLT (e_var 5) (e_var 3) (e_add (e_var 5) (e_call H4 (a_cons (e_var 0) (a_cons (e_ixS (i := (k : Nat)) (z := txS t) (c1 := sAt t k) (e_var 2) (e_var 4) ht.line (sAt_ix (List.mem_range.mp hk))) a_nil)) ⟨f, sAt t k, ht.at_ (List.mem_range.mp hk), rfl, rfl⟩))) hq) b_nil) b_nil, rfl⟩,
      fun hq => b_ret (s_ifT (t_is (t_chLT (e_var 5) (e_var 3) (e_add (e_var 5) (e_call H4 (a_cons (e_var 0) (a_cons (e_ixS (i := (k : Nat)) (z := txS t) (c1 := sAt t k) (e_var 2) (e_var 4) ht.line (sAt_ix (List.mem_range.mp hk))) a_nil)) ⟨f, sAt t k, ht.at_ (List.mem_range.mp hk), rfl, rfl⟩))) hq) (b_ret (s_ret (e_var 4))))⟩
end
end Sg
namespace Sg
open PySem PySem.Spec PyProof.Rows L2
def sg (a b c : Nat) : Nat := if c = a then b else c
def likeF (f : Face) (a b : Nat) : Face := (f.1, f.2 ++ [(a, widC f b)])
def likeP (f : Face) (p : Prs) (a b : Nat) : Prs := fromRows (lets (likeF f a b)) ((lets (likeF f a b)).map fun l => (lets (likeF f a b)).map fun r => gapIn p (sg a b l) (sg a b r))
theorem lets_like (f : Face) (a b : Nat) : lets (likeF f a b) = lets f ++ [a] := by simp [lets, likeF]
theorem isLt_ne {c : Nat} (h : isLt c) : c ≠ 32 := by have := h.1; omega
theorem like_ok {f : Face} {a b : Nat} (h : FOk f) (h10 : f.2.length < 10) (ha : isLt a) (hn : a ∉ lets f) : FOk (likeF f a b) :=
  ⟨by simp [likeF]; omega, by simp [likeF], by rw [lets_like]; exact List.nodup_append.mpr ⟨h.nd, by simp, fun x hx y hy e => by simp at hy; subst hy; subst e; exact hn hx⟩, fun c hc => by
    rw [lets_like] at hc
    rcases List.mem_append.mp hc with z | z
    · exact h.az c z
    · simp at z; subst z; exact ha⟩
def movedM (p q : Prs) (t : List Nat) : Bool := (t.zip (t.drop 1)).any fun x => decide (betw p x.1 x.2 ≠ betw q x.1 x.2)
theorem cut1 (t : List Nat) : cutS (txS t) (some 1) none = txS (t.drop 1) := by
  rw [C8.cutS_slice]
  exact _root_.SX.slice_from (a := t) (i := 1) (by decide)
end Sg
namespace Sg
open PySem PySem.Spec PyProof.Rows L2
section
variable {P : Program} {w : World} {K : PySem.W.Frag} {mg : Str → Option Value} {base : Heap} {f : Addr} {fd : FuncData}
/-! ### need_fresh, need_room -/
def R_need_fresh (ds : List PyData) (d : PyData) : Prop := ∃ (f : Face) (c : Nat), isLt c ∧ c ∉ lets f ∧ ds = [faceD f, chD c] ∧ d = .none
theorem sc35 : FnScope ["face", "letter"] ["face", "letter"] (defScope (topS 35)) := ⟨rfl, rfl, rfl, by decide +kernel, rfl, by decide +kernel, by decide +kernel⟩
theorem ok_need_fresh (T : Glo mg) (H1 : Hs P w K mg base "is_letter" 1 R_is_letter) (H2 : Hs P w K mg base "place_of" 1 R_place_of) (F : FnP K "need_fresh" (topS 35) f fd) : FnOk P w K mg base CX0 2 f fd ["face", "letter"] (spP K R_need_fresh) := by
  refine fn_pure F sc35 (fun ds d ⟨_, _, _, _, e, _⟩ => by rw [e]; rfl) fun ds d hR => ?_
  obtain ⟨f, c, hc, hn, rfl, rfl⟩ := hR
  exact ⟨_, fin_nx, show BX _ _ _ [.dat (faceD f), .dat (chD c)] _ from b_cons (s_ifF (t_w (w_orF (t_is (t_not (t_val (e_call H1 (a_cons (e_var 1) a_nil) ⟨c, hc, rfl, rfl⟩))) rfl) (w_or1 (t_is (t_notN (e_call (d := .none) H2 (a_cons (e_var 0) (a_cons (e_var 1) a_nil)) ⟨f, c, rfl, by rw [place_none hn]; rfl⟩)) rfl)))) b_nil) b_nil⟩
def R_need_room (ds : List PyData) (d : PyData) : Prop := ∃ f : Face, f.2.length < 10 ∧ ds = [faceD f] ∧ d = .none
theorem sc36 : FnScope ["face"] ["face"] (defScope (topS 36)) := ⟨rfl, rfl, rfl, by decide +kernel, rfl, by decide +kernel, by decide +kernel⟩
theorem ok_need_room (T : Glo mg) (F : FnP K "need_room" (topS 36) f fd) : FnOk P w K mg base CX0 1 f fd ["face"] (spP K R_need_room) := by
  refine fn_pure F sc36 (fun ds d ⟨_, _, e, _⟩ => by rw [e]; rfl) fun ds d hR => ?_
  obtain ⟨f, h, rfl, rfl⟩ := hR
  exact ⟨_, fin_nx, show BX _ _ _ [.dat (faceD f)] _ from b_cons (s_ifF (t_is (t_ge (e_lenT (xs := f.2.map ltD) T.len (e_ixT (e_var 0) e_int rfl)) (e_gint rfl T.most)) (decide_eq_false (by rw [List.length_map]; omega))) b_nil) b_nil⟩
/-! ### with_like -/
def R_with_like (ds : List PyData) (d : PyData) : Prop := ∃ (f : Face) (p : Prs) (a b : Nat), FOk f ∧ f.2.length < 10 ∧ isLt a ∧ a ∉ lets f ∧ b ∈ lets f ∧ ds = [faceD f, prsD p, chD a, chD b] ∧ d = .tuple [faceD (likeF f a b), prsD (likeP f p a b)]
theorem sc37 : FnScope ["face", "pairs", "letter", "other", "place", "later", "stands", "rows", "one", "left", "right"] ["face", "pairs", "letter", "other"] (defScope (topS 37)) := ⟨rfl, rfl, rfl, by decide +kernel, rfl, by decide +kernel, by decide +kernel⟩
theorem ok_with_like (T : Glo mg) (H1 : Hs P w K mg base "need_fresh" 2 R_need_fresh) (H2 : Hs P w K mg base "need_letter" 2 R_need_letter) (H3 : Hs P w K mg base "need_room" 1 R_need_room) (H4 : Hs P w K mg base "letters_of" 1 R_letters_of) (H5 : Hs P w K mg base "gap_in" 1 R_gap_in) (H6 : Hs P w K mg base "from_rows" 2 R_from_rows) (F : FnP K "with_like" (topS 37) f fd) : FnOk P w K mg base CX0 3 f fd ["face", "pairs", "letter", "other"] (spP K R_with_like) := by
  refine fn_pure F sc37 (fun ds d ⟨_, _, _, _, _, _, _, _, _, e, _⟩ => by rw [e]; rfl) fun ds d hR => ?_
  obtain ⟨f, p, a, b, hf, h10, ha, hn, hb, rfl, rfl⟩ := hR
  obtain ⟨k, q, h1, h2, h3, h4⟩ := place_some hb
  have hk : k < f.2.length := (List.getElem?_eq_some_iff.mp h2).1
  have hl := like_ok (b := b) hf h10 ha hn
  have h11 : (lets (likeF f a b)).length ≤ 1000 := by rw [lets_len]; exact Nat.le_trans hl.len (by decide)
  have hq : atI (f.2.map ltD) (k : Int) = some (ltD q) := by rw [atI_nat _ _ (by rw [List.length_map]; exact hk), List.getElem?_map, h2]; rfl
  refine ⟨_, fin_rt, show BX _ _ _ [.dat (faceD f), .dat (prsD p), .dat (chD a), .dat (chD b), .no, .no, .no, .no, .no, .no, .no] _ from
    b_cons (s_expr (e_call H1 (a_cons (e_var 0) (a_cons (e_var 2) a_nil)) ⟨f, a, ha, hn, rfl, rfl⟩))
    (b_cons (s_set 4 sc37.nd (e_call (d := .int (k : Nat)) H2 (a_cons (e_var 0) (a_cons (e_var 3) a_nil)) ⟨f, b, k, h1, rfl, rfl⟩))
    (b_cons (s_expr (e_call H3 (a_cons (e_var 0) a_nil) ⟨f, h10, rfl, rfl⟩))
    (b_cons (s_set 5 sc37.nd (d := faceD (likeF f a b)) (e_eq (e_tup (a_cons (e_ixT (ds := [.int f.1, .tuple (f.2.map ltD)]) (e_var 0) e_int rfl) (a_cons (e_addT (xs := f.2.map ltD) (ys := [.tuple [chD a, .int q.2]]) (e_ixT (ds := [.int f.1, .tuple (f.2.map ltD)]) (e_var 0) e_int rfl) (e_tup (a_cons (e_tup (a_cons (e_var 2) (a_cons (e_ixT (ds := [chD q.1, .int q.2]) (e_ixT (i := (k : Nat)) (e_ixT (ds := [.int f.1, .tuple (f.2.map ltD)]) (e_var 0) e_int rfl) (e_var 4) hq) e_int rfl) a_nil))) a_nil)) ?_) a_nil))) ?_))
    (b_cons (s_setLcC (ys := (lets (likeF f a b)).map fun c => chD (sg a b c)) 6 (own := [("one", 8)]) sc37.nd (by kernel_rfl) (i_tup (e_call H4 (a_cons (e_var 5) a_nil) ⟨_, hl, rfl, rfl⟩)) ?_ ?_)
    (b_cons (s_setLc (ys := ((lets (likeF f a b)).map fun l => (lets (likeF f a b)).map fun r => gapIn p (sg a b l) (sg a b r)).map rowL) 7 (own := [("left", 9)]) sc37.nd (by kernel_rfl) (i_list (e_var 6)) ?_ ?_)
    (b_ret (s_ret (e_tup (a_cons (e_var 5) (a_cons (e_call H6 (a_cons (e_var 5) (a_cons (e_var 7) a_nil)) ⟨likeF f a b, _, hl, ?_, rfl, rfl⟩) a_nil))))))))))⟩
  · rw [List.length_map]; exact Nat.le_trans (Nat.add_le_add_right hf.len 1) (by decide)
  · rw [faceD, likeF, List.map_append, h4]; rfl
  · refine lc_map chD _ _ fun c hc => ⟨[8], [chD c], _, g_name 8 sc37.nd, by simp, e_if (b1 := decide (c = a)) (t_is (t_eqP (e_var 8) (e_var 2) (Nat.zero_le _)) (by rw [q_ch])) (fun z => e_eq (e_var 3) (by rw [sg, if_pos (of_decide_eq_true z)])) (fun z => e_eq (e_var 8) (by rw [sg, if_neg (of_decide_eq_false z)])), rfl⟩
  · rw [List.length_map]; exact h11
  · rw [List.map_map]
    refine lc_map (fun c => chD (sg a b c)) _ _ fun l hl => ?_
    refine ⟨[9], [chD (sg a b l)], _, g_name 9 sc37.nd, by simp, e_lc (ys := ((lets (likeF f a b)).map fun r => gapIn p (sg a b l) (sg a b r)).map .int) (own := [("right", 10)]) sc37.nd (by kernel_rfl) (i_list (e_var 6)) ?_ ?_, rfl⟩
    · rw [List.map_map]
      exact lc_map (fun c => chD (sg a b c)) _ _ fun r hr => ⟨[10], [chD (sg a b r)], _, g_name 10 sc37.nd, by simp, e_call H5 (a_cons (e_var 1) (a_cons (e_var 9) (a_cons (e_var 10) a_nil))) ⟨p, _, _, rfl, rfl⟩, rfl⟩
    · rw [List.length_map]; exact h11
  · rw [List.length_map]; exact h11
  · rw [List.length_map, lets_len]; exact hl.len
/-! ### is_moved -/
def R_is_moved (ds : List PyData) (d : PyData) : Prop := ∃ (p q : Prs) (t : List Nat), t.length ≤ 200 ∧ ds = [prsD p, prsD q, txD t] ∧ d = .bool (movedM p q t)
theorem sc39 : FnScope ["pairs", "other", "text", "one", "sign"] ["pairs", "other", "text"] (defScope (topS 39)) := ⟨rfl, rfl, rfl, by decide +kernel, rfl, by decide +kernel, by decide +kernel⟩
theorem ok_is_moved (T : Glo mg) (H1 : Hs P w K mg base "between" 2 R_between) (F : FnP K "is_moved" (topS 39) f fd) : FnOk P w K mg base CX0 3 f fd ["pairs", "other", "text"] (spP K R_is_moved) := by
  refine fn_pure F sc39 (fun ds d ⟨_, _, _, _, e, _⟩ => by rw [e]; rfl) fun ds d hR => ?_
  obtain ⟨p, q, t, ht, rfl, rfl⟩ := hR
  have hz : (txS t).length ≤ sizeLine := by rw [txS_len]; exact Nat.le_trans ht (by decide)
  refine ⟨_, fin_rt, show BX _ _ _ [.dat (prsD p), .dat (prsD q), .dat (txD t), .no, .no] _ from b_ret (s_ret (e_eq (e_any (bs := (t.zip (t.drop 1)).map fun x => decide (betw p x.1 x.2 ≠ betw q x.1 x.2)) T.any (e_lc (own := [("one", 3), ("sign", 4)]) sc39.nd (by kernel_rfl) (i_zip (ds := t.map chD) (es1 := (t.drop 1).map chD) T.zip (e_var 2) (e_eq (d1 := txD (t.drop 1)) (e_slS (z := txS t) (i := some 1) (j := none) (e_var 2) (o_some e_int) o_none hz) (by rw [cut1]; rfl)) (by exact (signD_tx _).symm) (by exact (signD_tx _).symm)) ?_ ?_)) ?_))⟩
  · rw [zp_map, List.map_map]
    exact lc_map (fun x : Nat × Nat => PyData.tuple [chD x.1, chD x.2]) _ _ fun x hx => ⟨_, _, _, g_tup (gs_cons (g_name 3 sc39.nd) (gs_cons (g_name 4 sc39.nd) gs_nil)), by simp, e_eq (e_neP (e_call H1 (a_cons (e_var 0) (a_cons (e_var 3) (a_cons (e_var 4) a_nil))) ⟨p, x.1, x.2, rfl, rfl⟩) (e_call H1 (a_cons (e_var 1) (a_cons (e_var 3) (a_cons (e_var 4) a_nil))) ⟨q, x.1, x.2, rfl, rfl⟩) (Nat.zero_le _)) (by rw [q_int]; simp), rfl⟩
  · rw [zp_map, List.length_map, List.length_zip]; omega
  · rw [movedM, List.any_map]; rfl
/-! ### moved_lines -/
def R_moved_lines (ds : List PyData) (d : PyData) : Prop := ∃ (f : Face) (p q : Prs) (ts : List (List Nat)), ts.length ≤ 100 ∧ (∀ t ∈ ts, TOk f t) ∧ ds = [faceD f, prsD p, prsD q, .tuple (ts.map txD)] ∧ d = .tuple ((ts.zipIdx.filter fun x => movedM p q x.1).map fun x => .int (x.2 : Nat))
theorem sc40 : FnScope ["face", "pairs", "other", "texts", "text", "number"] ["face", "pairs", "other", "texts"] (defScope (topS 40)) := ⟨rfl, rfl, rfl, by decide +kernel, rfl, by decide +kernel, by decide +kernel⟩
theorem ok_moved_lines (T : Glo mg) (H1 : Hs P w K mg base "need_text" 4 R_need_text) (H2 : Hs P w K mg base "is_moved" 3 R_is_moved) (F : FnP K "moved_lines" (topS 40) f fd) : FnOk P w K mg base CX0 5 f fd ["face", "pairs", "other", "texts"] (spP K R_moved_lines) := by
  refine fn_pure F sc40 (fun ds d ⟨_, _, _, _, _, _, e, _⟩ => by rw [e]; rfl) fun ds d hR => ?_
  obtain ⟨f, p, q, ts, hl, ht, rfl, rfl⟩ := hR
  refine ⟨_, fin_rt, show BX _ _ _ [.dat (faceD f), .dat (prsD p), .dat (prsD q), .dat (.tuple (ts.map txD)), .no, .no] _ from b_cons (s_ifF (t_is (t_not (t_val (e_isi T.isi T.tuple PyProof.Rows.boot_tuple (e_var 3) (by exact k_tt)))) rfl) b_nil) (b_cons (s_for (o := .nx [.dat (faceD f), .dat (prsD p), .dat (prsD q), .dat (.tuple (ts.map txD)), .no, .no]) (i_tup (e_var 3)) ?_) (b_ret (s_ret (e_tuple T.tuple (e_lc (own := [("number", 5), ("text", 4)]) sc40.nd (by kernel_rfl) (i_enum (d := .tuple (ts.map txD)) (ds := ts.map txD) T.enum (e_var 3) rfl) ?_ ?_)))))⟩
  · refine lp_fold txD (fun s _ => s) (fun _ : Unit => [.dat (faceD f), .dat (prsD p), .dat (prsD q), .dat (.tuple (ts.map txD)), .no, .no]) ts () fun l1 t l2 e => ?_
    exact ⟨[4], _, _, [4], g_name 4 sc40.nd, b_cons (s_expr (e_call H1 (a_cons (e_var 0) (a_cons (e_var 4) a_nil)) ⟨f, t, ht t (by rw [e]; simp), rfl, rfl⟩)) b_nil, rfl⟩
  · rw [enm_map]
    refine lc_filter (fun x : List Nat × Nat => PyData.tuple [.int (x.2 : Nat), txD x.1]) _ (fun x => movedM p q x.1) ts.zipIdx fun x hx => ?_
    have hm : x.1 ∈ ts := by
      have := List.mem_zipIdx hx
      exact List.mem_of_getElem? (i := x.2) (by simpa using List.mk_mem_zipIdx_iff_getElem?.mp hx)
    exact ⟨_, _, _, g_tup (gs_cons (g_name 5 sc40.nd) (gs_cons (g_name 4 sc40.nd) gs_nil)), by simp, t_val (e_call H2 (a_cons (e_var 1) (a_cons (e_var 2) (a_cons (e_var 4) a_nil))) ⟨p, q, x.1, (ht _ hm).1, rfl, rfl⟩), rfl, fun _ => ⟨_, e_var 5, rfl⟩⟩
  · rw [enm_map, List.length_map, List.length_zipIdx]; omega
end
end Sg
namespace Sg
open PySem PySem.Spec PyProof.Rows L2
/-! ### words, lines -/
def seg (ws : List (List Nat)) (i j : Nat) : List (List Nat) := (ws.drop i).take (j - i)
theorem joinB_snoc : ∀ {ws : List (List Nat)} {x : List Nat}, ws ≠ [] → joinB (ws ++ [x]) = joinB ws ++ 32 :: x
  | [], _, h => absurd rfl h
  | [p], x, _ => by simp [joinB, TL.joinL]
  | p :: q :: r, x, _ => by
    have := joinB_snoc (ws := q :: r) (x := x) (by simp)
    simp only [joinB, List.cons_append] at this ⊢
    simp only [TL.joinL, this, List.append_assoc]
theorem joinB_cons {p : List Nat} {ws : List (List Nat)} (h : ws ≠ []) : joinB (p :: ws) = p ++ 32 :: joinB ws := by
  cases ws with
  | nil => exact absurd rfl h
  | cons q r => simp [joinB, TL.joinL]
theorem joinB_len : ∀ {ws : List (List Nat)}, ws ≠ [] → (joinB ws).length + 1 = (ws.map (·.length)).sum + ws.length
  | [], h => absurd rfl h
  | [p], _ => by simp [joinB, TL.joinL]
  | p :: q :: r, _ => by
    have := joinB_len (ws := q :: r) (by simp)
    rw [joinB_cons (by simp)]
    simp at this ⊢
    omega
theorem joinB_mem : ∀ {ws : List (List Nat)} {c : Nat}, c ∈ joinB ws → c = 32 ∨ ∃ w ∈ ws, c ∈ w
  | [], c, h => by simp [joinB, TL.joinL] at h
  | [p], c, h => .inr ⟨p, by simp, by simpa [joinB, TL.joinL] using h⟩
  | p :: q :: r, c, h => by
    rw [joinB_cons (by simp)] at h
    simp only [List.mem_append, List.mem_cons] at h
    rcases h with h | h | h
    · exact .inr ⟨p, by simp, h⟩
    · exact .inl h
    · rcases joinB_mem h with z | ⟨w, hw, z⟩
      · exact .inl z
      · exact .inr ⟨w, List.mem_cons_of_mem _ hw, z⟩
theorem mem_joinB : ∀ {ws : List (List Nat)} {w : List Nat} {c : Nat}, w ∈ ws → c ∈ w → c ∈ joinB ws
  | [p], w, c, h, hc => by simp at h; subst h; simpa [joinB, TL.joinL] using hc
  | p :: q :: r, w, c, h, hc => by
    rw [joinB_cons (by simp)]
    rcases List.mem_cons.mp h with z | z
    · subst z; simp [hc]
    · simp [mem_joinB z hc]
theorem sum_drop : ∀ (l : List Nat) (i : Nat), (l.drop i).sum ≤ l.sum
  | [], i => by simp
  | a :: l, 0 => by simp
  | a :: l, i + 1 => by
    have := sum_drop l i
    simp; omega
theorem sum_take : ∀ (l : List Nat) (i : Nat), (l.take i).sum ≤ l.sum
  | [], i => by simp
  | a :: l, 0 => by simp
  | a :: l, i + 1 => by
    have := sum_take l i
    simp; omega
theorem seg_len {ws : List (List Nat)} {i j : Nat} (h : i ≤ j) (hj : j ≤ ws.length) : (seg ws i j).length = j - i := by
  simp [seg]; omega
theorem seg_sum (ws : List (List Nat)) (i j : Nat) : ((seg ws i j).map (·.length)).sum ≤ (ws.map (·.length)).sum := by
  rw [seg, List.map_take, List.map_drop]
  exact Nat.le_trans (sum_take _ _) (sum_drop _ _)
theorem seg_mem {ws : List (List Nat)} {i j : Nat} {x : List Nat} (h : x ∈ seg ws i j) : x ∈ ws := List.mem_of_mem_drop (List.mem_of_mem_take h)
theorem seg_ok {f : Face} {ws : List (List Nat)} (h : WOk f ws) {i j : Nat} (hi : i < j) (hj : j ≤ ws.length) : WOk f (seg ws i j) := by
  have hl := seg_len (Nat.le_of_lt hi) hj
  have ne : seg ws i j ≠ [] := by intro z; rw [z] at hl; simp at hl; omega
  refine ⟨?_, ne, fun w hw => h.wd w (seg_mem hw), ?_, fun c hc => ?_⟩
  · rw [hl]; have := h.len; omega
  · have h1 := joinB_len ne
    have h2 := joinB_len h.ne
    have h3 := seg_sum ws i j
    have h4 := h.tx.1
    rw [hl] at h1
    omega
  · rcases joinB_mem hc with z | ⟨w, hw, z⟩
    · exact .inl z
    · exact .inr ((h.wd w (seg_mem hw)).2 c z)
theorem cutD_seg (ws : List (List Nat)) (i j : Nat) (hi : i ≤ ws.length) (hj : j ≤ ws.length) : cutD (ws.map txD) (some (i : Int)) (some (j : Int)) = (seg ws i j).map txD := by
  rw [cutD, HT.sIx_nat, HT.sIx_nat, List.length_map, Nat.min_eq_left hi, Nat.min_eq_left hj, seg, List.map_take, List.map_drop]
theorem WOk.word {f : Face} {ws : List (List Nat)} (h : WOk f ws) {w : List Nat} (hw : w ∈ ws) : TOk f w := by
  refine ⟨?_, fun c hc => .inr ((h.wd w hw).2 c hc)⟩
  obtain ⟨i, hi, e⟩ := List.getElem_of_mem hw
  have h1 := joinB_len h.ne
  have h2 := h.tx.1
  have h3 : w.length ≤ (ws.map (·.length)).sum := by
    clear hi e h1 h2 h i
    induction ws with
    | nil => simp at hw
    | cons a l ih =>
      simp
      rcases List.mem_cons.mp hw with z | z
      · subst z; omega
      · have := ih z; omega
  have h4 := List.length_pos_of_mem hw
  omega
/-! ### bounds -/
structure GOk (f : Face) (p : Prs) : Prop where
  bl : 0 ≤ f.1
  wd : ∀ c, 0 ≤ widC f c
  gp : ∀ a b, -9 ≤ gapIn p a b
theorem sgW_ge {f : Face} {p : Prs} (h : GOk f p) (c : Nat) : 0 ≤ sgW f c := by
  rw [sgW]; split
  · exact h.bl
  · exact h.wd c
theorem betw_ge {f : Face} {p : Prs} (h : GOk f p) (a b : Nat) : -9 ≤ betw p a b := by
  rw [betw]; split
  · decide
  · exact h.gp a b
theorem startM_ge {f : Face} {p : Prs} (h : GOk f p) (t : List Nat) : ∀ k : Nat, -9 * (k : Int) ≤ startM f p t k
  | 0 => by simp [startM]
  | k + 1 => by
    rw [startM]
    have h1 := startM_ge h t k
    have h2 := sgW_ge h (sAt t k)
    have h3 := betw_ge h (sAt t k) (sAt t (k + 1))
    omega
theorem wideM_ge {f : Face} {p : Prs} (h : GOk f p) {t : List Nat} (ht : t.length ≤ 200) : -10000 ≤ wideM f p t := by
  rw [wideM]; split
  · decide
  · have h1 := startM_ge h t (t.length - 1)
    have h2 := sgW_ge h (sAt t (t.length - 1))
    omega
structure Fit (f : Face) (p : Prs) (ws : List (List Nat)) (n : Int) : Prop where
  ok : WOk f ws
  g : GOk f p
  n1 : 1 ≤ n
  n2 : n ≤ 999
  fit : ∀ w ∈ ws, wideM f p w ≤ n
/-! ### filled -/
def lastL (ls : List (List Nat)) : List Nat := ls.getD (ls.length - 1) []
def fillS (f : Face) (p : Prs) (n : Int) (ls : List (List Nat)) (x : List Nat) : List (List Nat) :=
  if ls ≠ [] ∧ 0 ≤ n - wideM f p (lastL ls ++ 32 :: x) then ls.set (ls.length - 1) (lastL ls ++ 32 :: x) else ls ++ [x]
def fillM (f : Face) (p : Prs) (n : Int) (ws : List (List Nat)) : List (List Nat) := ws.foldl (fillS f p n) []
theorem set_last {ls : List (List Nat)} (h : ls ≠ []) (x : List Nat) : ∃ l0, ls = l0 ++ [lastL ls] ∧ ls.set (ls.length - 1) x = l0 ++ [x] := by
  refine ⟨ls.dropLast, ?_, ?_⟩
  · have : lastL ls = ls.getLast h := by
      rw [lastL, List.getLast_eq_getElem, List.getD_eq_getElem?_getD, List.getElem?_eq_getElem (by have := List.length_pos_iff.mpr h; omega)]; rfl
    rw [this, List.dropLast_concat_getLast]
  · have e := List.dropLast_concat_getLast h
    have hl : ls.length = ls.dropLast.length + 1 := by rw [← List.length_concat (a := ls.getLast h)]; simp [List.concat_eq_append, e]
    have : ls.set (ls.length - 1) x = (ls.dropLast ++ [ls.getLast h]).set (ls.dropLast.length) x := by
      rw [e]; congr 1; omega
    rw [this, List.set_append_right _ _ (Nat.le_refl _), Nat.sub_self]; rfl
theorem join_set {ls : List (List Nat)} (h : ls ≠ []) (x : List Nat) : joinB (ls.set (ls.length - 1) (lastL ls ++ 32 :: x)) = joinB ls ++ 32 :: x := by
  obtain ⟨l0, e1, e2⟩ := set_last h (lastL ls ++ 32 :: x)
  rw [e2]
  by_cases z : l0 = []
  · subst z
    have e3 : joinB ls = lastL ls := by
      have := congrArg joinB e1
      simpa [joinB, TL.joinL] using this
    rw [e3]
    simp [joinB, TL.joinL]
  · rw [joinB_snoc z]
    have e3 : joinB ls = joinB l0 ++ 32 :: lastL ls := by
      have := congrArg joinB e1
      rwa [joinB_snoc z] at this
    rw [e3]
    simp
theorem fillS_ne (f : Face) (p : Prs) (n : Int) (ls : List (List Nat)) (x : List Nat) : fillS f p n ls x ≠ [] := by
  rw [fillS]; split
  · rename_i h
    intro z
    have := congrArg List.length z
    simp at this
    exact h.1 this
  · simp
theorem fillS_join (f : Face) (p : Prs) (n : Int) (ls : List (List Nat)) (x : List Nat) : joinB (fillS f p n ls x) = if ls = [] then x else joinB ls ++ 32 :: x := by
  rw [fillS]
  by_cases h : ls = []
  · subst h; simp [joinB, TL.joinL]
  · rw [if_neg h]
    split
    · exact join_set h x
    · exact joinB_snoc h
theorem fill_join (f : Face) (p : Prs) (n : Int) : ∀ (ws ls l0 : List (List Nat)), joinB ls = joinB l0 → (ls = [] ↔ l0 = []) → joinB (ws.foldl (fillS f p n) ls) = joinB (l0 ++ ws)
  | [], ls, l0, h, _ => by simpa using h
  | x :: ws, ls, l0, h, h0 => by
    rw [List.foldl_cons, show l0 ++ x :: ws = (l0 ++ [x]) ++ ws by simp]
    refine fill_join f p n ws _ (l0 ++ [x]) ?_ ⟨fun z => absurd z (fillS_ne f p n ls x), fun z => by simp at z⟩
    rw [fillS_join]
    by_cases z : ls = []
    · rw [if_pos z, h0.mp z]; simp [joinB, TL.joinL]
    · rw [if_neg z, joinB_snoc (fun q => z (h0.mpr q)), h]
theorem fillM_join (f : Face) (p : Prs) (n : Int) (ws : List (List Nat)) : joinB (fillM f p n ws) = joinB ws := fill_join f p n ws [] [] rfl Iff.rfl
theorem part_len {ls : List (List Nat)} {x : List Nat} (h : x ∈ ls) : x.length ≤ (joinB ls).length := by
  have h1 := joinB_len (ws := ls) (by intro z; subst z; simp at h)
  have h3 : x.length ≤ (ls.map (·.length)).sum := by
    clear h1
    induction ls with
    | nil => simp at h
    | cons a l ih =>
      simp
      rcases List.mem_cons.mp h with z | z
      · subst z; omega
      · have := ih z; omega
  have := List.length_pos_of_mem h
  omega
theorem lastL_mem {ls : List (List Nat)} (h : ls ≠ []) : lastL ls ∈ ls := by
  obtain ⟨l0, e1, _⟩ := set_last h []
  have : lastL ls ∈ l0 ++ [lastL ls] := by simp
  rw [← e1] at this; exact this
/-! ### prices -/
def costM (f : Face) (p : Prs) (ws : List (List Nat)) (n : Int) (i j : Nat) : Option Int :=
  if n - wideM f p (joinB (seg ws i j)) < 0 then none else if j = ws.length then some 0 else some ((n - wideM f p (joinB (seg ws i j))) * (n - wideM f p (joinB (seg ws i j))))
def optI : Option Int → PyData
  | none => .none
  | some k => .int k
def bestS (f : Face) (p : Prs) (ws : List (List Nat)) (n : Int) (first : Nat) (ps : List Int) (b : Option Int) (k : Nat) : Option Int :=
  match costM f p ws n first (first + 1 + k) with
  | none => b
  | some c => match b with
    | none => some (c + ps.getD k 0)
    | some x => if c + ps.getD k 0 < x then some (c + ps.getD k 0) else some x
def bestM (f : Face) (p : Prs) (ws : List (List Nat)) (n : Int) (first : Nat) (ps : List Int) : Option Int := (List.range (ws.length - first)).foldl (bestS f p ws n first ps) none
def pricesM (f : Face) (p : Prs) (ws : List (List Nat)) (n : Int) : Nat → List Int
  | 0 => [0]
  | m + 1 => (bestM f p ws n (ws.length - (m + 1)) (pricesM f p ws n m)).getD 0 :: pricesM f p ws n m
theorem prices_len (f : Face) (p : Prs) (ws : List (List Nat)) (n : Int) : ∀ m, (pricesM f p ws n m).length = m + 1
  | 0 => rfl
  | m + 1 => by rw [pricesM, List.length_cons, prices_len f p ws n m]
def brkV (p : Nat → Bool) : List Nat → Nat
  | [] => 0
  | [a] => a
  | a :: b :: l => if p a then a else brkV p (b :: l)
/-- the places where a line may end, the furthest first -/
def downs (first len : Nat) : List Nat := (List.range (len - first)).reverse.map fun k => first + 1 + k
def evP (f : Face) (p : Prs) (ws : List (List Nat)) (n : Int) (ps : List Int) (first b : Nat) : Bool :=
  match costM f p ws n first b with
  | none => false
  | some c => decide (c + ps.getD b 0 = ps.getD first 0)
def evB (f : Face) (p : Prs) (ws : List (List Nat)) (n : Int) (ps : List Int) (first : Nat) : Nat := brkV (evP f p ws n ps first) (downs first ws.length)
def evM (f : Face) (p : Prs) (ws : List (List Nat)) (n : Int) (ps : List Int) : Nat → Nat → List (List Nat)
  | 0, _ => []
  | m + 1, first => if first < ws.length then joinB (seg ws first (evB f p ws n ps first)) :: evM f p ws n ps m (evB f p ws n ps first) else []
def evenedM (f : Face) (p : Prs) (ws : List (List Nat)) (n : Int) : List (List Nat) := evM f p ws n (pricesM f p ws n ws.length) ws.length 0
def spreadM (f : Face) (p : Prs) (ws : List (List Nat)) (n : Int) : List Int :=
  (List.range (ws.length - 1)).map fun (k : Nat) => f.1 + (n - wideM f p (joinB ws)) / ((ws.length : Int) - 1) + (if decide ((k : Int) < (n - wideM f p (joinB ws)) % ((ws.length : Int) - 1)) then 1 else 0)
theorem brkV_mem (p : Nat → Bool) : ∀ l : List Nat, l ≠ [] → brkV p l ∈ l
  | [], h => absurd rfl h
  | [a], _ => by simp [brkV]
  | a :: b :: l, _ => by
    rw [brkV]
    split
    · simp
    · exact List.mem_cons_of_mem _ (brkV_mem p (b :: l) (by simp))
theorem downs_mem {first len b : Nat} (h : b ∈ downs first len) : first < b ∧ b ≤ len := by
  simp [downs] at h
  obtain ⟨k, h1, h2⟩ := h
  omega
theorem downs_ne {first len : Nat} (h : first < len) : downs first len ≠ [] := by
  intro z
  have := congrArg List.length z
  simp [downs] at this
  omega
theorem evB_mem {f : Face} {p : Prs} {ws : List (List Nat)} {n : Int} {ps : List Int} {first : Nat} (h : first < ws.length) : first < evB f p ws n ps first ∧ evB f p ws n ps first ≤ ws.length := downs_mem (brkV_mem _ _ (downs_ne h))
theorem seg_one {ws : List (List Nat)} {i : Nat} (h : i < ws.length) : seg ws i (i + 1) = [ws[i]] := by
  rw [seg, Nat.add_sub_cancel_left, List.drop_eq_getElem_cons h]; rfl
theorem cost_one {f : Face} {p : Prs} {ws : List (List Nat)} {n : Int} (h : Fit f p ws n) {i : Nat} (hi : i < ws.length) : ∃ c, costM f p ws n i (i + 1) = some c := by
  have h1 := h.fit ws[i] (List.getElem_mem hi)
  rw [costM, seg_one hi, show joinB [ws[i]] = ws[i] from rfl, if_neg (by omega)]
  split <;> exact ⟨_, rfl⟩
theorem best_keep {f : Face} {p : Prs} {ws : List (List Nat)} {n : Int} {first : Nat} {ps : List Int} : ∀ (l : List Nat) (x : Int), ∃ y, l.foldl (bestS f p ws n first ps) (some x) = some y
  | [], x => ⟨x, rfl⟩
  | k :: l, x => by
    rw [List.foldl_cons]
    have : ∃ z, bestS f p ws n first ps (some x) k = some z := by
      rw [bestS]
      cases costM f p ws n first (first + 1 + k) with
      | none => exact ⟨x, rfl⟩
      | some c =>
        simp only
        split <;> exact ⟨_, rfl⟩
    obtain ⟨z, e⟩ := this
    rw [e]
    exact best_keep l z
theorem best_some {f : Face} {p : Prs} {ws : List (List Nat)} {n : Int} (h : Fit f p ws n) {first : Nat} (hi : first < ws.length) (ps : List Int) : ∃ y, bestM f p ws n first ps = some y := by
  obtain ⟨c, hc⟩ := cost_one h hi
  rw [bestM, show ws.length - first = (ws.length - first - 1) + 1 by omega, List.range_succ_eq_map, List.foldl_cons]
  have : bestS f p ws n first ps none 0 = some (c + ps.getD 0 0) := by
    rw [bestS, Nat.add_zero, hc]
  rw [this]
  exact best_keep _ _
end Sg
namespace Sg
open PySem PySem.Spec PyProof.Rows L2
section
variable {G : Gam} {m : Addr → Prop} {a b c tg it : Expr} {body : List Stmt} {ρ ρ1 ρ2 : List Sl} {d : PyData} {ds : List PyData} {pos p p2 : Pos} {y : Str} {sts : List Stmt}
/-- x != e, x a list that may be changed -/
theorem t_neM (i : Nat) {q : Addr} (hb : EX G b ρ d ρ) (hz : (PyData.list ds).depth ≤ 60) (hr : ρ[i]? = some (.mut q ds) := by rfl) (hN : G.N[i]? = some y := by rfl) (hv : visB G.sc y = true := by rfl) (hd : (y == ("__debug__" : Str)) = false := by decide) (hcd : (y == ("__classdict__" : Str)) = false := by decide) :
    TX G (.Compare (.Name y p2) [.NotEq] [b] pos) ρ (!PyData.eqv (.list ds) d) ρ := fun X F => by
  have pv0 : PE X (.Name y p2) (tVar i) := pe_var (i := i) (by rw [F.N]; exact hN) (by rw [F.sc]; exact visB_ok hv) hd hcd
  refine PTw' (pt_cmpR (op_neP (room_units F)) pv0 (hb X F) (nomark _)) fun σ H Q ⟨B, S, h, k⟩ => ?_
  obtain ⟨q1, _⟩ := h.mt i q ds hr
  refine ⟨.ref q, q1, B, S, h, fun v S1 H1 h1 r1 => ?_⟩
  obtain ⟨_, _, _, vs, q4, q5⟩ := h1.mt i q ds hr
  rw [F.K]
  exact ⟨.list ds, d, .lst (.of q4) (Dpam q5 h1.sub), Dpm r1 h1.sub, hz, _, rfl, k S1 H1 h1⟩
theorem b_bkd (is : List Nat) (h : BX G m sts ρ (.bk ρ1)) : BX G m sts ρ (.bk (fg is ρ1)) := fun X F => PSsw (h X F) fun D σ H ⟨B, S, e, h, k⟩ => ⟨B, S, e, h, fun σ1 S1 H1 g => k σ1 S1 H1 g.drop⟩
/-- a loop that ends at the first that p tells, else behind the last; the name keeps what it met last -/
theorem lp_brk (f : Nat → PyData) (p : Nat → Bool) (ok : List Sl → Prop) (ρ' : Nat → List Sl) (is2 : List Nat) (hok : ∀ a, ok (ρ' a)) : ∀ (l : List Nat), l ≠ [] → (∀ a ∈ l, ∀ ρ, ok ρ → ∃ is ds, GX G tg (f a) is ds ∧ (p a = false → ∃ ρ2, BX G m body (setD ρ is ds) (.nx ρ2) ∧ fg is2 ρ2 = ρ' a) ∧ (p a = true → BX G m body (setD ρ is ds) (.bk (ρ' a)))) → ∀ ρ, ok ρ → Lp G m tg body (l.map f) ρ (.nx (ρ' (brkV p l)))
  | [], h, _, _, _ => absurd rfl h
  | [a], _, h, ρ, hρ => by
    obtain ⟨is, ds, h1, h2, h3⟩ := h a List.mem_cons_self ρ hρ
    cases e : p a with
    | true => exact .brk h1 (h3 e)
    | false =>
      obtain ⟨ρ2, h4, h5⟩ := h2 e
      refine .step is2 h1 h4 ?_
      rw [h5]
      exact .nil []
  | a :: b :: l, _, h, ρ, hρ => by
    obtain ⟨is, ds, h1, h2, h3⟩ := h a List.mem_cons_self ρ hρ
    cases e : p a with
    | true => rw [brkV, if_pos e]; exact .brk h1 (h3 e)
    | false =>
      obtain ⟨ρ2, h4, h5⟩ := h2 e
      rw [brkV, if_neg (by rw [e]; exact Bool.false_ne_true)]
      refine .step is2 h1 h4 ?_
      rw [h5]
      exact lp_brk f p ok ρ' is2 hok (b :: l) (by simp) (fun c hc => h c (List.mem_cons_of_mem _ hc)) _ (hok a)
end
theorem blankS : Str.ofString " " = txS [32] := by kernel_rfl
theorem strs_tx (ws : List (List Nat)) : ws.map txD = (ws.map txS).map PyData.str := by rw [List.map_map]; rfl
theorem sum_len (ws : List (List Nat)) : ((ws.map txS).map (·.length)).sum = (ws.map (·.length)).sum := by
  rw [List.map_map]
  exact congrArg List.sum (List.map_congr_left fun x _ => txS_len x)
theorem WOk.sum {f : Face} {ws : List (List Nat)} (h : WOk f ws) : (ws.map (·.length)).sum + ws.length ≤ 201 := by
  have := joinB_len h.ne
  have := h.tx.1
  omega
section
variable {P : Program} {w : World} {K : PySem.W.Frag} {mg : Str → Option Value} {base : Heap} {f : Addr} {fd : FuncData}
/-! ### words_of -/
def R_words_of (ds : List PyData) (d : PyData) : Prop := ∃ (f : Face) (ws : List (List Nat)), WOk f ws ∧ (∀ c ∈ lets f, c ≠ 32) ∧ ds = [faceD f, txD (joinB ws)] ∧ d = .list (ws.map txD)
theorem sc43 : FnScope ["face", "text", "words"] ["face", "text"] (defScope (topS 43)) := ⟨rfl, rfl, rfl, by decide +kernel, rfl, by decide +kernel, by decide +kernel⟩
theorem ok_words_of (T : Glo mg) (H1 : Hs P w K mg base "need_text" 4 R_need_text) (F : FnP K "words_of" (topS 43) f fd) : FnOk P w K mg base CX0 5 f fd ["face", "text"] (spP K R_words_of) := by
  refine fn_pure F sc43 (fun ds d ⟨_, _, _, _, e, _⟩ => by rw [e]; rfl) fun ds d hR => ?_
  obtain ⟨f, ws, hw, hb, rfl, rfl⟩ := hR
  have hne : joinB ws ≠ [] := by
    intro z
    obtain ⟨x, hx⟩ := List.exists_mem_of_ne_nil _ hw.ne
    obtain ⟨c, hc⟩ := List.exists_mem_of_ne_nil _ (hw.wd x hx).1
    have := mem_joinB hx hc
    rw [z] at this
    simp at this
  have hs : Txt.split (txS (joinB ws)) (Str.ofString " ") = ws.map txS := by
    rw [blankS]
    refine (_root_.SX.split_S (a := joinB ws) (b := [32]) (by simp) (by decide)).trans ?_
    rw [joinB, _root_.SX.spl_join hw.ne fun x hx hc => hb 32 ((hw.wd x hx).2 32 hc) rfl]
    rfl
  refine ⟨_, fin_rt, show BX _ _ _ [.dat (faceD f), .dat (txD (joinB ws)), .no] _ from b_cons (s_expr (e_call H1 (a_cons (e_var 0) (a_cons (e_var 1) a_nil)) ⟨f, _, hw.tx, rfl, rfl⟩)) (b_cons (s_ifF (t_is (t_eqP (e_var 1) (e_eq e_str emptyD) (Nat.zero_le _)) (by rw [q_tx, decide_eq_false hne])) b_nil)
    (b_cons (s_set 2 sc43.nd (d := .list (ws.map txD)) (e_eq (e_split (z := txS (joinB ws)) (e_var 1) e_str (by decide) ?_) (by rw [hs, strs_tx])))
    (b_cons (s_ifF (t_is (t_inL (d := txD []) (ds := ws.map txD) (e_eq e_str emptyD) (e_var 2) (Nat.zero_le _)) ?_) b_nil) (b_ret (s_ret (e_var 2))))))⟩
  · rw [txS_len]; exact Nat.le_trans (Nat.add_le_add_right hw.tx.1 2) (by decide)
  · rw [List.any_map]
    refine List.any_eq_false.mpr fun x hx => ?_
    rw [Function.comp, q_tx]
    simp [(hw.wd x hx).1]
/-! ### line_of -/
def R_line_of (ds : List PyData) (d : PyData) : Prop := ∃ (ws : List (List Nat)) (i j : Nat), (ws.map (·.length)).sum + ws.length ≤ 201 ∧ i ≤ ws.length ∧ j ≤ ws.length ∧ ds = [.list (ws.map txD), .int (i : Nat), .int (j : Nat)] ∧ d = txD (joinB (seg ws i j))
theorem sc44 : FnScope ["words", "first", "behind"] ["words", "first", "behind"] (defScope (topS 44)) := ⟨rfl, rfl, rfl, by decide +kernel, rfl, by decide +kernel, by decide +kernel⟩
theorem join_tx (ws : List (List Nat)) : PyData.str (Txt.join (Str.ofString " ") (ws.map txS)) = txD (joinB ws) := by
  rw [blankS]
  exact congrArg PyData.str (_root_.SX.join_S [32] ws)
theorem ok_line_of (T : Glo mg) (F : FnP K "line_of" (topS 44) f fd) : FnOk P w K mg base CX0 1 f fd ["words", "first", "behind"] (spP K R_line_of) := by
  refine fn_pure F sc44 (fun ds d ⟨_, _, _, _, _, _, e, _⟩ => by rw [e]; rfl) fun ds d hR => ?_
  obtain ⟨ws, i, j, hs, hi, hj, rfl, rfl⟩ := hR
  refine ⟨_, fin_rt, show BX _ _ _ [.dat (.list (ws.map txD)), .dat (.int (i : Nat)), .dat (.int (j : Nat))] _ from b_ret (s_ret (e_eq (e_join (zs := (seg ws i j).map txS) e_str (e_eq (e_slL (ds := ws.map txD) (i := some (i : Int)) (j := some (j : Int)) (e_var 0) (o_some (e_var 1)) (o_some (e_var 2))) (by rw [cutD_seg _ _ _ hi hj, strs_tx])) ?_) (join_tx _)))⟩
  rw [sum_len, List.length_map]
  have h1 := seg_sum ws i j
  have h2 : (seg ws i j).length ≤ ws.length := by rw [seg, List.length_take, List.length_drop]; omega
  have h3 : (Str.ofString " ").length = 1 := by decide
  rw [h3]
  omega
/-! ### room_of, need_wide -/
def R_room_of (ds : List PyData) (d : PyData) : Prop := ∃ (f : Face) (p : Prs) (t : List Nat) (n : Int), TOk f t ∧ ds = [faceD f, prsD p, txD t, .int n] ∧ d = .int (n - wideM f p t)
theorem sc45 : FnScope ["face", "pairs", "line", "number"] ["face", "pairs", "line", "number"] (defScope (topS 45)) := ⟨rfl, rfl, rfl, by decide +kernel, rfl, by decide +kernel, by decide +kernel⟩
theorem ok_room_of (T : Glo mg) (H1 : Hs P w K mg base "wide_in" 4 R_wide) (F : FnP K "room_of" (topS 45) f fd) : FnOk P w K mg base CX0 5 f fd ["face", "pairs", "line", "number"] (spP K R_room_of) := by
  refine fn_pure F sc45 (fun ds d ⟨_, _, _, _, _, e, _⟩ => by rw [e]; rfl) fun ds d hR => ?_
  obtain ⟨f, p, t, n, ht, rfl, rfl⟩ := hR
  exact ⟨_, fin_rt, show BX _ _ _ [.dat (faceD f), .dat (prsD p), .dat (txD t), .dat (.int n)] _ from b_ret (s_ret (e_sub (e_var 3) (e_call H1 (a_cons (e_var 0) (a_cons (e_var 1) (a_cons (e_var 2) a_nil))) ⟨f, p, t, ht, rfl, rfl⟩)))⟩
def R_need_wide (ds : List PyData) (d : PyData) : Prop := ∃ n : Int, 1 ≤ n ∧ n ≤ 999 ∧ ds = [.int n] ∧ d = .none
theorem sc46 : FnScope ["number"] ["number"] (defScope (topS 46)) := ⟨rfl, rfl, rfl, by decide +kernel, rfl, by decide +kernel, by decide +kernel⟩
theorem ok_need_wide (T : Glo mg) (H1 : Hs P w K mg base "is_from_to" 1 R_from_to) (F : FnP K "need_wide" (topS 46) f fd) : FnOk P w K mg base CX0 2 f fd ["number"] (spP K R_need_wide) := by
  refine fn_pure F sc46 (fun ds d ⟨_, _, _, e, _⟩ => by rw [e]; rfl) fun ds d hR => ?_
  obtain ⟨n, h1, h2, rfl, rfl⟩ := hR
  exact ⟨_, fin_nx, show BX _ _ _ [.dat (.int n)] _ from b_cons (s_ifF (t_is (t_not (t_val (e_call (d := .bool true) H1 (a_cons (e_var 0) (a_cons e_int (a_cons (e_gint rfl T.mwide) a_nil))) ⟨n, 1, 999, rfl, by simp [h1, h2]⟩))) rfl) b_nil) b_nil⟩
/-! ### need_words -/
def R_need_words (ds : List PyData) (d : PyData) : Prop := ∃ (f : Face) (p : Prs) (ws : List (List Nat)) (n : Int), Fit f p ws n ∧ (∀ c ∈ lets f, c ≠ 32) ∧ ds = [faceD f, prsD p, txD (joinB ws), .int n] ∧ d = .list (ws.map txD)
theorem sc47 : FnScope ["face", "pairs", "text", "number", "words", "word"] ["face", "pairs", "text", "number"] (defScope (topS 47)) := ⟨rfl, rfl, rfl, by decide +kernel, rfl, by decide +kernel, by decide +kernel⟩
theorem ok_need_words (T : Glo mg) (H1 : Hs P w K mg base "words_of" 5 R_words_of) (H2 : Hs P w K mg base "need_wide" 2 R_need_wide) (H3 : Hs P w K mg base "room_of" 5 R_room_of) (F : FnP K "need_words" (topS 47) f fd) : FnOk P w K mg base CX0 6 f fd ["face", "pairs", "text", "number"] (spP K R_need_words) := by
  refine fn_pure F sc47 (fun ds d ⟨_, _, _, _, _, _, e, _⟩ => by rw [e]; rfl) fun ds d hR => ?_
  obtain ⟨f, p, ws, n, hf, hb, rfl, rfl⟩ := hR
  refine ⟨_, fin_rt, show BX _ _ _ [.dat (faceD f), .dat (prsD p), .dat (txD (joinB ws)), .dat (.int n), .no, .no] _ from b_cons (s_set 4 sc47.nd (e_call H1 (a_cons (e_var 0) (a_cons (e_var 2) a_nil)) ⟨f, ws, hf.ok, hb, rfl, rfl⟩)) (b_cons (s_expr (e_call H2 (a_cons (e_var 3) a_nil) ⟨n, hf.n1, hf.n2, rfl, rfl⟩)) (b_cons (s_for (o := .nx [.dat (faceD f), .dat (prsD p), .dat (txD (joinB ws)), .dat (.int n), .dat (.list (ws.map txD)), .no]) (i_list (e_var 4)) ?_) (b_ret (s_ret (e_var 4)))))⟩
  refine lp_fold txD (fun s _ => s) (fun _ : Unit => [.dat (faceD f), .dat (prsD p), .dat (txD (joinB ws)), .dat (.int n), .dat (.list (ws.map txD)), .no]) ws () fun l1 x l2 e => ?_
  have hx : x ∈ ws := by rw [e]; simp
  exact ⟨[5], _, _, [5], g_name 5 sc47.nd, b_cons (s_ifF (t_is (t_lt (e_call (d := .int (n - wideM f p x)) H3 (a_cons (e_var 0) (a_cons (e_var 1) (a_cons (e_var 5) (a_cons (e_var 3) a_nil)))) ⟨f, p, x, n, hf.ok.word hx, rfl, rfl⟩) e_int) (decide_eq_false (by have := hf.fit x hx; omega))) b_nil) b_nil, rfl⟩
end
end Sg
namespace Sg
open PySem PySem.Spec PyProof.Rows L2
theorem txcat (a b : List Nat) : txS a ++ txS b = txS (a ++ b) := _root_.SX.S_cat a b
theorem app_len {f : Face} {ws l1 l2 : List (List Nat)} {x : List Nat} (h : WOk f ws) (e : ws = l1 ++ x :: l2) : (joinB (l1 ++ [x])).length ≤ 200 := by
  have h1 := joinB_len (ws := l1 ++ [x]) (by simp)
  have h2 := h.sum
  rw [e] at h2
  simp at h1 h2
  omega
theorem fill_tok {f : Face} {p : Prs} {n : Int} {ws l1 l2 : List (List Nat)} {x : List Nat} (h : WOk f ws) (e : ws = l1 ++ x :: l2) (hs : fillM f p n l1 ≠ []) : TOk f (lastL (fillM f p n l1) ++ 32 :: x) := by
  have hl1 : l1 ≠ [] := by intro z; subst z; exact hs rfl
  have ej : joinB ((fillM f p n l1).set ((fillM f p n l1).length - 1) (lastL (fillM f p n l1) ++ 32 :: x)) = joinB (l1 ++ [x]) := by
    rw [join_set hs, fillM_join, joinB_snoc hl1]
  refine ⟨?_, fun c hc => ?_⟩
  · have hm : (lastL (fillM f p n l1) ++ 32 :: x) ∈ (fillM f p n l1).set ((fillM f p n l1).length - 1) (lastL (fillM f p n l1) ++ 32 :: x) := by
      obtain ⟨l0, _, e2⟩ := set_last hs (lastL (fillM f p n l1) ++ 32 :: x)
      rw [e2]; simp
    have h1 := part_len hm
    rw [ej] at h1
    exact Nat.le_trans h1 (app_len h e)
  · rcases List.mem_append.mp hc with z | z
    · have h1 := mem_joinB (lastL_mem hs) z
      rw [fillM_join] at h1
      rcases joinB_mem h1 with q | ⟨v, hv, q⟩
      · exact .inl q
      · exact .inr ((h.wd v (by rw [e]; simp [hv])).2 c q)
    · rcases List.mem_cons.mp z with q | q
      · exact .inl q
      · exact .inr ((h.wd x (by rw [e]; simp)).2 c q)
theorem fill_len {f : Face} {p : Prs} {n : Int} {ws l1 l2 : List (List Nat)} {x : List Nat} (h : WOk f ws) (e : ws = l1 ++ x :: l2) : (fillM f p n l1).length ≤ 201 := by
  by_cases hs : fillM f p n l1 = []
  · rw [hs]; simp
  · have h1 := joinB_len hs
    rw [fillM_join] at h1
    have hl1 : l1 ≠ [] := by intro z; subst z; exact hs rfl
    have h2 := joinB_len hl1
    have h3 := h.sum
    rw [e] at h3
    simp at h3
    omega
theorem last_ix {ls : List (List Nat)} (h : ls ≠ []) : atI (ls.map txD) (-1) = some (txD (lastL ls)) := by
  have hp := List.length_pos_iff.mpr h
  rw [atI_last _ (by simpa using h), List.length_map, List.getElem?_map, lastL, List.getD_eq_getElem?_getD, List.getElem?_eq_getElem (by omega)]
  rfl
theorem ixN_last {n : Nat} (h : 0 < n) : ixN n (-1) = some (n - 1) := by
  simp [ixN]; omega
theorem rng_nat (lo n : Nat) : rng (lo : Int) n = (List.range n).map fun k => PyData.int ((lo + k : Nat) : Int) := by
  rw [rng]
  exact List.map_congr_left fun k _ => by congr 1
section
variable {P : Program} {w : World} {K : PySem.W.Frag} {mg : Str → Option Value} {base : Heap} {f : Addr} {fd : FuncData}
/-! ### filled -/
def R_filled (ds : List PyData) (d : PyData) : Prop := ∃ (f : Face) (p : Prs) (ws : List (List Nat)) (n : Int), Fit f p ws n ∧ (∀ c ∈ lets f, c ≠ 32) ∧ ds = [faceD f, prsD p, txD (joinB ws), .int n] ∧ d = .tuple ((fillM f p n ws).map txD)
theorem sc48 : FnScope ["face", "pairs", "text", "number", "words", "lines", "word"] ["face", "pairs", "text", "number"] (defScope (topS 48)) := ⟨rfl, rfl, rfl, by decide +kernel, rfl, by decide +kernel, by decide +kernel⟩
theorem ok_filled (T : Glo mg) (H1 : Hs P w K mg base "need_words" 6 R_need_words) (H2 : Hs P w K mg base "room_of" 5 R_room_of) (F : FnP K "filled" (topS 48) f fd) : FnOk P w K mg base CX0 7 f fd ["face", "pairs", "text", "number"] (spP K R_filled) := by
  refine fn_pure F sc48 (fun ds d ⟨_, _, _, _, _, _, e, _⟩ => by rw [e]; rfl) fun ds d hR => ?_
  obtain ⟨f, p, ws, n, hf, hb, rfl, rfl⟩ := hR
  refine ⟨.rt (.tuple ((fillM f p n ws).map txD)) (List.replicate 7 .no), fin_rt, show BX _ _ _ [.dat (faceD f), .dat (prsD p), .dat (txD (joinB ws)), .dat (.int n), .no, .no, .no] _ from b_cons (s_set 4 sc48.nd (e_call H1 (a_cons (e_var 0) (a_cons (e_var 1) (a_cons (e_var 2) (a_cons (e_var 3) a_nil)))) ⟨f, p, ws, n, hf, hb, rfl, rfl⟩)) (b_new 5 sc48.nd (el_lst a_nil) fun q _ => b_rt0 (b_cons (s_for (o := .nx [.dat (faceD f), .dat (prsD p), .dat (txD (joinB ws)), .dat (.int n), .dat (.list (ws.map txD)), .mut q ((fillM f p n ws).map txD), .no]) (i_list (e_var 4)) ?_) (b_ret (s_ret (e_tupleM 5 T.tuple)))))⟩
  refine lp_fold txD (fillS f p n) (fun s => [.dat (faceD f), .dat (prsD p), .dat (txD (joinB ws)), .dat (.int n), .dat (.list (ws.map txD)), .mut q (s.map txD), .no]) ws [] fun l1 x l2 e => ?_
  have hz : (PyData.list ((fillM f p n l1).map txD)).depth ≤ 60 := Nat.le_trans (z_lst z_tx _) (by decide)
  have hl : ((fillM f p n l1).map txD).length ≤ 1000 := by rw [List.length_map]; have := fill_len (p := p) (n := n) hf.ok e; omega
  show ∃ is ds ρ2 is2, GX _ _ (txD x) is ds ∧ BX _ _ _ (setD [.dat (faceD f), .dat (prsD p), .dat (txD (joinB ws)), .dat (.int n), .dat (.list (ws.map txD)), .mut q ((fillM f p n l1).map txD), .no] is ds) (.nx ρ2) ∧ fg is2 ρ2 = [.dat (faceD f), .dat (prsD p), .dat (txD (joinB ws)), .dat (.int n), .dat (.list (ws.map txD)), .mut q ((fillS f p n (fillM f p n l1) x).map txD), .no]
  have app : ∀ (hn : ¬ (fillM f p n l1 ≠ [] ∧ 0 ≤ n - wideM f p (lastL (fillM f p n l1) ++ 32 :: x))), (fillM f p n l1).map txD ++ [txD x] = (fillS f p n (fillM f p n l1) x).map txD := fun hn => by rw [fillS, if_neg hn, List.map_append]; rfl
  by_cases hs : fillM f p n l1 = []
  · refine ⟨[6], _, _, [6], g_name 6 sc48.nd, b_cons (s_ifF (t_w (w_andF (t_is (t_neM 5 (e_lst a_nil) hz) ?_))) (b_cons (s_append 5 (e_var 6) rfl rfl (by exact hl)) b_nil)) b_nil, ?_⟩
    · rw [hs]; rfl
    · rw [← app (fun z => z.1 hs)]; rfl
  · have htk := fill_tok (p := p) (n := n) hf.ok e hs
    have hne : (!PyData.eqv (.list ((fillM f p n l1).map txD)) (.list [])) = true := by
      rw [show ([] : List PyData) = ([] : List (List Nat)).map txD from rfl, q_lst q_tx]
      simp [hs]
    have e3 : PyData.str (txS (lastL (fillM f p n l1)) ++ Str.ofString " " ++ txS x) = txD (lastL (fillM f p n l1) ++ 32 :: x) := by
      rw [blankS, txcat, txcat, txD]; simp
    have z1 : (txS (lastL (fillM f p n l1))).length + (Str.ofString " ").length ≤ sizeLine := by
      have h3 : (Str.ofString " ").length = 1 := by decide
      have := htk.1
      rw [h3, txS_len]
      simp at this
      exact Nat.le_trans (show _ ≤ 300 by omega) (by decide)
    have z2 : (txS (lastL (fillM f p n l1)) ++ Str.ofString " ").length + (txS x).length ≤ sizeLine := by
      rw [blankS, txcat, txS_len, txS_len]
      have := htk.1
      simp at this ⊢
      exact Nat.le_trans (show _ ≤ 300 by omega) (by decide)
    by_cases hr : 0 ≤ n - wideM f p (lastL (fillM f p n l1) ++ 32 :: x)
    · refine ⟨[6], _, _, [6], g_name 6 sc48.nd, b_cons (s_ifT (t_w (w_andT (t_is (t_neM 5 (e_lst a_nil) hz) hne) (w_and1 (t_is (t_ge (e_call (d := .int (n - wideM f p (lastL (fillM f p n l1) ++ 32 :: x))) H2 (a_cons (e_var 0) (a_cons (e_var 1) (a_cons (e_eq (e_addS (e_addS (e_ixM 5 (i := -1) (e_neg e_int) rfl rfl (last_ix hs)) e_str z1) (e_var 6) z2) e3) (a_cons (e_var 3) a_nil)))) ⟨f, p, _, n, htk, rfl, rfl⟩) e_int) (decide_eq_true hr))))) (b_cons (s_setM 5 (kk := -1) (e_eq (e_addS (e_addS (e_ixM 5 (i := -1) (e_neg e_int) rfl rfl (last_ix hs)) e_str z1) (e_var 6) z2) e3) (e_neg e_int) rfl rfl (ixN_last (by rw [List.length_map]; exact List.length_pos_iff.mpr hs))) b_nil)) b_nil, ?_⟩
      rw [fillS, if_pos ⟨hs, hr⟩, List.map_set, List.length_map]; rfl
    · refine ⟨[6], _, _, [6], g_name 6 sc48.nd, b_cons (s_ifF (t_w (w_andT (t_is (t_neM 5 (e_lst a_nil) hz) hne) (w_and1 (t_is (t_ge (e_call (d := .int (n - wideM f p (lastL (fillM f p n l1) ++ 32 :: x))) H2 (a_cons (e_var 0) (a_cons (e_var 1) (a_cons (e_eq (e_addS (e_addS (e_ixM 5 (i := -1) (e_neg e_int) rfl rfl (last_ix hs)) e_str z1) (e_var 6) z2) e3) (a_cons (e_var 3) a_nil)))) ⟨f, p, _, n, htk, rfl, rfl⟩) e_int) (decide_eq_false hr))))) (b_cons (s_append 5 (e_var 6) rfl rfl (by exact hl)) b_nil)) b_nil, ?_⟩
      rw [← app (fun z => hr z.2)]; rfl
/-! ### cost_in -/
def R_cost (ds : List PyData) (d : PyData) : Prop := ∃ (f : Face) (p : Prs) (ws : List (List Nat)) (n : Int) (i j : Nat), Fit f p ws n ∧ i < j ∧ j ≤ ws.length ∧ ds = [faceD f, prsD p, .list (ws.map txD), .tuple [.int (i : Nat), .int (j : Nat)], .int n] ∧ d = optI (costM f p ws n i j)
theorem sc49 : FnScope ["face", "pairs", "words", "ends", "number", "room"] ["face", "pairs", "words", "ends", "number"] (defScope (topS 49)) := ⟨rfl, rfl, rfl, by decide +kernel, rfl, by decide +kernel, by decide +kernel⟩
theorem ok_cost_in (T : Glo mg) (H1 : Hs P w K mg base "room_of" 5 R_room_of) (H2 : Hs P w K mg base "line_of" 1 R_line_of) (F : FnP K "cost_in" (topS 49) f fd) : FnOk P w K mg base CX0 6 f fd ["face", "pairs", "words", "ends", "number"] (spP K R_cost) := by
  refine fn_pure F sc49 (fun ds d ⟨_, _, _, _, _, _, _, _, _, e, _⟩ => by rw [e]; rfl) fun ds d hR => ?_
  obtain ⟨f, p, ws, n, i, j, hf, hi, hj, rfl, rfl⟩ := hR
  have hso := seg_ok hf.ok hi hj
  have first : ∀ (st : Stmt) (rest : List Stmt), True := fun _ _ => trivial
  by_cases h1 : n - wideM f p (joinB (seg ws i j)) < 0
  · exact ⟨.rt .none _, fin_rt_of (by rw [costM, if_pos h1]; rfl), show BX _ _ _ [.dat (faceD f), .dat (prsD p), .dat (.list (ws.map txD)), .dat (.tuple [.int (i : Nat), .int (j : Nat)]), .dat (.int n), .no] _ from b_cons (s_set 5 sc49.nd (e_call (d := .int (n - wideM f p (joinB (seg ws i j)))) H1 (a_cons (e_var 0) (a_cons (e_var 1) (a_cons (e_call (d := txD (joinB (seg ws i j))) H2 (a_cons (e_var 2) (a_cons (e_ixT (ds := [.int (i : Nat), .int (j : Nat)]) (e_var 3) e_int rfl) (a_cons (e_ixT (ds := [.int (i : Nat), .int (j : Nat)]) (e_var 3) e_int rfl) a_nil))) ⟨ws, i, j, hf.ok.sum, by omega, hj, rfl, rfl⟩) (a_cons (e_var 4) a_nil)))) ⟨f, p, _, n, hso.tx, rfl, rfl⟩)) (b_ret (s_ifT (t_is (t_lt (e_var 5) e_int) (decide_eq_true h1)) (b_ret (s_ret e_non))))⟩
  · by_cases h2 : j = ws.length
    · exact ⟨.rt (.int 0) _, fin_rt_of (by rw [costM, if_neg h1, if_pos h2]; rfl), show BX _ _ _ [.dat (faceD f), .dat (prsD p), .dat (.list (ws.map txD)), .dat (.tuple [.int (i : Nat), .int (j : Nat)]), .dat (.int n), .no] _ from b_cons (s_set 5 sc49.nd (e_call (d := .int (n - wideM f p (joinB (seg ws i j)))) H1 (a_cons (e_var 0) (a_cons (e_var 1) (a_cons (e_call (d := txD (joinB (seg ws i j))) H2 (a_cons (e_var 2) (a_cons (e_ixT (ds := [.int (i : Nat), .int (j : Nat)]) (e_var 3) e_int rfl) (a_cons (e_ixT (ds := [.int (i : Nat), .int (j : Nat)]) (e_var 3) e_int rfl) a_nil))) ⟨ws, i, j, hf.ok.sum, by omega, hj, rfl, rfl⟩) (a_cons (e_var 4) a_nil)))) ⟨f, p, _, n, hso.tx, rfl, rfl⟩)) (b_cons (s_ifF (t_is (t_lt (e_var 5) e_int) (decide_eq_false h1)) b_nil) (b_ret (s_ifT (t_is (t_eqP (e_ixT (ds := [.int (i : Nat), .int (j : Nat)]) (e_var 3) e_int rfl) (e_lenL (xs := ws.map txD) T.len (e_var 2)) (Nat.zero_le _)) (by rw [q_int, List.length_map]; simp [h2])) (b_ret (s_ret e_int)))))⟩
    · exact ⟨.rt (.int ((n - wideM f p (joinB (seg ws i j))) * (n - wideM f p (joinB (seg ws i j))))) _, fin_rt_of (by rw [costM, if_neg h1, if_neg h2]; rfl), show BX _ _ _ [.dat (faceD f), .dat (prsD p), .dat (.list (ws.map txD)), .dat (.tuple [.int (i : Nat), .int (j : Nat)]), .dat (.int n), .no] _ from b_cons (s_set 5 sc49.nd (e_call (d := .int (n - wideM f p (joinB (seg ws i j)))) H1 (a_cons (e_var 0) (a_cons (e_var 1) (a_cons (e_call (d := txD (joinB (seg ws i j))) H2 (a_cons (e_var 2) (a_cons (e_ixT (ds := [.int (i : Nat), .int (j : Nat)]) (e_var 3) e_int rfl) (a_cons (e_ixT (ds := [.int (i : Nat), .int (j : Nat)]) (e_var 3) e_int rfl) a_nil))) ⟨ws, i, j, hf.ok.sum, by omega, hj, rfl, rfl⟩) (a_cons (e_var 4) a_nil)))) ⟨f, p, _, n, hso.tx, rfl, rfl⟩)) (b_cons (s_ifF (t_is (t_lt (e_var 5) e_int) (decide_eq_false h1)) b_nil) (b_cons (s_ifF (t_is (t_eqP (e_ixT (ds := [.int (i : Nat), .int (j : Nat)]) (e_var 3) e_int rfl) (e_lenL (xs := ws.map txD) T.len (e_var 2)) (Nat.zero_le _)) (by rw [q_int, List.length_map]; simp [h2]; omega)) b_nil) (b_ret (s_ret (e_mul (e_var 5) (e_var 5) (.inl ⟨by omega, by have := wideM_ge hf.g hso.tx.1; have := hf.n2; omega⟩))))))⟩
end
end Sg
namespace Sg
open PySem PySem.Spec PyProof.Rows L2
theorem rng_rev (n : Nat) : (rng 0 n).reverse = (List.range n).map fun k => PyData.int ((n - 1 - k : Nat) : Int) := by
  refine List.ext_getElem? fun i => ?_
  by_cases hi : i < n
  · rw [List.getElem?_reverse (by rw [rng_len]; exact hi), rng_len, rng_get (by omega), List.getElem?_map, List.getElem?_range hi]
    simp
  · rw [List.getElem?_eq_none (by rw [List.length_reverse, rng_len]; omega), List.getElem?_eq_none (by simp; omega)]
theorem ps_ix {ps : List Int} {k : Nat} {i : Int} (e : i = (k : Int)) (h : k < ps.length) : atI (ps.map PyData.int) i = some (.int (ps.getD k 0)) := by
  subst e
  rw [atI_nat _ _ (by rw [List.length_map]; exact h), List.getElem?_map, List.getD_eq_getElem?_getD, List.getElem?_eq_getElem h]
  rfl
theorem i_as {G : Gam} {tg it : Expr} {ρ ρ1 : List Sl} {xs ys : List PyData} (h : IX G tg it ρ xs ρ1) (e : xs = ys) : IX G tg it ρ ys ρ1 := e ▸ h
/-- a while by its turns -/
theorem wl_gen {G : Gam} {m : Addr → Prop} {c : Expr} {body : List Stmt} {α : Type} (ρ : α → List Sl) (ok : Nat → α → Prop) (o : Nat → α → Out) (h : ∀ k s, ok k s → (TX G c (ρ s) false (ρ s) ∧ o k s = .nx (ρ s)) ∨ ∃ j ρ1 ρ2 s' is2, k = j + 1 ∧ TX G c (ρ s) true ρ1 ∧ BX G m body ρ1 (.nx ρ2) ∧ fg is2 ρ2 = ρ s' ∧ ok j s' ∧ o j s' = o k s) : ∀ k s, ok k s → Wl G m c body k (ρ s) (o k s) := by
  intro k
  induction k with
  | zero =>
    intro s hs
    rcases h 0 s hs with ⟨h1, h2⟩ | ⟨j, _, _, _, _, e, _⟩
    · rw [h2]; exact .stop h1
    · omega
  | succ k ih =>
    intro s hs
    rcases h (k + 1) s hs with ⟨h1, h2⟩ | ⟨j, ρ1, ρ2, s', is2, e, h1, h2, h3, h4, h5⟩
    · rw [h2]; exact .stop h1
    · have : j = k := by omega
      subst this
      rw [← h5]
      refine .step is2 h1 h2 ?_
      rw [h3]
      exact ih s' h4
section
variable {P : Program} {w : World} {K : PySem.W.Frag} {mg : Str → Option Value} {base : Heap} {f : Addr} {fd : FuncData}
/-! ### prices_of -/
def R_prices (ds : List PyData) (d : PyData) : Prop := ∃ (f : Face) (p : Prs) (ws : List (List Nat)) (n : Int), Fit f p ws n ∧ ds = [faceD f, prsD p, .list (ws.map txD), .int n] ∧ d = .list ((pricesM f p ws n ws.length).map .int)
theorem sc50 : FnScope ["face", "pairs", "words", "number", "prices", "first", "best", "behind", "cost"] ["face", "pairs", "words", "number"] (defScope (topS 50)) := ⟨rfl, rfl, rfl, by decide +kernel, rfl, by decide +kernel, by decide +kernel⟩
theorem ok_prices_of (T : Glo mg) (H1 : Hs P w K mg base "cost_in" 6 R_cost) (F : FnP K "prices_of" (topS 50) f fd) : FnOk P w K mg base CX0 7 f fd ["face", "pairs", "words", "number"] (spP K R_prices) := by
  refine fn_pure F sc50 (fun ds d ⟨_, _, _, _, _, e, _⟩ => by rw [e]; rfl) fun ds d hR => ?_
  obtain ⟨f, p, ws, n, hf, rfl, rfl⟩ := hR
  have hlen : ((ws.map txD).length : Int) = (ws.length : Int) := by rw [List.length_map]
  have h50 := hf.ok.len
  refine ⟨.rt (.list ((pricesM f p ws n ws.length).map .int)) (List.replicate 9 .no), fin_rt, show BX _ _ _ [.dat (faceD f), .dat (prsD p), .dat (.list (ws.map txD)), .dat (.int n), .no, .no, .no, .no, .no] _ from b_new 4 sc50.nd (el_lst (a_cons e_int a_nil)) fun q hq => b_rt0 (b_cons (s_for (o := .nx [.dat (faceD f), .dat (prsD p), .dat (.list (ws.map txD)), .dat (.int n), .mut q ((pricesM f p ws n ws.length).map .int), .no, .no, .no, .no]) (items := (List.range ws.length).map fun k => .int ((ws.length - 1 - k : Nat) : Int)) (i_as (i_rrange1 (j := ((ws.map txD).length : Int)) T.range T.rev (e_lenL T.len (e_var 2)) (by rw [hlen]; omega) (by rw [hlen]; omega)) ?_) ?_) (b_freeze 4 rfl hq (b_ret (s_ret (e_var 4)))))⟩
  · rw [Int.toNat_natCast, List.length_map, rng_rev]
  · refine lp_idx (fun k => .int ((ws.length - 1 - k : Nat) : Int)) (fun k => [.dat (faceD f), .dat (prsD p), .dat (.list (ws.map txD)), .dat (.int n), .mut q ((pricesM f p ws n k).map .int), .no, .no, .no, .no]) ws.length fun k hk => ?_
    have e1 : ws.length - 1 - k = ws.length - (k + 1) := by omega
    have hfi : ws.length - (k + 1) < ws.length := by omega
    obtain ⟨y, hy⟩ := best_some hf hfi (pricesM f p ws n k)
    rw [e1]
    generalize hps : pricesM f p ws n k = ps at *
    have hpl : ps.length = k + 1 := by rw [← hps]; exact prices_len f p ws n k
    generalize hfe : ws.length - (k + 1) = fi at *
    refine ⟨[5], _, _, [5, 6, 7, 8], g_name 5 sc50.nd, b_cons (s_set 6 sc50.nd e_non) (b_cons (s_for (o := .nx [.dat (faceD f), .dat (prsD p), .dat (.list (ws.map txD)), .dat (.int n), .mut q (ps.map .int), .dat (.int (fi : Nat)), .dat (optI (bestM f p ws n fi ps)), .no, .no]) (items := (List.range (ws.length - fi)).map fun j => .int ((fi + 1 + j : Nat) : Int)) (i_as (i_range2 (i := (fi : Int) + 1) (j := ((ws.map txD).length : Int) + 1) T.range (e_add (e_var 5) e_int) (e_add (e_lenL T.len (e_var 2)) e_int) ⟨by omega, by omega, by rw [hlen]; omega, by rw [hlen]; omega⟩) ?_) ?_) (b_cons (s_insert0 4 (e_var 6) rfl rfl (by rw [List.length_map]; omega)) b_nil)), ?_⟩
    · rw [hlen, show ((ws.length : Int) + 1 - ((fi : Int) + 1)).toNat = ws.length - fi by omega, show ((fi : Int) + 1) = ((fi + 1 : Nat) : Int) by omega, rng_nat]
    · refine lp_fold (fun j : Nat => .int ((fi + 1 + j : Nat) : Int)) (bestS f p ws n fi ps) (fun b => [.dat (faceD f), .dat (prsD p), .dat (.list (ws.map txD)), .dat (.int n), .mut q (ps.map .int), .dat (.int (fi : Nat)), .dat (optI b), .no, .no]) (List.range (ws.length - fi)) none fun l1 j l2 e => ?_
      have hj : j < ws.length - fi := List.mem_range.mp (by rw [e]; simp)
      generalize l1.foldl (bestS f p ws n fi ps) none = b
      have cst : ∀ {c : Option Int}, costM f p ws n fi (fi + 1 + j) = c → R_cost [faceD f, prsD p, .list (ws.map txD), .tuple [.int (fi : Nat), .int ((fi + 1 + j : Nat) : Int)], .int n] (optI c) := fun {c} hc => ⟨f, p, ws, n, fi, fi + 1 + j, hf, by omega, by omega, rfl, by rw [hc]⟩
      have hix : atI (ps.map PyData.int) (((fi + 1 + j : Nat) : Int) - (fi : Int) - 1) = some (.int (ps.getD j 0)) := ps_ix (by omega) (by omega)
      cases hc : costM f p ws n fi (fi + 1 + j) with
      | none =>
        have eb : bestS f p ws n fi ps b j = b := by rw [bestS, hc]
        rw [eb]
        exact ⟨[7], _, _, [7, 8], g_name 7 sc50.nd, b_cons (s_set 8 sc50.nd (e_call (d := .none) H1 (a_cons (e_var 0) (a_cons (e_var 1) (a_cons (e_var 2) (a_cons (e_tup (a_cons (e_var 5) (a_cons (e_var 7) a_nil))) (a_cons (e_var 3) a_nil))))) (cst hc))) (b_cons (s_ifF (t_w (w_andF (t_is (t_notN (e_var 8)) rfl))) b_nil) b_nil), rfl⟩
      | some c =>
        cases b with
        | none =>
          have eb : bestS f p ws n fi ps none j = some (c + ps.getD j 0) := by rw [bestS, hc]
          rw [eb]
          exact ⟨[7], _, _, [7, 8], g_name 7 sc50.nd, b_cons (s_set 8 sc50.nd (e_call (d := .int c) H1 (a_cons (e_var 0) (a_cons (e_var 1) (a_cons (e_var 2) (a_cons (e_tup (a_cons (e_var 5) (a_cons (e_var 7) a_nil))) (a_cons (e_var 3) a_nil))))) (cst hc))) (b_cons (s_ifT (t_w (w_andT (t_is (t_notN (e_var 8)) rfl) (w_and1 (t_w (w_orT (t_is (t_isN (e_var 6)) rfl)))))) (b_cons (s_set 6 sc50.nd (e_add (i := c) (j := ps.getD j 0) (e_var 8) (e_ixM 4 (e_sub (e_sub (e_var 7) (e_var 5)) e_int) rfl rfl hix))) b_nil)) b_nil), rfl⟩
        | some x =>
          by_cases hx : c + ps.getD j 0 < x
          · have eb : bestS f p ws n fi ps (some x) j = some (c + ps.getD j 0) := by rw [bestS, hc]; exact if_pos hx
            rw [eb]
            exact ⟨[7], _, _, [7, 8], g_name 7 sc50.nd, b_cons (s_set 8 sc50.nd (e_call (d := .int c) H1 (a_cons (e_var 0) (a_cons (e_var 1) (a_cons (e_var 2) (a_cons (e_tup (a_cons (e_var 5) (a_cons (e_var 7) a_nil))) (a_cons (e_var 3) a_nil))))) (cst hc))) (b_cons (s_ifT (t_w (w_andT (t_is (t_notN (e_var 8)) rfl) (w_and1 (t_w (w_orF (t_is (t_isN (d := .int x) (e_var 6)) rfl) (w_or1 (t_is (t_lt (e_add (i := c) (j := ps.getD j 0) (e_var 8) (e_ixM 4 (e_sub (e_sub (e_var 7) (e_var 5)) e_int) rfl rfl hix)) (e_var 6)) (decide_eq_true hx)))))))) (b_cons (s_set 6 sc50.nd (e_add (i := c) (j := ps.getD j 0) (e_var 8) (e_ixM 4 (e_sub (e_sub (e_var 7) (e_var 5)) e_int) rfl rfl hix))) b_nil)) b_nil), rfl⟩
          · have eb : bestS f p ws n fi ps (some x) j = some x := by rw [bestS, hc]; exact if_neg hx
            rw [eb]
            exact ⟨[7], _, _, [7, 8], g_name 7 sc50.nd, b_cons (s_set 8 sc50.nd (e_call (d := .int c) H1 (a_cons (e_var 0) (a_cons (e_var 1) (a_cons (e_var 2) (a_cons (e_tup (a_cons (e_var 5) (a_cons (e_var 7) a_nil))) (a_cons (e_var 3) a_nil))))) (cst hc))) (b_cons (s_ifF (t_w (w_andT (t_is (t_notN (e_var 8)) rfl) (w_and1 (t_w (w_orF (t_is (t_isN (d := .int x) (e_var 6)) rfl) (w_or1 (t_is (t_lt (e_add (i := c) (j := ps.getD j 0) (e_var 8) (e_ixM 4 (e_sub (e_sub (e_var 7) (e_var 5)) e_int) rfl rfl hix)) (e_var 6)) (decide_eq_false hx)))))))) b_nil) b_nil), rfl⟩
    · have eq : pricesM f p ws n (k + 1) = y :: ps := by
        rw [pricesM, hps, hfe, hy]; rfl
      rw [eq, hy]; rfl
/-! ### evened -/
theorem rng_downs (first len : Nat) : (rng ((first : Int) + 1) (len - first)).reverse = (downs first len).map fun b => PyData.int (b : Nat) := by
  rw [show ((first : Int) + 1) = ((first + 1 : Nat) : Int) by omega, rng_nat, downs, List.map_map, ← List.map_reverse]
  rfl
theorem sc51 : FnScope ["face", "pairs", "text", "number", "words", "prices", "lines", "first", "behind", "cost"] ["face", "pairs", "text", "number"] (defScope (topS 51)) := ⟨rfl, rfl, rfl, by decide +kernel, rfl, by decide +kernel, by decide +kernel⟩
def R_evened (ds : List PyData) (d : PyData) : Prop := ∃ (f : Face) (p : Prs) (ws : List (List Nat)) (n : Int), Fit f p ws n ∧ (∀ c ∈ lets f, c ≠ 32) ∧ ds = [faceD f, prsD p, txD (joinB ws), .int n] ∧ d = .tuple ((evenedM f p ws n).map txD)
theorem ev_len (f : Face) (p : Prs) (ws : List (List Nat)) (n : Int) (ps : List Int) : ∀ (m first : Nat), (evM f p ws n ps m first).length ≤ m
  | 0, _ => by simp [evM]
  | m + 1, first => by
    rw [evM]; split
    · have := ev_len f p ws n ps m (evB f p ws n ps first)
      simp; omega
    · simp
theorem ok_evened (T : Glo mg) (H1 : Hs P w K mg base "need_words" 6 R_need_words) (H2 : Hs P w K mg base "prices_of" 7 R_prices) (H3 : Hs P w K mg base "cost_in" 6 R_cost) (H4 : Hs P w K mg base "line_of" 1 R_line_of) (F : FnP K "evened" (topS 51) f fd) : FnOk P w K mg base CX0 8 f fd ["face", "pairs", "text", "number"] (spP K R_evened) := by
  refine fn_pure F sc51 (fun ds d ⟨_, _, _, _, _, _, e, _⟩ => by rw [e]; rfl) fun ds d hR => ?_
  obtain ⟨f, p, ws, n, hf, hb, rfl, rfl⟩ := hR
  have hlen : ((ws.map txD).length : Int) = (ws.length : Int) := by rw [List.length_map]
  have h50 := hf.ok.len
  have hpl : (pricesM f p ws n ws.length).length = ws.length + 1 := prices_len f p ws n ws.length
  refine ⟨.rt (.tuple ((evenedM f p ws n).map txD)) (List.replicate 10 .no), fin_rt, show BX _ _ _ [.dat (faceD f), .dat (prsD p), .dat (txD (joinB ws)), .dat (.int n), .no, .no, .no, .no, .no, .no] _ from
    b_cons (s_set 4 sc51.nd (e_call H1 (a_cons (e_var 0) (a_cons (e_var 1) (a_cons (e_var 2) (a_cons (e_var 3) a_nil)))) ⟨f, p, ws, n, hf, hb, rfl, rfl⟩))
    (b_cons (s_set 5 sc51.nd (e_call H2 (a_cons (e_var 0) (a_cons (e_var 1) (a_cons (e_var 4) (a_cons (e_var 3) a_nil)))) ⟨f, p, ws, n, hf, rfl, rfl⟩))
    (b_new 6 sc51.nd (el_lst a_nil) fun q _ => b_cons (s_set 7 sc51.nd e_int) (b_rt0 (b_cons (s_while (n := ws.length) (o := .nx [.dat (faceD f), .dat (prsD p), .dat (txD (joinB ws)), .dat (.int n), .dat (.list (ws.map txD)), .dat (.list ((pricesM f p ws n ws.length).map .int)), .mut q ((evenedM f p ws n).map txD), .dat (.int (ws.length : Nat)), .no, .no]) ?_) (b_ret (s_ret (e_tupleM 6 T.tuple)))))))⟩
  rw [evenedM]
  generalize hps : pricesM f p ws n ws.length = ps at *
  refine wl_gen (fun s : Nat × List (List Nat) => [.dat (faceD f), .dat (prsD p), .dat (txD (joinB ws)), .dat (.int n), .dat (.list (ws.map txD)), .dat (.list (ps.map .int)), .mut q (s.2.map txD), .dat (.int (s.1 : Nat)), .no, .no]) (fun m s => ws.length - s.1 ≤ m ∧ s.1 ≤ ws.length ∧ s.2.length + m ≤ 100)
    (fun m s => .nx [.dat (faceD f), .dat (prsD p), .dat (txD (joinB ws)), .dat (.int n), .dat (.list (ws.map txD)), .dat (.list (ps.map .int)), .mut q ((s.2 ++ evM f p ws n ps m s.1).map txD), .dat (.int (ws.length : Nat)), .no, .no]) ?_ ws.length (0, []) ⟨Nat.le_refl _, Nat.zero_le _, by simp; omega⟩
  rintro m ⟨first, acc⟩ ⟨h1, h2, h3⟩
  simp only at h1 h2 h3
  by_cases hfi : first < ws.length
  · right
    obtain ⟨m, rfl⟩ : ∃ j, m = j + 1 := ⟨m - 1, by omega⟩
    have hbm := evB_mem (f := f) (p := p) (n := n) (ps := ps) hfi
    refine ⟨m, _, _, (evB f p ws n ps first, acc ++ [joinB (seg ws first (evB f p ws n ps first))]), [8, 9], rfl, t_is (t_lt (e_var 7) (e_lenL (xs := ws.map txD) T.len (e_var 4))) (decide_eq_true (by rw [hlen]; omega)), b_cons (s_for (o := .nx [.dat (faceD f), .dat (prsD p), .dat (txD (joinB ws)), .dat (.int n), .dat (.list (ws.map txD)), .dat (.list (ps.map .int)), .mut q (acc.map txD), .dat (.int (first : Nat)), .dat (.int (evB f p ws n ps first : Nat)), .no]) (items := (downs first ws.length).map fun b => .int (b : Nat)) (i_as (i_rrange2 (i := (first : Int) + 1) (j := ((ws.map txD).length : Int) + 1) T.range T.rev (e_add (e_var 7) e_int) (e_add (e_lenL T.len (e_var 4)) e_int) ⟨by omega, by omega, by rw [hlen]; omega, by rw [hlen]; omega⟩) ?_) ?_) (b_cons (s_append 6 (e_call (d := txD (joinB (seg ws first (evB f p ws n ps first)))) H4 (a_cons (e_var 4) (a_cons (e_var 7) (a_cons (e_var 8) a_nil))) ⟨ws, first, _, hf.ok.sum, h2, hbm.2, rfl, rfl⟩) rfl rfl (by rw [List.length_map]; omega)) (b_cons (s_set 7 sc51.nd (e_var 8)) b_nil)), ?_, ⟨by simp only; omega, hbm.2, by simp; omega⟩, ?_⟩
    · rw [hlen, show ((ws.length : Int) + 1 - ((first : Int) + 1)).toNat = ws.length - first by omega, rng_downs]
    · refine lp_brk (fun b => .int (b : Nat)) (evP f p ws n ps first) (fun ρ => ∃ x, ρ = [.dat (faceD f), .dat (prsD p), .dat (txD (joinB ws)), .dat (.int n), .dat (.list (ws.map txD)), .dat (.list (ps.map .int)), .mut q (acc.map txD), .dat (.int (first : Nat)), x, .no]) (fun b => [.dat (faceD f), .dat (prsD p), .dat (txD (joinB ws)), .dat (.int n), .dat (.list (ws.map txD)), .dat (.list (ps.map .int)), .mut q (acc.map txD), .dat (.int (first : Nat)), .dat (.int (b : Nat)), .no]) [9] (fun b => ⟨_, rfl⟩) (downs first ws.length) (downs_ne hfi) ?_ _ ⟨_, rfl⟩
      rintro b hbd ρ ⟨x, rfl⟩
      obtain ⟨hb1, hb2⟩ := downs_mem hbd
      have cst : ∀ {c : Option Int}, costM f p ws n first b = c → R_cost [faceD f, prsD p, .list (ws.map txD), .tuple [.int (first : Nat), .int (b : Nat)], .int n] (optI c) := fun {c} hc => ⟨f, p, ws, n, first, b, hf, by omega, by omega, rfl, by rw [hc]⟩
      have hix : atI (ps.map PyData.int) (b : Int) = some (.int (ps.getD b 0)) := ps_ix rfl (by omega)
      have hix2 : atI (ps.map PyData.int) (first : Int) = some (.int (ps.getD first 0)) := ps_ix rfl (by omega)
      refine ⟨[8], _, g_name 8 sc51.nd, fun hp => ?_, fun hp => ?_⟩
      · cases hc : costM f p ws n first b with
        | none => exact ⟨_, b_cons (s_set 9 sc51.nd (e_call (d := .none) H3 (a_cons (e_var 0) (a_cons (e_var 1) (a_cons (e_var 4) (a_cons (e_tup (a_cons (e_var 7) (a_cons (e_var 8) a_nil))) (a_cons (e_var 3) a_nil))))) (cst hc))) (b_cons (s_ifF (t_w (w_andF (t_is (t_notN (e_var 9)) rfl))) b_nil) b_nil), rfl⟩
        | some c =>
          rw [evP, hc] at hp
          exact ⟨_, b_cons (s_set 9 sc51.nd (e_call (d := .int c) H3 (a_cons (e_var 0) (a_cons (e_var 1) (a_cons (e_var 4) (a_cons (e_tup (a_cons (e_var 7) (a_cons (e_var 8) a_nil))) (a_cons (e_var 3) a_nil))))) (cst hc))) (b_cons (s_ifF (t_w (w_andT (t_is (t_notN (e_var 9)) rfl) (w_and1 (t_is (t_eqP (e_add (i := c) (j := ps.getD b 0) (e_var 9) (e_ixL (ds := ps.map .int) (e_var 5) (e_var 8) hix)) (e_ixL (ds := ps.map .int) (e_var 5) (e_var 7) hix2) (Nat.zero_le _)) (by rw [q_int]; exact hp))))) b_nil) b_nil), rfl⟩
      · cases hc : costM f p ws n first b with
        | none =>
          rw [evP, hc] at hp
          cases hp
        | some c =>
          rw [evP, hc] at hp
          exact b_bkd [9] (b_cons (s_set 9 sc51.nd (e_call (d := .int c) H3 (a_cons (e_var 0) (a_cons (e_var 1) (a_cons (e_var 4) (a_cons (e_tup (a_cons (e_var 7) (a_cons (e_var 8) a_nil))) (a_cons (e_var 3) a_nil))))) (cst hc))) (b_bk (s_ifT (t_w (w_andT (t_is (t_notN (e_var 9)) rfl) (w_and1 (t_is (t_eqP (e_add (i := c) (j := ps.getD b 0) (e_var 9) (e_ixL (ds := ps.map .int) (e_var 5) (e_var 8) hix)) (e_ixL (ds := ps.map .int) (e_var 5) (e_var 7) hix2) (Nat.zero_le _)) (by rw [q_int]; exact hp))))) (b_bk s_break))))
    · rw [List.map_append]; rfl
    · simp only [evM, if_pos hfi, List.append_assoc]
      rfl
  · left
    have e : first = ws.length := by omega
    subst e
    refine ⟨t_is (t_lt (e_var 7) (e_lenL (xs := ws.map txD) T.len (e_var 4))) (decide_eq_false (by rw [hlen]; omega)), ?_⟩
    cases m with
    | zero => simp only [evM, List.append_nil]
    | succ m => simp only [evM, if_neg hfi, List.append_nil]
/-! ### shows_even, spread -/
def R_shows_even (ds : List PyData) (d : PyData) : Prop := ∃ (f : Face) (p : Prs) (ws : List (List Nat)) (n : Int), Fit f p ws n ∧ (∀ c ∈ lets f, c ≠ 32) ∧ ds = [faceD f, prsD p, txD (joinB ws), .int n] ∧ d = rowD (pricesM f p ws n ws.length)
theorem sc52 : FnScope ["face", "pairs", "text", "number"] ["face", "pairs", "text", "number"] (defScope (topS 52)) := ⟨rfl, rfl, rfl, by decide +kernel, rfl, by decide +kernel, by decide +kernel⟩
theorem ok_shows_even (T : Glo mg) (H1 : Hs P w K mg base "need_words" 6 R_need_words) (H2 : Hs P w K mg base "prices_of" 7 R_prices) (F : FnP K "shows_even" (topS 52) f fd) : FnOk P w K mg base CX0 8 f fd ["face", "pairs", "text", "number"] (spP K R_shows_even) := by
  refine fn_pure F sc52 (fun ds d ⟨_, _, _, _, _, _, e, _⟩ => by rw [e]; rfl) fun ds d hR => ?_
  obtain ⟨f, p, ws, n, hf, hb, rfl, rfl⟩ := hR
  exact ⟨_, fin_rt, show BX _ _ _ [.dat (faceD f), .dat (prsD p), .dat (txD (joinB ws)), .dat (.int n)] _ from b_ret (s_ret (e_tuple T.tuple (e_call H2 (a_cons (e_var 0) (a_cons (e_var 1) (a_cons (e_call H1 (a_cons (e_var 0) (a_cons (e_var 1) (a_cons (e_var 2) (a_cons (e_var 3) a_nil)))) ⟨f, p, ws, n, hf, hb, rfl, rfl⟩) (a_cons (e_var 3) a_nil)))) ⟨f, p, ws, n, hf, rfl, rfl⟩)))⟩
def R_spread (ds : List PyData) (d : PyData) : Prop := ∃ (f : Face) (p : Prs) (ws : List (List Nat)) (n : Int), WOk f ws ∧ 2 ≤ ws.length ∧ 1 ≤ n ∧ n ≤ 999 ∧ wideM f p (joinB ws) ≤ n ∧ (∀ c ∈ lets f, c ≠ 32) ∧ ds = [faceD f, prsD p, txD (joinB ws), .int n] ∧ d = rowD (spreadM f p ws n)
theorem sc53 : FnScope ["face", "pairs", "text", "number", "words", "room", "each", "left", "place"] ["face", "pairs", "text", "number"] (defScope (topS 53)) := ⟨rfl, rfl, rfl, by decide +kernel, rfl, by decide +kernel, by decide +kernel⟩
theorem ok_spread (T : Glo mg) (H1 : Hs P w K mg base "words_of" 5 R_words_of) (H2 : Hs P w K mg base "need_wide" 2 R_need_wide) (H3 : Hs P w K mg base "room_of" 5 R_room_of) (F : FnP K "spread" (topS 53) f fd) : FnOk P w K mg base CX0 6 f fd ["face", "pairs", "text", "number"] (spP K R_spread) := by
  refine fn_pure F sc53 (fun ds d ⟨_, _, _, _, _, _, _, _, _, _, e, _⟩ => by rw [e]; rfl) fun ds d hR => ?_
  obtain ⟨f, p, ws, n, hw, h2, h3, h4, h5, hb, rfl, rfl⟩ := hR
  have hlen : ((ws.map txD).length : Int) = (ws.length : Int) := by rw [List.length_map]
  have h50 := hw.len
  refine ⟨_, fin_rt, show BX _ _ _ [.dat (faceD f), .dat (prsD p), .dat (txD (joinB ws)), .dat (.int n), .no, .no, .no, .no, .no] _ from
    b_cons (s_set 4 sc53.nd (e_call H1 (a_cons (e_var 0) (a_cons (e_var 2) a_nil)) ⟨f, ws, hw, hb, rfl, rfl⟩))
    (b_cons (s_ifF (t_is (t_lt (e_lenL (xs := ws.map txD) T.len (e_var 4)) e_int) (decide_eq_false (by rw [hlen]; omega))) b_nil)
    (b_cons (s_expr (e_call H2 (a_cons (e_var 3) a_nil) ⟨n, h3, h4, rfl, rfl⟩))
    (b_cons (s_set 5 sc53.nd (e_call (d := .int (n - wideM f p (joinB ws))) H3 (a_cons (e_var 0) (a_cons (e_var 1) (a_cons (e_var 2) (a_cons (e_var 3) a_nil)))) ⟨f, p, _, n, hw.tx, rfl, rfl⟩))
    (b_cons (s_ifF (t_is (t_lt (e_var 5) e_int) (decide_eq_false (by omega))) b_nil)
    (b_cons (s_asg (e_divmod (i := n - wideM f p (joinB ws)) (j := ((ws.map txD).length : Int) - 1) T.divmod (e_var 5) (e_sub (e_lenL T.len (e_var 4)) e_int) ⟨by rw [hlen]; omega, by rw [hlen]; omega⟩) (g_tup (gs_cons (g_name 6 sc53.nd) (gs_cons (g_name 7 sc53.nd) gs_nil))))
    (b_ret (s_ret (e_tuple T.tuple (e_lc (ys := (spreadM f p ws n).map .int) (own := [("place", 8)]) sc53.nd (by kernel_rfl) (i_range1 (j := ((ws.map txD).length : Int) - 1) T.range (e_sub (e_lenL T.len (e_var 4)) e_int) (by rw [hlen]; omega) (by rw [hlen]; omega)) ?_ ?_)))))))))⟩
  · rw [hlen, show ((ws.length : Int) - 1).toNat = ws.length - 1 by omega, show (0 : Int) = ((0 : Nat) : Int) from rfl, rng_nat, spreadM, List.map_map]
    refine lc_map (fun k : Nat => PyData.int ((0 + k : Nat) : Int)) _ _ fun k hk => ?_
    refine ⟨[8], [.int ((0 + k : Nat) : Int)], _, g_name 8 sc53.nd, by simp, e_eq (e_add (e_add (e_ixT (ds := [.int f.1, .tuple (f.2.map ltD)]) (e_var 0) e_int rfl) (e_var 6)) (e_intB T.int (e_lt (e_var 8) (e_var 7)))) ?_, rfl⟩
    rw [Nat.zero_add]; rfl
  · rw [hlen, rng_len]; omega
end
end Sg
namespace Sg
open PySem PySem.Spec PyProof.Rows L2
def kindS (s : List (List Int)) (r : List Int) : List (List Int) := if r ∈ s then s else s ++ [r]
def kindsM (rows : List (List Int)) : List (List Int) := rows.foldl kindS []
def groupedM (ls : List Nat) (rows : List (List Int)) : List (List Nat) := (kindsM rows).map fun m => ((ls.zip rows).filter fun x => decide (x.2 = m)).map (·.1)
def partM (f : Face) (p : Prs) (a b : Nat) : Option Nat := (lets f).find? fun r => decide (gapIn p a r ≠ gapIn p b r)
def twosM (ls : List Nat) : List (Nat × Nat) := ls.zipIdx.flatMap fun x => (ls.drop (x.2 + 1)).map fun o => (x.1, o)
def headsM (f : Face) (p : Prs) : List Nat := (groupedM (lets f) (rowsM f p)).map fun g => g.headD 0
def showsM (f : Face) (p : Prs) : List (Option Nat) := (twosM (headsM f p)).map fun x => partM f p x.1 x.2
def nextM (many : Nat) (row : List Nat) : List (List Nat) := ((List.range many).filter fun k => decide (row = []) || decide (row.getLastD 0 < k)).map fun k => row ++ [k]
def choM (many : Nat) : Nat → List (List Nat)
  | 0 => [[]]
  | c + 1 => (choM many c).flatMap (nextM many)
def marksM (f : Face) (p : Prs) (row : List Nat) : List (List Int) := (lets f).map fun l => row.map fun k => gapIn p l ((lets f).getD k 0)
def goodM (f : Face) (p : Prs) (row : List Nat) : Bool := decide ((kindsM (marksM f p row)).length = (groupedM (lets f) (rowsM f p)).length)
def foundM (f : Face) (p : Prs) : Option (List Nat) := (List.range (f.2.length + 1)).findSome? fun c => (choM f.2.length c).find? (goodM f p)
def partersM (f : Face) (p : Prs) : List Nat := match foundM f p with
  | some row => row.map fun k => (lets f).getD k 0
  | none => lets f
def optC : Option Nat → PyData
  | none => .none
  | some c => chD c
def grD (g : List Nat) : PyData := .tuple (g.map chD)
abbrev rowN (r : List Nat) : PyData := .tuple (r.map fun k => PyData.int (k : Nat))
theorem q_nat (a b : Nat) : PyData.eqv (.int (a : Nat)) (.int (b : Nat)) = decide (a = b) := by
  rw [q_int]
  exact decide_eq_decide.mpr (by omega)
theorem q_row (r s : List Int) : PyData.eqv (rowD r) (rowD s) = decide (r = s) := q_tup q_int r s
theorem z_row (r : List Int) : (rowD r).depth ≤ 1 := z_tup z_int r
/-! ### kinds -/
theorem kind_mem (r : List Int) : ∀ (rows s : List (List Int)), r ∈ rows.foldl kindS s ↔ r ∈ s ∨ r ∈ rows
  | [], s => by simp
  | x :: rows, s => by
    rw [List.foldl_cons, kind_mem r rows, kindS]
    split
    · rename_i h
      constructor
      · rintro (z | z)
        · exact .inl z
        · exact .inr (List.mem_cons_of_mem _ z)
      · rintro (z | z)
        · exact .inl z
        · rcases List.mem_cons.mp z with q | q
          · subst q; exact .inl h
          · exact .inr q
    · simp [or_assoc]
theorem kind_nodup : ∀ (rows s : List (List Int)), s.Nodup → (rows.foldl kindS s).Nodup
  | [], s, h => h
  | x :: rows, s, h => by
    rw [List.foldl_cons]
    refine kind_nodup rows _ ?_
    rw [kindS]
    split
    · exact h
    · rename_i hx
      exact List.nodup_append.mpr ⟨h, by simp, fun a ha b hb e => by simp at hb; subst hb; subst e; exact hx ha⟩
theorem mem_kinds {rows : List (List Int)} {r : List Int} : r ∈ kindsM rows ↔ r ∈ rows := by
  rw [kindsM, kind_mem]; simp
theorem nodup_kinds (rows : List (List Int)) : (kindsM rows).Nodup := kind_nodup rows [] List.nodup_nil
theorem kinds_len {rows l : List (List Int)} (h1 : l.Nodup) (h2 : ∀ r, r ∈ l ↔ r ∈ rows) : l.length = (kindsM rows).length :=
  ((List.perm_ext_iff_of_nodup h1 (nodup_kinds rows)).mpr fun r => by rw [h2, mem_kinds]).length_eq
theorem kinds_le : ∀ (rows s : List (List Int)), (rows.foldl kindS s).length ≤ s.length + rows.length
  | [], s => by simp
  | x :: rows, s => by
    rw [List.foldl_cons]
    have := kinds_le rows (kindS s x)
    have h : (kindS s x).length ≤ s.length + 1 := by
      rw [kindS]; split <;> simp
    simp; omega
theorem group_ne {ls : List Nat} {rows : List (List Int)} (h : ls.length = rows.length) {g : List Nat} (hg : g ∈ groupedM ls rows) : g ≠ [] := by
  obtain ⟨m, hm, rfl⟩ := List.mem_map.mp hg
  obtain ⟨i, hi, e⟩ := List.getElem_of_mem (mem_kinds.mp hm)
  intro z
  have hin : (ls[i]'(by omega), rows[i]) ∈ ls.zip rows := by
    have : (ls.zip rows)[i]'(by rw [List.length_zip]; omega) = (ls[i]'(by omega), rows[i]) := List.getElem_zip
    rw [← this]; exact List.getElem_mem _
  have : (ls[i]'(by omega), rows[i]) ∈ (ls.zip rows).filter fun x => decide (x.2 = m) := List.mem_filter.mpr ⟨hin, by simp [e]⟩
  have := List.mem_map_of_mem (f := (·.1)) this
  rw [z] at this
  simp at this
theorem rows_len (f : Face) (p : Prs) : (rowsM f p).length = (lets f).length := by simp [rowsM]
theorem twos_len (ls : List Nat) (h : ls.length ≤ 10) : (twosM ls).length ≤ 100 := by
  have : ∀ (l : List (Nat × Nat)), (l.flatMap fun x => (ls.drop (x.2 + 1)).map fun o => (x.1, o)).length ≤ l.length * 10 := by
    intro l
    induction l with
    | nil => simp
    | cons a l ih =>
      rw [List.flatMap_cons, List.length_append, List.length_map, List.length_drop, List.length_cons]
      omega
  have h1 := this ls.zipIdx
  rw [List.length_zipIdx] at h1
  rw [twosM]; omega
theorem cho_few : ∀ m, m < 6 → ∀ c, c < 7 → (choM m c).length ≤ 20 := by decide +kernel
theorem next_few : ∀ m, m < 6 → ∀ row : List Nat, (nextM m row).length ≤ 6 := fun m hm row => by
  rw [nextM, List.length_map]
  exact Nat.le_trans (List.length_filter_le _ _) (by simp; omega)
end Sg
namespace Sg
open PySem PySem.Spec PyProof.Rows L2
section
variable {G : Gam} {m : Addr → Prop} {a b c tg it : Expr} {ρ ρ1 ρ2 : List Sl} {d : PyData} {ds : List PyData} {pos p p2 p3 q3 : Pos} {y : Str}
/-- e not in x, x a list that may be changed -/
theorem t_notInM (i : Nat) {q : Addr} (ha : EX G a ρ d ρ) (hz : d.depth ≤ 60) (hr : ρ[i]? = some (.mut q ds) := by rfl) (hN : G.N[i]? = some y := by rfl) (hv : visB G.sc y = true := by rfl) (hd : (y == ("__debug__" : Str)) = false := by decide) (hcd : (y == ("__classdict__" : Str)) = false := by decide) :
    TX G (.Compare a [.NotIn] [.Name y p2] pos) ρ (!ds.any fun z => PyData.eqv z d) ρ := fun X F => by
  have pv0 : PE X (.Name y p2) (tVar i) := pe_var (i := i) (by rw [F.N]; exact hN) (by rw [F.sc]; exact visB_ok hv) hd hcd
  refine PTw' (pt_cmpR (op_notInP (room_units F)) (ha X F) pv0 rfl) fun σ H Q ⟨B, S, h, k⟩ => ?_
  refine ⟨B, S, h, fun v S1 H1 h1 r1 => ?_⟩
  obtain ⟨q1, _, _, vs, q4, q5⟩ := h1.mt i q ds hr
  refine ⟨.ref q, q1, ?_⟩
  rw [F.K]
  exact ⟨d, ds, Dpm r1 h1.sub, .lst (.of q4) (Dpam q5 h1.sub), hz, _, rfl, k S1 H1 h1⟩
def tLenSetT (K : PySem.W.Frag) (ta : TE) : TE := fun σ H Q => ta σ H fun x H1 => ∃ (l : Addr) (ks : List (Addr × List Int)), x = V.ref l ∧ SqL K H1 l (ks.map fun p => V.ref p.1) ∧ (∀ p ∈ ks, SqT K H1 p.1 (p.2.map V.int)) ∧ ks.length < 64 ∧
  ∀ L : List (Addr × List Int), (∀ p ∈ L, p ∈ ks) → (∀ p ∈ ks, p.2 ∈ L.map (·.2)) → (L.map (·.2)).Nodup → Q (.int (L.length : Nat)) H1
theorem pe_lenSetT {X : Cx} {ta : TE} (hc : X.calm = true) (hu : X.A.units + 64 < cLine) (hgL : Gl X "len") (hmL : X.mg "len" = none) (hgS : Gl X "set") (hmS : X.mg "set" = none) (ha : PE X a ta)
    (na : starEach [a] X.env = (false, eval a X.env) :: starEach [] X.env) : PE X (.Call (.Name "len" p) [.Call (.Name "set" p2) [a] [] p3] [] pos) (tLenSetT X.K ta) := by
  refine ⟨fun pz s σ H Q I h => ?_⟩
  refine Call_ (ld_blt I hgL hmL PySem.boot_len ?_)
  refine PyProof.Rows.callWith_builtin1 (PyProof.Rows.args_cons ?_ rfl) rfl rfl
  refine Call_ (ld_blt I hgS hmS PyProof.Rows.boot_set ?_)
  refine PyProof.Rows.callWith_type1 (PyProof.Rows.args_cons (thn (ha.run pz s σ H _ I h) fun v sA ⟨x, HA, JA, rA, qA⟩ => PyProof.Rows.args_nil ?_) na) na rfl
  obtain ⟨l, kz, rfl, hq, hk, hf, qA⟩ := qA
  cases rA
  obtain ⟨its, rv, pl, hz⟩ := JA.list hq
  refine call_set_tups (P := X.prog) (w := X.w) kz (JA.ok.hd hc) pl.isList (by simpa using refs_of_vals rv) (fun p hp => JA.isT (hk p hp)) hf (by omega) fun h' tk LL es ep t RA gA k => ?_
  refine PyProof.Rows.args_nil ?_
  have JB : Inv X pz σ HA { sA with heap := h', toks := tk } := JA.kept k
  obtain ⟨o, kO, kE, hd⟩ := RA.ob
  have hn := RA.size (s := { sA with heap := h', toks := tk })
  refine call_len_set kO kE hd (RA.fits (s := { sA with heap := h', toks := tk })) (by rw [hn]; have := RA.few; omega) ⟨.int LL.length, HA, JB.tok _, ⟨_, by rw [hn]⟩, qA LL (fun p hp => ?_) (fun p hp => ?_) RA.nd⟩
  · exact List.mem_of_mem_take (gA.sub p hp)
  · exact gA.all p (by rw [List.take_length]; exact hp)
theorem rows_refs {K : PySem.W.Frag} {S : Hp} : ∀ {rows : List (List Int)} {vs : List V}, DpAll K S vs (rows.map rowD) → ∃ ks : List (Addr × List Int), vs = ks.map (fun p => V.ref p.1) ∧ ks.map (·.2) = rows ∧ ∀ p ∈ ks, SqT K S p.1 (p.2.map V.int)
  | [], _, h => by cases h; exact ⟨[], rfl, rfl, fun _ z => nomatch z⟩
  | r :: rows, _, h => by
    cases h with
    | cons h1 h2 =>
      obtain ⟨ks, e1, e2, e3⟩ := rows_refs h2
      cases h1 with
      | @tup a xs _ q1 q2 =>
        have e := dpa_ints_inv q2
        subst e
        exact ⟨(a, r) :: ks, by rw [e1]; rfl, by rw [← e2]; rfl, fun p hp => by
          rcases List.mem_cons.mp hp with z | z
          · subst z; exact q1
          · exact e3 p z⟩
theorem e_lenSet {rows : List (List Int)} (hm : G.mg "len" = none) (hm2 : G.mg "set" = none) (ha : EX G a ρ (.list (rows.map rowD)) ρ1) (hz : rows.length < 64) (hs : notStar a = true := by rfl) (hg : G.sc.names.lookup ("len" : Str) = some NameKind.globalImplicit := by rfl) (hg2 : G.sc.names.lookup ("set" : Str) = some NameKind.globalImplicit := by rfl) :
    EX G (.Call (.Name "len" p) [.Call (.Name "set" p2) [a] [] p3] [] pos) ρ (.int ((kindsM rows).length : Nat)) ρ1 := fun X F =>
  PEw (pe_lenSetT F.calm (room_units F) (show X.env.scope.names.lookup ("len" : Str) = _ by rw [F.sc]; exact hg) (by rw [F.mg]; exact hm) (show X.env.scope.names.lookup ("set" : Str) = _ by rw [F.sc]; exact hg2) (by rw [F.mg]; exact hm2) (ha X F) (star_cons hs)) fun σ H Q ⟨B, S, h, k⟩ => by
    refine ⟨B, S, h, fun v S1 H1 h1 r1 => ?_⟩
    cases r1 with
    | @lst l vs _ q1 q2 =>
      obtain ⟨ks, e1, e2, e3⟩ := rows_refs q2
      subst e1
      refine ⟨l, ks, rfl, by rw [F.K]; exact sqL_mono h1.sub q1, fun p hp => by rw [F.K]; exact sqT_mono h1.sub (e3 p hp), by rw [← List.length_map (f := (·.2)), e2]; exact hz, fun L l1 l2 l3 => ?_⟩
      have e : L.length = (kindsM rows).length := by
        rw [← List.length_map (as := L) (f := (·.2))]
        refine kinds_len l3 fun r => ⟨fun hr => ?_, fun hr => ?_⟩
        · obtain ⟨p, hp, rfl⟩ := List.mem_map.mp hr
          rw [← e2]
          exact List.mem_map_of_mem (l1 p hp)
        · rw [← e2] at hr
          obtain ⟨p, hp, rfl⟩ := List.mem_map.mp hr
          exact l2 p hp
      rw [e]
      exact k _ S1 H1 h1 (.int _)
end
section
variable {P : Program} {w : World} {K : PySem.W.Frag} {mg : Str → Option Value} {base : Heap} {f : Addr} {fd : FuncData}
/-! ### grouped -/
def R_grouped (ds : List PyData) (d : PyData) : Prop := ∃ (ls : List Nat) (rows : List (List Int)), ls.length ≤ 10 ∧ rows.length ≤ 10 ∧ ds = [.tuple (ls.map chD), .tuple (rows.map rowD)] ∧ d = .tuple ((groupedM ls rows).map grD)
theorem sc55 : FnScope ["letters", "marks", "kinds", "mark", "letter", "own"] ["letters", "marks"] (defScope (topS 55)) := ⟨rfl, rfl, rfl, by decide +kernel, rfl, by decide +kernel, by decide +kernel⟩
theorem ok_grouped (T : Glo mg) (F : FnP K "grouped" (topS 55) f fd) : FnOk P w K mg base CX0 1 f fd ["letters", "marks"] (spP K R_grouped) := by
  refine fn_pure F sc55 (fun ds d ⟨_, _, _, _, e, _⟩ => by rw [e]; rfl) fun ds d hR => ?_
  obtain ⟨ls, rows, hl, hr, rfl, rfl⟩ := hR
  refine ⟨.rt (.tuple ((groupedM ls rows).map grD)) (List.replicate 6 .no), fin_rt, show BX _ _ _ [.dat (.tuple (ls.map chD)), .dat (.tuple (rows.map rowD)), .no, .no, .no, .no] _ from b_new 2 sc55.nd (el_lst a_nil) fun q hq => b_rt0 (b_cons (s_for (o := .nx [.dat (.tuple (ls.map chD)), .dat (.tuple (rows.map rowD)), .mut q ((kindsM rows).map rowD), .no, .no, .no]) (i_tup (e_var 1)) ?_)
    (b_freeze 2 rfl hq (b_ret (s_ret (e_tuple T.tuple (e_lc (ys := (groupedM ls rows).map grD) (own := [("mark", 3)]) sc55.nd (by kernel_rfl) (i_list (e_var 2)) ?_ ?_))))))⟩
  · refine lp_fold rowD kindS (fun s => [.dat (.tuple (ls.map chD)), .dat (.tuple (rows.map rowD)), .mut q (s.map rowD), .no, .no, .no]) rows [] fun l1 r l2 e => ?_
    have hk : (l1.foldl kindS []).length ≤ 10 := by
      have h1 := kinds_le l1 []
      have h2 : l1.length ≤ rows.length := by rw [e]; simp
      simp at h1; omega
    generalize l1.foldl kindS [] = s at *
    have hin : ((s.map rowD).any fun z => PyData.eqv z (rowD r)) = decide (r ∈ s) := by
      rw [List.any_map, Bool.eq_iff_iff, List.any_eq_true, decide_eq_true_eq]
      constructor
      · rintro ⟨x, hx, hy⟩
        rw [Function.comp, q_row] at hy
        rw [← of_decide_eq_true hy]; exact hx
      · intro hx
        exact ⟨r, hx, by rw [Function.comp, q_row]; simp⟩
    by_cases hx : r ∈ s
    · rw [kindS, if_pos hx]
      exact ⟨[3], _, _, [3], g_name 3 sc55.nd, b_cons (s_ifF (t_is (t_notInM 2 (d := rowD r) (e_var 3) (Nat.le_trans (z_row r) (by decide))) (by rw [hin]; simp [hx])) b_nil) b_nil, rfl⟩
    · rw [kindS, if_neg hx]
      refine ⟨[3], _, _, [3], g_name 3 sc55.nd, b_cons (s_ifT (t_is (t_notInM 2 (d := rowD r) (e_var 3) (Nat.le_trans (z_row r) (by decide))) (by rw [hin]; simp [hx])) (b_cons (s_append 2 (e_var 3) rfl rfl (by rw [List.length_map]; omega)) b_nil)) b_nil, ?_⟩
      rw [List.map_append]; rfl
  · rw [groupedM, List.map_map]
    refine lc_map rowD _ (kindsM rows) fun mk hm => ?_
    refine ⟨[3], [rowD mk], _, g_name 3 sc55.nd, by simp, e_eq (e_tuple T.tuple (e_lc (ys := (((ls.zip rows).filter fun x => decide (x.2 = mk)).map (·.1)).map chD) (own := [("letter", 4), ("own", 5)]) sc55.nd (by kernel_rfl) (i_zip T.zip (e_var 0) (e_var 1) (by exact rfl) (by exact rfl)) ?_ ?_)) (by rfl), rfl⟩
    · rw [zp_map, List.map_map]
      refine lc_filter (fun x : Nat × List Int => PyData.tuple [chD x.1, rowD x.2]) _ (fun x => decide (x.2 = mk)) (ls.zip rows) fun x hx => ?_
      exact ⟨_, _, _, g_tup (gs_cons (g_name 4 sc55.nd) (gs_cons (g_name 5 sc55.nd) gs_nil)), by simp, t_is (t_eqP (e_var 5) (e_var 3) (Nat.le_trans (z_row x.2) (by decide))) (q_row x.2 mk), rfl, fun _ => ⟨_, e_var 4, rfl⟩⟩
    · rw [zp_map, List.length_map, List.length_zip]; omega
  · rw [List.length_map]
    have := kinds_le rows []
    simp only [List.length_nil, Nat.zero_add] at this
    rw [kindsM]; omega
/-! ### left_parting -/
def R_left_parting (ds : List PyData) (d : PyData) : Prop := ∃ (f : Face) (p : Prs), FOk f ∧ ds = [faceD f, prsD p] ∧ d = .tuple ((groupedM (lets f) (rowsM f p)).map grD)
theorem sc56 : FnScope ["face", "pairs"] ["face", "pairs"] (defScope (topS 56)) := ⟨rfl, rfl, rfl, by decide +kernel, rfl, by decide +kernel, by decide +kernel⟩
theorem ok_left_parting (T : Glo mg) (H1 : Hs P w K mg base "grouped" 1 R_grouped) (H2 : Hs P w K mg base "letters_of" 1 R_letters_of) (H3 : Hs P w K mg base "rows_of" 2 R_rows_of) (F : FnP K "left_parting" (topS 56) f fd) : FnOk P w K mg base CX0 3 f fd ["face", "pairs"] (spP K R_left_parting) := by
  refine fn_pure F sc56 (fun ds d ⟨_, _, _, e, _⟩ => by rw [e]; rfl) fun ds d hR => ?_
  obtain ⟨f, p, hf, rfl, rfl⟩ := hR
  exact ⟨_, fin_rt, show BX _ _ _ [.dat (faceD f), .dat (prsD p)] _ from b_ret (s_ret (e_call H1 (a_cons (e_call H2 (a_cons (e_var 0) a_nil) ⟨f, hf, rfl, rfl⟩) (a_cons (e_call H3 (a_cons (e_var 0) (a_cons (e_var 1) a_nil)) ⟨f, p, hf, rfl, rfl⟩) a_nil)) ⟨lets f, rowsM f p, by rw [lets_len]; exact hf.len, by rw [rows_len, lets_len]; exact hf.len, rfl, rfl⟩))⟩
/-! ### parting_letter -/
def R_parting (ds : List PyData) (d : PyData) : Prop := ∃ (f : Face) (p : Prs) (a b : Nat), FOk f ∧ ds = [faceD f, prsD p, chD a, chD b] ∧ d = optC (partM f p a b)
theorem sc57 : FnScope ["face", "pairs", "one", "other", "right"] ["face", "pairs", "one", "other"] (defScope (topS 57)) := ⟨rfl, rfl, rfl, by decide +kernel, rfl, by decide +kernel, by decide +kernel⟩
theorem ok_parting (T : Glo mg) (H1 : Hs P w K mg base "letters_of" 1 R_letters_of) (H2 : Hs P w K mg base "gap_in" 1 R_gap_in) (F : FnP K "parting_letter" (topS 57) f fd) : FnOk P w K mg base CX0 2 f fd ["face", "pairs", "one", "other"] (spP K R_parting) := by
  refine fn_pure F sc57 (fun ds d ⟨_, _, _, _, _, e, _⟩ => by rw [e]; rfl) fun ds d hR => ?_
  obtain ⟨f, p, a, b, hf, rfl, rfl⟩ := hR
  cases e : (lets f).find? fun r => decide (gapIn p a r ≠ gapIn p b r) with
  | none =>
    refine ⟨.rt .none _, fin_rt_of (by rw [partM, e]; rfl), show BX _ _ _ [.dat (faceD f), .dat (prsD p), .dat (chD a), .dat (chD b), .no] _ from b_cons (s_for (o := .nx [.dat (faceD f), .dat (prsD p), .dat (chD a), .dat (chD b), .no]) (i_tup (e_call H1 (a_cons (e_var 0) a_nil) ⟨f, hf, rfl, rfl⟩)) ?_) (b_ret (s_ret e_non))⟩
    refine lp_none chD _ _ _ e fun r hr hq => ?_
    exact ⟨[4], _, _, [4], g_name 4 sc57.nd, b_cons (s_ifF (t_is (t_neP (e_call H2 (a_cons (e_var 1) (a_cons (e_var 2) (a_cons (e_var 4) a_nil))) ⟨p, a, r, rfl, rfl⟩) (e_call H2 (a_cons (e_var 1) (a_cons (e_var 3) (a_cons (e_var 4) a_nil))) ⟨p, b, r, rfl, rfl⟩) (Nat.zero_le _)) (by rw [q_int]; simpa using hq)) b_nil) b_nil, rfl⟩
  | some r =>
    refine ⟨.rt (chD r) _, fin_rt_of (by rw [partM, e]; rfl), show BX _ _ _ [.dat (faceD f), .dat (prsD p), .dat (chD a), .dat (chD b), .no] _ from b_ret (s_for (o := .rt (chD r) [.dat (faceD f), .dat (prsD p), .dat (chD a), .dat (chD b), .dat (chD r)]) (i_tup (e_call H1 (a_cons (e_var 0) a_nil) ⟨f, hf, rfl, rfl⟩)) ?_)⟩
    refine lp_find (ρ' := fun r => [.dat (faceD f), .dat (prsD p), .dat (chD a), .dat (chD b), .dat (chD r)]) chD _ chD _ _ e fun r hr => ?_
    exact ⟨[4], [chD r], g_name 4 sc57.nd, fun hq => ⟨_, [4], b_cons (s_ifF (t_is (t_neP (e_call H2 (a_cons (e_var 1) (a_cons (e_var 2) (a_cons (e_var 4) a_nil))) ⟨p, a, r, rfl, rfl⟩) (e_call H2 (a_cons (e_var 1) (a_cons (e_var 3) (a_cons (e_var 4) a_nil))) ⟨p, b, r, rfl, rfl⟩) (Nat.zero_le _)) (by rw [q_int]; simpa using hq)) b_nil) b_nil, rfl⟩,
      fun hq => b_ret (s_ifT (t_is (t_neP (e_call H2 (a_cons (e_var 1) (a_cons (e_var 2) (a_cons (e_var 4) a_nil))) ⟨p, a, r, rfl, rfl⟩) (e_call H2 (a_cons (e_var 1) (a_cons (e_var 3) (a_cons (e_var 4) a_nil))) ⟨p, b, r, rfl, rfl⟩) (Nat.zero_le _)) (by rw [q_int]; simpa using hq)) (b_ret (s_ret (e_var 4))))⟩
/-! ### twos -/
def R_twos (ds : List PyData) (d : PyData) : Prop := ∃ ls : List Nat, ls.length ≤ 10 ∧ ds = [.tuple (ls.map chD)] ∧ d = .list ((twosM ls).map fun x => .tuple [chD x.1, chD x.2])
theorem sc58 : FnScope ["letters", "found", "number", "one", "other"] ["letters"] (defScope (topS 58)) := ⟨rfl, rfl, rfl, by decide +kernel, rfl, by decide +kernel, by decide +kernel⟩
theorem cut_from (ls : List Nat) (k : Nat) : cutD (ls.map chD) (some (k : Int)) none = (ls.drop k).map chD := by
  rw [cutD, HT.sIx_nat, HT.sIx_none, List.length_map]
  by_cases h : k ≤ ls.length
  · rw [Nat.min_eq_left h, List.map_drop, List.take_of_length_le (by rw [List.length_drop, List.length_map]; omega)]
  · rw [Nat.min_eq_right (by omega), Nat.sub_self, List.take_zero, List.drop_eq_nil_of_le (by omega)]; rfl
theorem ok_twos (T : Glo mg) (F : FnP K "twos" (topS 58) f fd) : FnOk P w K mg base CX0 1 f fd ["letters"] (spP K R_twos) := by
  refine fn_pure F sc58 (fun ds d ⟨_, _, e, _⟩ => by rw [e]; rfl) fun ds d hR => ?_
  obtain ⟨ls, hl, rfl, rfl⟩ := hR
  have e0 : twosM ls = ls.zipIdx.foldl (fun s x => s ++ (ls.drop (x.2 + 1)).map fun o => (x.1, o)) [] := by rw [foldl_app]; rfl
  rw [e0]
  refine ⟨.rt _ (List.replicate 5 .no), fin_rt, show BX _ _ _ [.dat (.tuple (ls.map chD)), .no, .no, .no, .no] _ from b_new 1 sc58.nd (el_lst a_nil) fun q hq => b_rt0 (b_cons (s_for (o := .nx [.dat (.tuple (ls.map chD)), .mut q ((ls.zipIdx.foldl (fun s x => s ++ (ls.drop (x.2 + 1)).map fun o => (x.1, o)) []).map fun x => .tuple [chD x.1, chD x.2]), .no, .no, .no]) (i_enum (d := .tuple (ls.map chD)) (ds := ls.map chD) T.enum (e_var 0) rfl) ?_) (b_freeze 1 rfl hq (b_ret (s_ret (e_var 1)))))⟩
  rw [enm_map]
  refine lp_fold (fun x : Nat × Nat => PyData.tuple [.int (x.2 : Nat), chD x.1]) (fun s x => s ++ (ls.drop (x.2 + 1)).map fun o => (x.1, o)) (fun s => [.dat (.tuple (ls.map chD)), .mut q (s.map fun x => .tuple [chD x.1, chD x.2]), .no, .no, .no]) ls.zipIdx [] fun l1 x l2 e => ?_
  refine ⟨_, _, _, [2, 3], g_tup (gs_cons (g_name 2 sc58.nd) (gs_cons (g_name 3 sc58.nd) gs_nil)), b_cons (s_extend 1 (el_lc (ys := (ls.drop (x.2 + 1)).map fun o => .tuple [chD x.1, chD o]) (own := [("other", 4)]) sc58.nd (by kernel_rfl) (i_tup (e_eq (d1 := .tuple ((ls.drop (x.2 + 1)).map chD)) (e_slT (ds := ls.map chD) (i := some ((x.2 : Int) + 1)) (j := none) (e_var 0) (o_some (e_add (e_var 2) e_int)) o_none) (by rw [show ((x.2 : Int) + 1) = ((x.2 + 1 : Nat) : Int) by omega, cut_from]))) ?_ ?_) rfl rfl ?_) b_nil, ?_⟩
  · exact lc_map chD _ _ fun o ho => ⟨[4], [chD o], _, g_name 4 sc58.nd, by simp, e_tup (a_cons (e_var 3) (a_cons (e_var 4) a_nil)), rfl⟩
  · rw [List.length_map, List.length_drop]; omega
  · have h1 : ((l1.foldl (fun s x => s ++ (ls.drop (x.2 + 1)).map fun o => (x.1, o)) []) ++ ((ls.drop (x.2 + 1)).map fun o => (x.1, o))).length ≤ 100 := by
      refine Nat.le_trans ?_ (twos_len ls hl)
      rw [e0, e, foldl_app, foldl_app]
      simp
    rw [List.length_append, List.length_map] at h1
    rw [List.length_map, List.length_map]
    omega
  · rw [List.map_append, List.map_map]; rfl
/-! ### shows_lefts -/
def R_shows_lefts (ds : List PyData) (d : PyData) : Prop := ∃ (f : Face) (p : Prs), FOk f ∧ ds = [faceD f, prsD p] ∧ d = .tuple [.tuple ((headsM f p).map chD), .tuple ((showsM f p).map optC)]
theorem sc59 : FnScope ["face", "pairs", "letters", "one", "other"] ["face", "pairs"] (defScope (topS 59)) := ⟨rfl, rfl, rfl, by decide +kernel, rfl, by decide +kernel, by decide +kernel⟩
theorem heads_len {f : Face} {p : Prs} (hf : FOk f) : (groupedM (lets f) (rowsM f p)).length ≤ 10 := by
  rw [groupedM, List.length_map, kindsM]
  have := kinds_le (rowsM f p) []
  rw [rows_len, lets_len] at this
  have := hf.len
  simp at *; omega
theorem ok_shows_lefts (T : Glo mg) (H1 : Hs P w K mg base "left_parting" 3 R_left_parting) (H2 : Hs P w K mg base "parting_letter" 2 R_parting) (H3 : Hs P w K mg base "twos" 1 R_twos) (F : FnP K "shows_lefts" (topS 59) f fd) : FnOk P w K mg base CX0 4 f fd ["face", "pairs"] (spP K R_shows_lefts) := by
  refine fn_pure F sc59 (fun ds d ⟨_, _, _, e, _⟩ => by rw [e]; rfl) fun ds d hR => ?_
  obtain ⟨f, p, hf, rfl, rfl⟩ := hR
  have hh : (headsM f p).length ≤ 10 := by rw [headsM, List.length_map]; exact heads_len hf
  refine ⟨_, fin_rt, show BX _ _ _ [.dat (faceD f), .dat (prsD p), .no, .no, .no] _ from b_cons (s_set 2 sc59.nd (e_tuple T.tuple (e_lc (ys := (headsM f p).map chD) (own := [("one", 3)]) sc59.nd (by kernel_rfl) (i_tup (e_call H1 (a_cons (e_var 0) (a_cons (e_var 1) a_nil)) ⟨f, p, hf, rfl, rfl⟩)) ?_ ?_)))
    (b_ret (s_ret (e_tup (a_cons (e_var 2) (a_cons (e_tuple T.tuple (e_lc (ys := (showsM f p).map optC) (own := [("one", 3), ("other", 4)]) sc59.nd (by kernel_rfl) (i_list (e_call H3 (a_cons (e_var 2) a_nil) ⟨headsM f p, hh, rfl, rfl⟩)) ?_ ?_)) a_nil)))))⟩
  · rw [headsM, List.map_map]
    refine lc_map grD _ _ fun g hg => ⟨[3], [grD g], _, g_name 3 sc59.nd, by simp, e_ixT (ds := g.map chD) (e_var 3) e_int ?_, rfl⟩
    have hne := group_ne (by rw [rows_len]) hg
    cases g with
    | nil => exact absurd rfl hne
    | cons c g =>
      rw [show (0 : Int) = ((0 : Nat) : Int) from rfl, atI_nat _ _ (by simp)]; rfl
  · rw [List.length_map]; exact Nat.le_trans (heads_len hf) (by decide)
  · rw [showsM, List.map_map]
    exact lc_map (fun x : Nat × Nat => PyData.tuple [chD x.1, chD x.2]) _ _ fun x hx => ⟨_, _, _, g_tup (gs_cons (g_name 3 sc59.nd) (gs_cons (g_name 4 sc59.nd) gs_nil)), by simp, e_call H2 (a_cons (e_var 0) (a_cons (e_var 1) (a_cons (e_var 3) (a_cons (e_var 4) a_nil)))) ⟨f, p, x.1, x.2, hf, rfl, rfl⟩, rfl⟩
  · rw [List.length_map]; exact Nat.le_trans (twos_len _ hh) (by decide)
end
end Sg
namespace Sg
open PySem PySem.Spec PyProof.Rows L2
theorem cho_ok {m : Nat} : ∀ {c : Nat} {row : List Nat}, row ∈ choM m c → row.length = c ∧ ∀ k ∈ row, k < m
  | 0, row, h => by
    simp [choM] at h
    subst h
    simp
  | c + 1, row, h => by
    rw [choM] at h
    obtain ⟨r, hr, h2⟩ := List.mem_flatMap.mp h
    obtain ⟨k, hk, rfl⟩ := List.mem_map.mp h2
    have hk2 := List.mem_range.mp (List.mem_filter.mp hk).1
    obtain ⟨h3, h4⟩ := cho_ok hr
    refine ⟨by simp [h3], fun j hj => ?_⟩
    rcases List.mem_append.mp hj with z | z
    · exact h4 j z
    · simp at z; subst z; exact hk2
theorem find_bind {α β : Type} (F : α → Option β) : ∀ l : List α, l.findSome? F = (l.find? fun c => (F c).isSome).bind F
  | [] => rfl
  | a :: l => by
    rw [List.findSome?_cons]
    cases e : F a with
    | none =>
      rw [List.find?_cons_of_neg (by simp [e])]
      exact find_bind F l
    | some b =>
      rw [List.find?_cons_of_pos (by simp [e])]
      simp [e]
theorem rowN_last {row : List Nat} (h : row ≠ []) : atI (row.map fun k => PyData.int (k : Nat)) (-1) = some (.int (row.getLastD 0 : Nat)) := by
  have hp := List.length_pos_iff.mpr h
  rw [atI_last _ (by simpa using h), List.length_map, List.getElem?_map, List.getElem?_eq_getElem (by omega)]
  cases row with
  | nil => exact absurd rfl h
  | cons a l => simp [List.getLastD, List.getLast_eq_getElem]
section
variable {P : Program} {w : World} {K : PySem.W.Frag} {mg : Str → Option Value} {base : Heap} {f : Addr} {fd : FuncData}
/-! ### choices -/
def R_choices (ds : List PyData) (d : PyData) : Prop := ∃ m c : Nat, m < 6 ∧ c < 7 ∧ ds = [.int (m : Nat), .int (c : Nat)] ∧ d = .list ((choM m c).map rowN)
theorem sc60 : FnScope ["many", "count", "found", "turn", "longer", "row", "number"] ["many", "count"] (defScope (topS 60)) := ⟨rfl, rfl, rfl, by decide +kernel, rfl, by decide +kernel, by decide +kernel⟩
theorem ok_choices (T : Glo mg) (F : FnP K "choices" (topS 60) f fd) : FnOk P w K mg base CX0 1 f fd ["many", "count"] (spP K R_choices) := by
  refine fn_pure F sc60 (fun ds d ⟨_, _, _, _, e, _⟩ => by rw [e]; rfl) fun ds d hR => ?_
  obtain ⟨m, c, hm, hc, rfl, rfl⟩ := hR
  refine ⟨.rt (.list ((choM m c).map rowN)) _, fin_rt, show BX _ _ _ [.dat (.int (m : Nat)), .dat (.int (c : Nat)), .no, .no, .no, .no, .no] _ from b_cons (s_set 2 sc60.nd (e_lst (a_cons (e_tup a_nil) a_nil))) (b_cons (s_for (o := .nx [.dat (.int (m : Nat)), .dat (.int (c : Nat)), .dat (.list ((choM m c).map rowN)), .no, .no, .no, .no]) (items := (List.range c).map fun k => .int ((0 + k : Nat) : Int)) (i_as (i_range1 (j := (c : Int)) T.range (e_var 1) (by omega) (by omega)) ?_) ?_) (b_ret (s_ret (e_var 2))))⟩
  · rw [Int.toNat_natCast, show (0 : Int) = ((0 : Nat) : Int) from rfl, rng_nat]
  refine lp_idx (fun k => .int ((0 + k : Nat) : Int)) (fun k => [.dat (.int (m : Nat)), .dat (.int (c : Nat)), .dat (.list ((choM m k).map rowN)), .no, .no, .no, .no]) c fun k hk => ?_
  have ek : choM m (k + 1) = (choM m k).foldl (fun s r => s ++ nextM m r) [] := by rw [foldl_app]; rfl
  refine ⟨[3], _, [.dat (.int (m : Nat)), .dat (.int (c : Nat)), .dat (.list ((choM m (k + 1)).map rowN)), .dat (.int ((0 + k : Nat) : Int)), .dat (.list ((choM m (k + 1)).map rowN)), .no, .no], [3, 4], g_name 3 sc60.nd, b_new 4 sc60.nd (el_lst a_nil) fun q hq => b_cons (s_for (o := .nx [.dat (.int (m : Nat)), .dat (.int (c : Nat)), .dat (.list ((choM m k).map rowN)), .dat (.int ((0 + k : Nat) : Int)), .mut q ((choM m (k + 1)).map rowN), .no, .no]) (i_list (e_var 2)) ?_) (b_freeze 4 rfl hq (b_cons (s_set 2 sc60.nd (e_var 4)) b_nil)), rfl⟩
  rw [ek]
  refine lp_fold rowN (fun s r => s ++ nextM m r) (fun s => [.dat (.int (m : Nat)), .dat (.int (c : Nat)), .dat (.list ((choM m k).map rowN)), .dat (.int ((0 + k : Nat) : Int)), .mut q (s.map rowN), .no, .no]) (choM m k) [] fun l1 r l2 e => ?_
  have hr := cho_ok (row := r) (m := m) (c := k) (by rw [e]; simp)
  refine ⟨[5], _, _, [5], g_name 5 sc60.nd, b_cons (s_extend 4 (el_lc (ys := (nextM m r).map rowN) (own := [("number", 6)]) sc60.nd (by kernel_rfl) (i_range1 (j := (m : Int)) T.range (e_var 0) (by omega) (by omega)) ?_ ?_) rfl rfl ?_) b_nil, ?_⟩
  · rw [Int.toNat_natCast, show (0 : Int) = ((0 : Nat) : Int) from rfl, rng_nat, nextM, List.map_map]
    refine lc_filter (fun j : Nat => PyData.int ((0 + j : Nat) : Int)) _ (fun j => decide (r = []) || decide (r.getLastD 0 < j)) (List.range m) fun j hj => ?_
    have z : (0 + j : Nat) = j := Nat.zero_add j
    rw [z]
    refine ⟨[6], [.int (j : Nat)], _, g_name 6 sc60.nd, by simp, t_w (w_or (b1 := decide (r = [])) (t_is (t_eqP (e_var 5) (e_tup a_nil) (Nat.le_trans (z_tup (fun k => z_int (k : Nat)) r) (by decide))) (by rw [show ([] : List PyData) = ([] : List Nat).map (fun k => PyData.int (k : Nat)) from rfl, q_tup q_nat])) fun h => w_or1 (t_is (t_gt (e_var 6) (e_ixT (ds := r.map fun k => PyData.int (k : Nat)) (i := -1) (e_var 5) (e_neg e_int) (rowN_last (of_decide_eq_false h)))) (decide_eq_decide.mpr (by omega)))), rfl, fun _ => ⟨_, e_eq (e_addT (xs := r.map fun k => PyData.int (k : Nat)) (ys := [.int (j : Nat)]) (e_var 5) (e_tup (a_cons (e_var 6) a_nil)) ?_) ?_, rfl⟩⟩
    · rw [List.length_map, hr.1]; exact Nat.le_trans (show k + 1 ≤ 10 by omega) (by decide)
    · rw [Function.comp, rowN, List.map_append]; rfl
  · rw [Int.toNat_natCast, rng_len]; omega
  · have h1 : (l1.foldl (fun s r => s ++ nextM m r) [] ++ nextM m r).length ≤ 20 := by
      refine Nat.le_trans ?_ (cho_few m hm (k + 1) (by omega))
      rw [ek, e, foldl_app, foldl_app]
      simp
    rw [List.length_append] at h1
    rw [List.length_map, List.length_map]
    omega
  · rw [List.map_append]; rfl
/-! ### parters -/
def R_parters (ds : List PyData) (d : PyData) : Prop := ∃ (f : Face) (p : Prs), FOk f ∧ f.2.length < 6 ∧ ds = [faceD f, prsD p] ∧ d = .tuple ((partersM f p).map chD)
theorem sc61 : FnScope ["face", "pairs", "letters", "due", "count", "row", "marks", "left", "place"] ["face", "pairs"] (defScope (topS 61)) := ⟨rfl, rfl, rfl, by decide +kernel, rfl, by decide +kernel, by decide +kernel⟩
theorem let_ix {ls : List Nat} {k : Nat} (h : k < ls.length) : atI (ls.map chD) (k : Int) = some (chD (ls.getD k 0)) := by
  rw [atI_nat _ _ (by rw [List.length_map]; exact h), List.getElem?_map, List.getD_eq_getElem?_getD, List.getElem?_eq_getElem h]
  rfl
def resD (f : Face) (p : Prs) (c : Nat) : PyData := match (choM f.2.length c).find? (goodM f p) with
  | some row => .tuple ((row.map fun k => (lets f).getD k 0).map chD)
  | none => .none
theorem ok_parters (T : Glo mg) (H1 : Hs P w K mg base "letters_of" 1 R_letters_of) (H2 : Hs P w K mg base "left_parting" 3 R_left_parting) (H3 : Hs P w K mg base "choices" 1 R_choices) (H4 : Hs P w K mg base "gap_in" 1 R_gap_in) (F : FnP K "parters" (topS 61) f fd) : FnOk P w K mg base CX0 4 f fd ["face", "pairs"] (spP K R_parters) := by
  refine fn_pure F sc61 (fun ds d ⟨_, _, _, _, e, _⟩ => by rw [e]; rfl) fun ds d hR => ?_
  obtain ⟨f, p, hf, h6, rfl, rfl⟩ := hR
  have hn : (lets f).length = f.2.length := lets_len f
  have hlen : (((lets f).map chD).length : Int) = (f.2.length : Int) := by rw [List.length_map, hn]
  let st0 : List Sl := [.dat (faceD f), .dat (prsD p), .dat (.tuple ((lets f).map chD)), .dat (.int (((groupedM (lets f) (rowsM f p)).map grD).length : Nat)), .no, .no, .no, .no, .no]
  have hch : ∀ (c : Nat), c < f.2.length + 1 → R_choices [.int ((((lets f).map chD).length : Nat) : Int), .int ((0 + c : Nat) : Int)] (.list ((choM f.2.length c).map rowN)) := fun c hc => ⟨f.2.length, c, h6, by omega, by rw [Nat.zero_add, List.length_map, hn], rfl⟩
  cases e : (List.range (f.2.length + 1)).find? fun c => ((choM f.2.length c).find? (goodM f p)).isSome with
  | none =>
    have ef : foundM f p = none := by rw [foundM, find_bind, e]; rfl
    refine ⟨.rt (.tuple ((lets f).map chD)) _, fin_rt_of (by rw [partersM, ef]), show BX _ _ _ [.dat (faceD f), .dat (prsD p), .no, .no, .no, .no, .no, .no, .no] _ from
      b_cons (s_set 2 sc61.nd (e_call H1 (a_cons (e_var 0) a_nil) ⟨f, hf, rfl, rfl⟩)) (b_cons (s_set 3 sc61.nd (e_lenT T.len (e_call H2 (a_cons (e_var 0) (a_cons (e_var 1) a_nil)) ⟨f, p, hf, rfl, rfl⟩)))
      (b_cons (s_for (o := .nx st0) (items := (List.range (f.2.length + 1)).map fun c => .int ((0 + c : Nat) : Int)) (i_as (i_range1 (j := (((lets f).map chD).length : Int) + 1) T.range (e_add (e_lenT (xs := (lets f).map chD) T.len (e_var 2)) e_int) (by rw [hlen]; omega) (by rw [hlen]; omega)) ?_) ?_) (b_ret (s_ret (e_var 2)))))⟩
    · rw [hlen, show ((f.2.length : Int) + 1).toNat = f.2.length + 1 by omega, show (0 : Int) = ((0 : Nat) : Int) from rfl, rng_nat]
    · refine lp_none (fun c : Nat => .int ((0 + c : Nat) : Int)) _ _ _ e fun c hcr hp => ?_
      have hc := List.mem_range.mp hcr
      have ei : (choM f.2.length c).find? (goodM f p) = none := by simpa using hp
      refine ⟨[4], [.int ((0 + c : Nat) : Int)], _, [4], g_name 4 sc61.nd, b_cons (s_for (o := .nx [.dat (faceD f), .dat (prsD p), .dat (.tuple ((lets f).map chD)), .dat (.int (((groupedM (lets f) (rowsM f p)).map grD).length : Nat)), .dat (.int ((0 + c : Nat) : Int)), .no, .no, .no, .no]) (i_list (e_call H3 (a_cons (e_lenT (xs := (lets f).map chD) T.len (e_var 2)) (a_cons (e_var 4) a_nil)) (hch c hc))) ?_) b_nil, rfl⟩
      refine lp_none rowN (goodM f p) _ _ ei fun row hr hq => ?_
      have hro := cho_ok hr
      refine ⟨[5], [rowN row], _, [5, 6], g_name 5 sc61.nd, b_cons (s_setLc (ys := (marksM f p row).map rowD) 6 (own := [("left", 7)]) sc61.nd (by kernel_rfl) (i_tup (e_var 2)) ?_ ?_) (b_cons (s_ifF (t_is (t_eqP (e_lenSet (rows := marksM f p row) T.len T.set (e_var 6) (by rw [marksM, List.length_map, hn]; omega)) (e_var 3) (Nat.zero_le _)) (by rw [q_nat, List.length_map]; exact hq)) b_nil) b_nil), rfl⟩
      · rw [marksM, List.map_map]
        refine lc_map chD _ _ fun l hl => ⟨[7], [chD l], _, g_name 7 sc61.nd, by simp, e_tuple T.tuple (e_lc (ys := (row.map fun k => gapIn p l ((lets f).getD k 0)).map .int) (own := [("place", 8)]) sc61.nd (by kernel_rfl) (i_tup (e_var 5)) ?_ ?_), rfl⟩
        · rw [List.map_map]
          exact lc_map (fun k : Nat => PyData.int (k : Nat)) _ _ fun k hk => ⟨[8], [.int (k : Nat)], _, g_name 8 sc61.nd, by simp, e_call H4 (a_cons (e_var 1) (a_cons (e_var 7) (a_cons (e_ixT (ds := (lets f).map chD) (i := (k : Nat)) (e_var 2) (e_var 8) (let_ix (by rw [hn]; exact hro.2 k hk))) a_nil))) ⟨p, l, _, rfl, rfl⟩, rfl⟩
        · rw [List.length_map, hro.1]; omega
      · rw [List.length_map, hn]; omega
  | some c0 =>
    have hs := List.find?_some e
    have ef : foundM f p = (choM f.2.length c0).find? (goodM f p) := by rw [foundM, find_bind, e]; rfl
    have er : PyData.tuple ((partersM f p).map chD) = resD f p c0 := by
      rw [partersM, ef, resD]
      cases z : (choM f.2.length c0).find? (goodM f p) with
      | none => rw [z] at hs; cases hs
      | some row => rfl
    rw [er]
    refine ⟨.rt (resD f p c0) (List.replicate 9 .no), fin_rt, show BX _ _ _ [.dat (faceD f), .dat (prsD p), .no, .no, .no, .no, .no, .no, .no] _ from
      b_cons (s_set 2 sc61.nd (e_call H1 (a_cons (e_var 0) a_nil) ⟨f, hf, rfl, rfl⟩)) (b_cons (s_set 3 sc61.nd (e_lenT T.len (e_call H2 (a_cons (e_var 0) (a_cons (e_var 1) a_nil)) ⟨f, p, hf, rfl, rfl⟩)))
      (b_ret (s_for (o := .rt (resD f p c0) (List.replicate 9 .no)) (items := (List.range (f.2.length + 1)).map fun c => .int ((0 + c : Nat) : Int)) (i_as (i_range1 (j := (((lets f).map chD).length : Int) + 1) T.range (e_add (e_lenT (xs := (lets f).map chD) T.len (e_var 2)) e_int) (by rw [hlen]; omega) (by rw [hlen]; omega)) ?_) ?_)))⟩
    · rw [hlen, show ((f.2.length : Int) + 1).toNat = f.2.length + 1 by omega, show (0 : Int) = ((0 : Nat) : Int) from rfl, rng_nat]
    · refine lp_find (ρ' := fun _ => List.replicate 9 .no) (fun c : Nat => .int ((0 + c : Nat) : Int)) _ (resD f p) _ _ e fun c hcr => ?_
      have hc := List.mem_range.mp hcr
      refine ⟨[4], [.int ((0 + c : Nat) : Int)], g_name 4 sc61.nd, fun hp => ?_, fun hp => ?_⟩
      · have ei : (choM f.2.length c).find? (goodM f p) = none := by simpa using hp
        refine ⟨[.dat (faceD f), .dat (prsD p), .dat (.tuple ((lets f).map chD)), .dat (.int (((groupedM (lets f) (rowsM f p)).map grD).length : Nat)), .dat (.int ((0 + c : Nat) : Int)), .no, .no, .no, .no], [4], b_cons (s_for (o := .nx [.dat (faceD f), .dat (prsD p), .dat (.tuple ((lets f).map chD)), .dat (.int (((groupedM (lets f) (rowsM f p)).map grD).length : Nat)), .dat (.int ((0 + c : Nat) : Int)), .no, .no, .no, .no]) (i_list (e_call H3 (a_cons (e_lenT (xs := (lets f).map chD) T.len (e_var 2)) (a_cons (e_var 4) a_nil)) (hch c hc))) ?_) b_nil, rfl⟩
        refine lp_none rowN (goodM f p) _ _ ei fun row hr hq => ?_
        have hro := cho_ok hr
        refine ⟨[5], [rowN row], _, [5, 6], g_name 5 sc61.nd, b_cons (s_setLc (ys := (marksM f p row).map rowD) 6 (own := [("left", 7)]) sc61.nd (by kernel_rfl) (i_tup (e_var 2)) ?_ ?_) (b_cons (s_ifF (t_is (t_eqP (e_lenSet (rows := marksM f p row) T.len T.set (e_var 6) (by rw [marksM, List.length_map, hn]; omega)) (e_var 3) (Nat.zero_le _)) (by rw [q_nat, List.length_map]; exact hq)) b_nil) b_nil), rfl⟩
        · rw [marksM, List.map_map]
          refine lc_map chD _ _ fun l hl => ⟨[7], [chD l], _, g_name 7 sc61.nd, by simp, e_tuple T.tuple (e_lc (ys := (row.map fun k => gapIn p l ((lets f).getD k 0)).map .int) (own := [("place", 8)]) sc61.nd (by kernel_rfl) (i_tup (e_var 5)) ?_ ?_), rfl⟩
          · rw [List.map_map]
            exact lc_map (fun k : Nat => PyData.int (k : Nat)) _ _ fun k hk => ⟨[8], [.int (k : Nat)], _, g_name 8 sc61.nd, by simp, e_call H4 (a_cons (e_var 1) (a_cons (e_var 7) (a_cons (e_ixT (ds := (lets f).map chD) (i := (k : Nat)) (e_var 2) (e_var 8) (let_ix (by rw [hn]; exact hro.2 k hk))) a_nil))) ⟨p, l, _, rfl, rfl⟩, rfl⟩
          · rw [List.length_map, hro.1]; omega
        · rw [List.length_map, hn]; omega
      · obtain ⟨row0, ei⟩ := Option.isSome_iff_exists.mp hp
        have er2 : resD f p c = .tuple ((row0.map fun k => (lets f).getD k 0).map chD) := by rw [resD, ei]
        rw [er2]
        refine b_ret (s_for (o := .rt (.tuple ((row0.map fun k => (lets f).getD k 0).map chD)) (List.replicate 9 .no)) (i_list (e_call H3 (a_cons (e_lenT (xs := (lets f).map chD) T.len (e_var 2)) (a_cons (e_var 4) a_nil)) (hch c hc))) ?_)
        refine lp_find (ρ' := fun _ => List.replicate 9 .no) rowN (goodM f p) (fun row => .tuple ((row.map fun k => (lets f).getD k 0).map chD)) _ _ ei fun row hr => ?_
        have hro := cho_ok hr
        refine ⟨[5], [rowN row], g_name 5 sc61.nd, fun hq => ⟨_, [5, 6], b_cons (s_setLc (ys := (marksM f p row).map rowD) 6 (own := [("left", 7)]) sc61.nd (by kernel_rfl) (i_tup (e_var 2)) ?_ ?_) (b_cons (s_ifF (t_is (t_eqP (e_lenSet (rows := marksM f p row) T.len T.set (e_var 6) (by rw [marksM, List.length_map, hn]; omega)) (e_var 3) (Nat.zero_le _)) (by rw [q_nat, List.length_map]; exact hq)) b_nil) b_nil), rfl⟩, fun hq => b_rt0 (b_cons (s_setLc (ys := (marksM f p row).map rowD) 6 (own := [("left", 7)]) sc61.nd (by kernel_rfl) (i_tup (e_var 2)) ?_ ?_) (b_ret (s_ifT (t_is (t_eqP (e_lenSet (rows := marksM f p row) T.len T.set (e_var 6) (by rw [marksM, List.length_map, hn]; omega)) (e_var 3) (Nat.zero_le _)) (by rw [q_nat, List.length_map]; exact hq)) (b_ret (s_ret (e_tuple T.tuple (e_lc (own := [("place", 8)]) sc61.nd (by kernel_rfl) (i_tup (e_var 5)) ?_ ?_)))))))⟩
        · rw [marksM, List.map_map]
          refine lc_map chD _ _ fun l hl => ⟨[7], [chD l], _, g_name 7 sc61.nd, by simp, e_tuple T.tuple (e_lc (ys := (row.map fun k => gapIn p l ((lets f).getD k 0)).map .int) (own := [("place", 8)]) sc61.nd (by kernel_rfl) (i_tup (e_var 5)) ?_ ?_), rfl⟩
          · rw [List.map_map]
            exact lc_map (fun k : Nat => PyData.int (k : Nat)) _ _ fun k hk => ⟨[8], [.int (k : Nat)], _, g_name 8 sc61.nd, by simp, e_call H4 (a_cons (e_var 1) (a_cons (e_var 7) (a_cons (e_ixT (ds := (lets f).map chD) (i := (k : Nat)) (e_var 2) (e_var 8) (let_ix (by rw [hn]; exact hro.2 k hk))) a_nil))) ⟨p, l, _, rfl, rfl⟩, rfl⟩
          · rw [List.length_map, hro.1]; omega
        · rw [List.length_map, hn]; omega
        · rw [marksM, List.map_map]
          refine lc_map chD _ _ fun l hl => ⟨[7], [chD l], _, g_name 7 sc61.nd, by simp, e_tuple T.tuple (e_lc (ys := (row.map fun k => gapIn p l ((lets f).getD k 0)).map .int) (own := [("place", 8)]) sc61.nd (by kernel_rfl) (i_tup (e_var 5)) ?_ ?_), rfl⟩
          · rw [List.map_map]
            exact lc_map (fun k : Nat => PyData.int (k : Nat)) _ _ fun k hk => ⟨[8], [.int (k : Nat)], _, g_name 8 sc61.nd, by simp, e_call H4 (a_cons (e_var 1) (a_cons (e_var 7) (a_cons (e_ixT (ds := (lets f).map chD) (i := (k : Nat)) (e_var 2) (e_var 8) (let_ix (by rw [hn]; exact hro.2 k hk))) a_nil))) ⟨p, l, _, rfl, rfl⟩, rfl⟩
          · rw [List.length_map, hro.1]; omega
        · rw [List.length_map, hn]; omega
        · rw [List.map_map]
          exact lc_map (fun k : Nat => PyData.int (k : Nat)) _ _ fun k hk => ⟨[8], [.int (k : Nat)], _, g_name 8 sc61.nd, by simp, e_ixT (ds := (lets f).map chD) (i := (k : Nat)) (e_var 2) (e_var 8) (let_ix (by rw [hn]; exact hro.2 k hk)), rfl⟩
        · rw [List.length_map, hro.1]; omega
end
end Sg
namespace Sg
open PySem PySem.Spec PyProof.Rows L2
/-! ### draws -/
abbrev Box := Int × Int
def bxD (b : Box) : List PyData := [.int b.1, .int b.2]
def takeM (b : Box) (m : Nat) : Box × Nat :=
  if 0 < b.1 then ((b.1 / (m : Int), b.2), (b.1 % (m : Int)).toNat)
  else ((b.1, (b.2 * 48271 + 11) % 2147483647), (((b.2 * 48271 + 11) % 2147483647 / 1009 + 1) * ((b.2 * 48271 + 11) % 2147483647 / 1009 + 1) * ((b.2 * 48271 + 11) % 2147483647 / 1009 + 1) % 2147483629 / 61 % (m : Int)).toNat)
theorem take_lt (b : Box) {m : Nat} (h : 0 < m) : (takeM b m).2 < m := by
  have h0 : (0 : Int) < (m : Int) := by omega
  rw [takeM]
  split
  · have h1 := Int.emod_nonneg b.1 (Int.ne_of_gt h0)
    have h2 := Int.emod_lt_of_pos b.1 h0
    simp only
    omega
  · simp only
    generalize ((b.2 * 48271 + 11) % 2147483647 / 1009 + 1) * ((b.2 * 48271 + 11) % 2147483647 / 1009 + 1) * ((b.2 * 48271 + 11) % 2147483647 / 1009 + 1) % 2147483629 / 61 = z
    have h1 := Int.emod_nonneg z (Int.ne_of_gt h0)
    have h2 := Int.emod_lt_of_pos z h0
    omega
def alph : List Nat := (List.range 26).map fun k => 97 + k
def wordS (ls : List Nat) (b : Box) (_ : Nat) : Box × Nat := ((takeM b ls.length).1, ls.getD (takeM b ls.length).2 0)
def wordM (b : Box) (ls : List Nat) : Box × List Nat := (accS (wordS ls) (takeM b 3).1 (List.range (1 + (takeM b 3).2)), accV (wordS ls) (takeM b 3).1 (List.range (1 + (takeM b 3).2)))
def faceS (s : Box × List Nat) (_ : Nat) : (Box × List Nat) × (Nat × Int) :=
  (((takeM (takeM s.1 s.2.length).1 90).1, s.2.eraseIdx (takeM s.1 s.2.length).2), (s.2.getD (takeM s.1 s.2.length).2 0, 10 + ((takeM (takeM s.1 s.2.length).1 90).2 : Int)))
def faceL (b : Box) : (Box × List Nat) × List (Nat × Int) := (accS faceS ((takeM b 4).1, alph) (List.range (1 + (takeM b 4).2)), accV faceS ((takeM b 4).1, alph) (List.range (1 + (takeM b 4).2)))
def faceM (b : Box) : Box × Face := ((takeM (faceL b).1.1 99).1, (1 + ((takeM (faceL b).1.1 99).2 : Int), (faceL b).2))
def someM (f : Face) : List Nat := alph.filter fun c => !decide (c ∈ lets f)
def freshM (b : Box) (f : Face) : Box × Nat := ((takeM b (someM f).length).1, (someM f).getD (takeM b (someM f).length).2 0)
def swapS (a o : Nat) (s : Box × List Nat) (c : Nat) : Box × List Nat :=
  if c = o then ((takeM s.1 2).1, s.2 ++ [if (takeM s.1 2).2 = 0 then a else c]) else (s.1, s.2 ++ [c])
def swapM (b : Box) (t : List Nat) (a o : Nat) : Box × List Nat := t.foldl (swapS a o) (b, [])
def sameM (ls os : List (List Nat)) (t : List Nat) : Bool := decide (ls.map (·.length) = os.map (·.length)) && decide (joinB os = t)
theorem acc_len {α β σt : Type} (step : σt → α → σt × β) : ∀ (l : List α) (s : σt), (accV step s l).length = l.length
  | [], s => rfl
  | a :: l, s => by rw [accV, List.length_cons, List.length_cons, acc_len step l]
theorem joinC : ∀ cs : List Nat, TL.joinL [] (cs.map fun c => [c]) = cs
  | [] => rfl
  | [c] => rfl
  | c :: d :: r => by
    have := joinC (d :: r)
    simp only [List.map_cons] at this ⊢
    simp only [TL.joinL, this, List.nil_append, List.cons_append]
theorem join_chars (cs : List Nat) : PyData.str (Txt.join (Str.ofString "") (cs.map fun c => (⟨#[c]⟩ : Str))) = txD cs := by
  have e1 : Str.ofString "" = txS [] := by kernel_rfl
  have e2 : (cs.map fun c => (⟨#[c]⟩ : Str)) = (cs.map fun c => [c]).map txS := by rw [List.map_map]; rfl
  rw [e1, e2]
  refine congrArg PyData.str ((_root_.SX.join_S [] (cs.map fun c => [c])).trans ?_)
  rw [joinC]; rfl
theorem nodup_sub {α : Type} [BEq α] [LawfulBEq α] : ∀ {l m : List α}, l.Nodup → (∀ x ∈ l, x ∈ m) → l.length ≤ m.length
  | [], m, _, _ => Nat.zero_le _
  | a :: l, m, h, hs => by
    have ha := hs a List.mem_cons_self
    have h1 : ∀ x ∈ l, x ∈ m.erase a := fun x hx => (List.mem_erase_of_ne (fun e : x = a => (List.nodup_cons.mp h).1 (by rw [← e]; exact hx))).mpr (hs x (List.mem_cons_of_mem _ hx))
    have h2 := nodup_sub (List.nodup_cons.mp h).2 h1
    rw [List.length_erase_of_mem ha] at h2
    have h3 := List.length_pos_of_mem ha
    rw [List.length_cons]; omega
theorem alph_nodup : alph.Nodup := by decide +kernel
theorem some_pos {f : Face} (h : FOk f) : 0 < (someM f).length := by
  refine Nat.pos_of_ne_zero fun z => ?_
  have h0 : someM f = [] := List.length_eq_zero_iff.mp z
  have h1 : ∀ c ∈ alph, c ∈ lets f := fun c hc => by
    refine Classical.byContradiction fun hn => ?_
    have : c ∈ someM f := List.mem_filter.mpr ⟨hc, by simp [hn]⟩
    rw [h0] at this
    simp at this
  have h2 := nodup_sub alph_nodup h1
  rw [lets_len] at h2
  have := h.len
  have h3 : alph.length = 26 := by decide
  omega
theorem some_le (f : Face) : (someM f).length ≤ 26 := Nat.le_trans (List.length_filter_le _ _) (by decide)
theorem alph_lt {c : Nat} (h : c ∈ alph) : isLt c := by
  obtain ⟨k, hk, rfl⟩ := List.mem_map.mp h
  have := List.mem_range.mp hk
  exact ⟨by omega, by omega⟩
end Sg
namespace Sg
open PySem PySem.Spec PyProof.Rows L2
abbrev Hb (P : Program) (w : World) (K : PySem.W.Frag) (mg : Str → Option Value) (base : Heap) (x : Str) (j : Nat) (R : List PyData → List PyData → PyData → List PyData → Prop) : Prop := Has P w K mg base x j (spB K R)
section
variable {P : Program} {w : World} {K : PySem.W.Frag} {mg : Str → Option Value} {base : Heap} {f : Addr} {fd : FuncData}
/-! ### _law_take -/
def R_take (bs ds : List PyData) (d : PyData) (bs' : List PyData) : Prop := ∃ (b : Box) (m : Nat), 0 < m ∧ m < 1000 ∧ bs = bxD b ∧ ds = [.int (m : Nat)] ∧ d = .int ((takeM b m).2 : Nat) ∧ bs' = bxD (takeM b m).1
theorem sc64 : FnScope ["_law_box_here", "_law_many", "_law_digit", "_law_high"] ["_law_box_here", "_law_many"] (defScope (topS 64)) := ⟨rfl, rfl, rfl, by decide +kernel, rfl, by decide +kernel, by decide +kernel⟩
theorem ok_take (T : Glo mg) (F : FnP K "_law_take" (topS 64) f fd) : FnOk P w K mg base CX0 1 f fd ["_law_box_here", "_law_many"] (spB K R_take) := by
  refine fn_box F sc64 (fun bs ds d bs' ⟨_, _, _, _, _, e, _⟩ => by rw [e]; rfl) fun bs ds d bs' hR q => ?_
  obtain ⟨b, m, hm, hm2, rfl, rfl, rfl, rfl⟩ := hR
  have h0 : (0 : Int) < (m : Int) := by omega
  by_cases hb : 0 < b.1
  · have e1 : (takeM b m).1 = (b.1 / (m : Int), b.2) := by rw [takeM, if_pos hb]
    have e2 : ((takeM b m).2 : Int) = b.1 % (m : Int) := by
      rw [takeM, if_pos hb]
      exact Int.toNat_of_nonneg (Int.emod_nonneg _ (Int.ne_of_gt h0))
    rw [e1, e2]
    exact ⟨_, rfl, show BX _ _ _ [.mut q [.int b.1, .int b.2], .dat (.int (m : Nat)), .no, .no] _ from b_ret (s_ifT (t_is (t_gt (e_ixM 0 (i := 0) e_int rfl rfl rfl) e_int) (decide_eq_true hb)) (b_cons (s_asgMN 0 2 (kk := 0) (j := 0) sc64.nd (e_divmod T.divmod (e_ixM 0 (i := 0) e_int rfl rfl rfl) (e_var 1) ⟨h0, by omega⟩) e_int rfl rfl) (b_ret (s_ret (e_var 2)))))⟩
  · have e1 : (takeM b m).1 = (b.1, (b.2 * 48271 + 11) % 2147483647) := by rw [takeM, if_neg hb]
    have h1 := Int.emod_nonneg (b.2 * 48271 + 11) (show (2147483647 : Int) ≠ 0 by decide)
    have h2 := Int.emod_lt_of_pos (b.2 * 48271 + 11) (show (0 : Int) < 2147483647 by decide)
    have e2 : ((takeM b m).2 : Int) = ((b.2 * 48271 + 11) % 2147483647 / 1009 + 1) * ((b.2 * 48271 + 11) % 2147483647 / 1009 + 1) * ((b.2 * 48271 + 11) % 2147483647 / 1009 + 1) % 2147483629 / 61 % (m : Int) := by
      rw [takeM, if_neg hb]
      exact Int.toNat_of_nonneg (Int.emod_nonneg _ (Int.ne_of_gt h0))
    rw [e1, e2]
    generalize hs : (b.2 * 48271 + 11) % 2147483647 = s at *
    have hc : CMul (s / 1009 + 1) (s / 1009 + 1) := .inl ⟨by omega, by omega⟩
    have hc2 : CMul ((s / 1009 + 1) * (s / 1009 + 1)) (s / 1009 + 1) := .inr ⟨by omega, by omega⟩
    exact ⟨_, rfl, show BX _ _ _ [.mut q [.int b.1, .int b.2], .dat (.int (m : Nat)), .no, .no] _ from b_cons (s_ifF (t_is (t_gt (e_ixM 0 (i := 0) e_int rfl rfl rfl) e_int) (decide_eq_false hb)) b_nil)
      (b_cons (s_setM 0 (kk := 1) (j := 1) (d := .int s) (e_eq (e_mod (e_add (e_mul (e_ixM 0 (i := 1) e_int rfl rfl rfl) e_int (.inr ⟨by decide, by decide⟩)) e_int) e_int (by decide)) (by rw [hs])) e_int rfl rfl rfl)
      (b_cons (s_set 3 sc64.nd (e_add (e_fdiv (e_ixM 0 (i := 1) e_int rfl rfl rfl) e_int ⟨by decide, by decide⟩) e_int))
      (b_ret (s_ret (e_mod (e_fdiv (e_mod (e_mul (e_mul (e_var 3) (e_var 3) hc) (e_var 3) hc2) e_int (by decide)) e_int ⟨by decide, by decide⟩) (e_var 1) h0)))))⟩
/-! ### _law_letters, _law_list -/
def R_letters (ds : List PyData) (d : PyData) : Prop := ∃ f : Face, FOk f ∧ ds = [faceD f] ∧ d = .list ((lets f).map chD)
theorem sc66 : FnScope ["_law_face_here", "_law_one"] ["_law_face_here"] (defScope (topS 66)) := ⟨rfl, rfl, rfl, by decide +kernel, rfl, by decide +kernel, by decide +kernel⟩
theorem ok_letters (T : Glo mg) (F : FnP K "_law_letters" (topS 66) f fd) : FnOk P w K mg base CX0 1 f fd ["_law_face_here"] (spP K R_letters) := by
  refine fn_pure F sc66 (fun ds d ⟨f, _, e, _⟩ => by rw [e]; rfl) fun ds d hR => ?_
  obtain ⟨f, hf, rfl, rfl⟩ := hR
  refine ⟨_, fin_rt, show BX _ _ _ [.dat (faceD f), .no] _ from b_ret (s_ret (e_lc (ys := (lets f).map chD) (own := [("_law_one", 1)]) sc66.nd (by kernel_rfl) (i_tup (e_ixT (e_var 0) e_int rfl)) ?_ ?_))⟩
  · rw [lets, List.map_map]
    exact lc_map ltD _ f.2 fun a ha => ⟨[1], [ltD a], _, g_name 1 sc66.nd, by simp, e_ixT (e_var 1) e_int rfl, rfl⟩
  · rw [List.length_map]; exact Nat.le_trans hf.len (by decide)
def prS (ls : List Nat) (l : Nat) (s : Prs) (x : Nat × Int) : Prs := if x.2 = 0 then s else s ++ [(l, x.1, x.2)]
theorem prS_fold (l : Nat) : ∀ (xs : List (Nat × Int)) (s : Prs), xs.foldl (prS [] l) s = s ++ (xs.filter fun q => q.2 != 0).map fun q => (l, q.1, q.2)
  | [], s => by simp
  | x :: xs, s => by
    rw [List.foldl_cons, prS_fold l xs, prS]
    by_cases h : x.2 = 0
    · rw [if_pos h, List.filter_cons_of_neg (by simp [h])]
    · rw [if_neg h, List.filter_cons_of_pos (by simp [h])]; simp
theorem sc68 : FnScope ["_law_face_here", "_law_rows_here", "_law_letters_here", "_law_found", "_law_left", "_law_row", "_law_right", "_law_gap"] ["_law_face_here", "_law_rows_here"] (defScope (topS 68)) := ⟨rfl, rfl, rfl, by decide +kernel, rfl, by decide +kernel, by decide +kernel⟩
theorem ok_list (T : Glo mg) (H1 : Hs P w K mg base "_law_letters" 1 R_letters) (F : FnP K "_law_list" (topS 68) f fd) : FnOk P w K mg base CX0 2 f fd ["_law_face_here", "_law_rows_here"] (spP K R_from_rows) := by
  refine fn_pure F sc68 (fun ds d ⟨_, _, _, _, e, _⟩ => by rw [e]; rfl) fun ds d hR => ?_
  obtain ⟨f, rows, hf, hr, rfl, rfl⟩ := hR
  refine ⟨.rt (prsD (fromRows (lets f) rows)) (List.replicate 8 .no), fin_rt, show BX _ _ _ [.dat (faceD f), .dat (.list (rows.map rowL)), .no, .no, .no, .no, .no, .no] _ from b_cons (s_set 2 sc68.nd (e_call H1 (a_cons (e_var 0) a_nil) ⟨f, hf, rfl, rfl⟩)) (b_new 3 sc68.nd (el_lst a_nil) fun q _ => b_rt0 (b_cons (s_for (o := .nx [.dat (faceD f), .dat (.list (rows.map rowL)), .dat (.list ((lets f).map chD)), .mut q ((fromRows (lets f) rows).map prD), .no, .no, .no, .no]) (i_zip T.zip (e_var 2) (e_var 1) (by exact rfl) (by exact rfl)) ?_) (b_ret (s_ret (e_tupleM 3 T.tuple)))))⟩
  rw [zp_map]
  have e : fromRows (lets f) rows = ((lets f).zip rows).foldl (fun s q => s ++ rowPrs (lets f) q.1 q.2) [] := by rw [foldl_app]; rfl
  rw [e]
  refine lp_fold (fun q : Nat × List Int => PyData.tuple [chD q.1, rowL q.2]) (fun s q => s ++ rowPrs (lets f) q.1 q.2) (fun s => [.dat (faceD f), .dat (.list (rows.map rowL)), .dat (.list ((lets f).map chD)), .mut q (s.map prD), .no, .no, .no, .no]) ((lets f).zip rows) [] fun l1 a l2 hl => ?_
  have hlen : (l1.foldl (fun s q => s ++ rowPrs (lets f) q.1 q.2) []).length + (rowPrs (lets f) a.1 a.2).length ≤ 200 := by
    rw [foldl_app, List.nil_append]
    have h1 := flat_len (lets f) l1
    have h2 := rowPrs_len (lets f) a.1 a.2
    have h3 : l1.length ≤ 10 := by
      have : (l1 ++ a :: l2).length ≤ 10 := by rw [← hl, List.length_zip, lets_len]; have := hf.len; omega
      simp at this; omega
    have h4 : (lets f).length ≤ 10 := by rw [lets_len]; exact hf.len
    have h5 : l1.length * (lets f).length ≤ 10 * 10 := Nat.mul_le_mul h3 h4
    omega
  generalize l1.foldl (fun s q => s ++ rowPrs (lets f) q.1 q.2) [] = s at *
  have e2 : s ++ rowPrs (lets f) a.1 a.2 = ((lets f).zip a.2).foldl (prS [] a.1) s := by rw [prS_fold]; rfl
  refine ⟨_, _, _, [4, 5], g_tup (gs_cons (g_name 4 sc68.nd) (gs_cons (g_name 5 sc68.nd) gs_nil)), b_cons (s_for (o := .nx [.dat (faceD f), .dat (.list (rows.map rowL)), .dat (.list ((lets f).map chD)), .mut q ((s ++ rowPrs (lets f) a.1 a.2).map prD), .dat (chD a.1), .dat (rowL a.2), .no, .no]) (i_zip T.zip (e_var 2) (e_var 5) (by exact rfl) (by exact rfl)) ?_) b_nil, rfl⟩
  rw [zp_map, e2]
  refine lp_fold (fun r : Nat × Int => PyData.tuple [chD r.1, .int r.2]) (prS [] a.1) (fun s => [.dat (faceD f), .dat (.list (rows.map rowL)), .dat (.list ((lets f).map chD)), .mut q (s.map prD), .dat (chD a.1), .dat (rowL a.2), .no, .no]) ((lets f).zip a.2) s fun k1 r k2 hk => ?_
  have hl2 : (k1.foldl (prS [] a.1) s).length ≤ 200 := by
    rw [prS_fold, List.length_append]
    have h6 : ((k1.filter fun q => q.2 != 0).map fun q => (a.1, q.1, q.2)).length ≤ (rowPrs (lets f) a.1 a.2).length := by
      rw [rowPrs, hk, List.filter_append, List.map_append, List.length_append]
      omega
    omega
  generalize k1.foldl (prS [] a.1) s = s1 at *
  by_cases hz : r.2 = 0
  · rw [prS, if_pos hz]
    exact ⟨_, _, _, [6, 7], g_tup (gs_cons (g_name 6 sc68.nd) (gs_cons (g_name 7 sc68.nd) gs_nil)), b_cons (s_ifF (t_is (t_neP (e_var 7) e_int (Nat.zero_le _)) (by rw [q_int]; simp [hz])) b_nil) b_nil, rfl⟩
  · rw [prS, if_neg hz]
    refine ⟨_, _, _, [6, 7], g_tup (gs_cons (g_name 6 sc68.nd) (gs_cons (g_name 7 sc68.nd) gs_nil)), b_cons (s_ifT (t_is (t_neP (e_var 7) e_int (Nat.zero_le _)) (by rw [q_int]; simp [hz])) (b_cons (s_append 3 (e_tup (a_cons (e_var 4) (a_cons (e_var 6) (a_cons (e_var 7) a_nil)))) rfl rfl (by rw [List.length_map]; omega)) b_nil)) b_nil, ?_⟩
    rw [List.map_append]; rfl
/-! ### _law_fresh -/
def R_fresh (bs ds : List PyData) (d : PyData) (bs' : List PyData) : Prop := ∃ (b : Box) (f : Face), FOk f ∧ bs = bxD b ∧ ds = [faceD f] ∧ d = chD (freshM b f).2 ∧ bs' = bxD (freshM b f).1
theorem sc70 : FnScope ["_law_box_here", "_law_face_here", "_law_letters_here", "_law_some", "_law_letter"] ["_law_box_here", "_law_face_here"] (defScope (topS 70)) := ⟨rfl, rfl, rfl, by decide +kernel, rfl, by decide +kernel, by decide +kernel⟩
theorem alphS : signD (Str.ofString "abcdefghijklmnopqrstuvwxyz") = alph.map chD := by kernel_rfl
theorem ch_ix {ls : List Nat} {k : Nat} (h : k < ls.length) : atI (ls.map chD) (k : Int) = some (chD (ls.getD k 0)) := let_ix h
theorem any_ch (ls : List Nat) (c : Nat) : ((ls.map chD).any fun z => PyData.eqv z (chD c)) = decide (c ∈ ls) := by
  rw [List.any_map, Bool.eq_iff_iff, List.any_eq_true, decide_eq_true_eq]
  constructor
  · rintro ⟨x, hx, hy⟩
    rw [Function.comp, q_ch] at hy
    rw [← of_decide_eq_true hy]; exact hx
  · intro hx
    exact ⟨c, hx, by rw [Function.comp, q_ch]; simp⟩
theorem ok_fresh (T : Glo mg) (H1 : Hs P w K mg base "_law_letters" 1 R_letters) (H2 : Hb P w K mg base "_law_take" 1 R_take) (F : FnP K "_law_fresh" (topS 70) f fd) : FnOk P w K mg base CX0 2 f fd ["_law_box_here", "_law_face_here"] (spB K R_fresh) := by
  refine fn_box F sc70 (fun bs ds d bs' ⟨_, _, _, _, e, _⟩ => by rw [e]; rfl) fun bs ds d bs' hR q => ?_
  obtain ⟨b, f, hf, rfl, rfl, rfl, rfl⟩ := hR
  have hs := some_pos hf
  have hs2 := some_le f
  refine ⟨_, rfl, show BX _ _ _ [.mut q (bxD b), .dat (faceD f), .no, .no, .no] (.rt _ [.mut q (bxD (freshM b f).1), .dat (faceD f), .dat (.list ((lets f).map chD)), .dat (.list ((someM f).map chD)), .no]) from b_cons (s_set 2 sc70.nd (e_call H1 (a_cons (e_var 1) a_nil) ⟨f, hf, rfl, rfl⟩)) (b_cons (s_setLc (ys := (someM f).map chD) 3 (own := [("_law_letter", 4)]) sc70.nd (by kernel_rfl) (i_str e_str) ?_ ?_)
    (b_ret (s_ret (e_ixL (ds := (someM f).map chD) (i := ((takeM b (someM f).length).2 : Nat)) (e_var 3) (e_callB 0 H2 (a_cons (e_lenL (xs := (someM f).map chD) T.len (e_var 3)) a_nil) rfl rfl ⟨b, (someM f).length, hs, by omega, rfl, by rw [List.length_map], rfl, rfl⟩) (ch_ix (take_lt b hs))))))⟩
  · rw [alphS, someM]
    refine lc_filter chD _ (fun c => !decide (c ∈ lets f)) alph fun c hc => ?_
    exact ⟨[4], [chD c], _, g_name 4 sc70.nd, by simp, t_is (t_notInL (d := chD c) (ds := (lets f).map chD) (e_var 4) (e_var 2) (Nat.zero_le _)) (by rw [any_ch]), rfl, fun _ => ⟨_, e_var 4, rfl⟩⟩
  · rw [alphS, List.length_map]; decide
/-! ### _law_word -/
def R_word (bs ds : List PyData) (d : PyData) (bs' : List PyData) : Prop := ∃ (b : Box) (ls : List Nat), 0 < ls.length ∧ ls.length ≤ 10 ∧ bs = bxD b ∧ ds = [.list (ls.map chD)] ∧ d = txD (wordM b ls).2 ∧ bs' = bxD (wordM b ls).1
theorem sc71 : FnScope ["_law_box_here", "_law_letters_here", "_law_place"] ["_law_box_here", "_law_letters_here"] (defScope (topS 71)) := ⟨rfl, rfl, rfl, by decide +kernel, rfl, by decide +kernel, by decide +kernel⟩
theorem chars_len (cs : List Nat) : ((cs.map fun c => (⟨#[c]⟩ : Str)).map (·.length)).sum + (cs.map fun c => (⟨#[c]⟩ : Str)).length * (Str.ofString "").length = cs.length := by
  have : (Str.ofString "").length = 0 := by decide
  rw [this, Nat.mul_zero, Nat.add_zero, List.map_map]
  induction cs with
  | nil => rfl
  | cons c r ih => rw [List.map_cons, List.sum_cons, ih, List.length_cons]; show 1 + _ = _; omega
theorem ok_word (T : Glo mg) (H2 : Hb P w K mg base "_law_take" 1 R_take) (F : FnP K "_law_word" (topS 71) f fd) : FnOk P w K mg base CX0 2 f fd ["_law_box_here", "_law_letters_here"] (spB K R_word) := by
  refine fn_box F sc71 (fun bs ds d bs' ⟨_, _, _, _, _, e, _⟩ => by rw [e]; rfl) fun bs ds d bs' hR q => ?_
  obtain ⟨b, ls, hl, hl2, rfl, rfl, rfl, rfl⟩ := hR
  have h3 := take_lt b (show 0 < 3 by decide)
  refine ⟨_, rfl, show BX _ _ _ [.mut q (bxD b), .dat (.list (ls.map chD)), .no] (.rt _ [.mut q (bxD (wordM b ls).1), .dat (.list (ls.map chD)), .no]) from b_ret (s_ret (e_eq (e_join (zs := (wordM b ls).2.map fun c => ⟨#[c]⟩) e_str (e_lcM (ys := ((wordM b ls).2.map fun c => (⟨#[c]⟩ : Str)).map PyData.str) (own := [("_law_place", 2)]) sc71.nd (blkB_mk (by kernel_rfl)) (i_range1 (j := 1 + ((takeM b 3).2 : Int)) T.range (e_add e_int (e_callB 0 H2 (a_cons e_int a_nil) rfl rfl ⟨b, 3, by decide, by decide, rfl, rfl, rfl, rfl⟩)) (by omega) (by omega)) (ρ' := [.mut q (bxD (wordM b ls).1), .dat (.list (ls.map chD)), .no]) ?_ ?_ rfl rfl) ?_) (join_chars _)))⟩
  · rw [show (1 + ((takeM b 3).2 : Int)).toNat = 1 + (takeM b 3).2 by omega, show (0 : Int) = ((0 : Nat) : Int) from rfl, rng_nat, List.map_map]
    refine lc_acc (fun k : Nat => PyData.int ((0 + k : Nat) : Int)) _ (wordS ls) (fun b => [.mut q (bxD b), .dat (.list (ls.map chD)), .no]) (fun _ _ => True) _ _ 0 trivial fun b k n hk _ => ⟨trivial, [2], [.int ((0 + k : Nat) : Int)], _, g_name 2 sc71.nd, by simp, e_ixL (ds := ls.map chD) (i := ((takeM b ls.length).2 : Nat)) (e_var 1) (e_callB 0 H2 (a_cons (e_lenL (xs := ls.map chD) T.len (e_var 1)) a_nil) rfl rfl ⟨b, ls.length, hl, by omega, rfl, by rw [List.length_map], rfl, rfl⟩) (ch_ix (take_lt b hl)), rfl⟩
  · rw [rng_len]; omega
  · rw [chars_len, wordM, acc_len, List.length_range]; omega
/-! ### _law_swapped -/
def R_swapped (bs ds : List PyData) (d : PyData) (bs' : List PyData) : Prop := ∃ (b : Box) (t : List Nat) (a o : Nat), t.length ≤ 200 ∧ bs = bxD b ∧ ds = [txD t, chD a, chD o] ∧ d = txD (swapM b t a o).2 ∧ bs' = bxD (swapM b t a o).1
theorem sc72 : FnScope ["_law_box_here", "_law_text", "_law_letter", "_law_other", "_law_signs", "_law_sign"] ["_law_box_here", "_law_text", "_law_letter", "_law_other"] (defScope (topS 72)) := ⟨rfl, rfl, rfl, by decide +kernel, rfl, by decide +kernel, by decide +kernel⟩
theorem swap_len (a o : Nat) : ∀ (t : List Nat) (s : Box × List Nat), (t.foldl (swapS a o) s).2.length = s.2.length + t.length
  | [], s => rfl
  | c :: t, s => by
    rw [List.foldl_cons, swap_len a o t, swapS]
    split <;> simp <;> omega
theorem ok_swapped (T : Glo mg) (H2 : Hb P w K mg base "_law_take" 1 R_take) (F : FnP K "_law_swapped" (topS 72) f fd) : FnOk P w K mg base CX0 2 f fd ["_law_box_here", "_law_text", "_law_letter", "_law_other"] (spB K R_swapped) := by
  refine fn_box F sc72 (fun bs ds d bs' ⟨_, _, _, _, _, _, e, _⟩ => by rw [e]; rfl) fun bs ds d bs' hR q => ?_
  obtain ⟨b, t, a, o, ht, rfl, rfl, rfl, rfl⟩ := hR
  refine ⟨[.mut q (bxD (swapM b t a o).1), .dat (txD t), .dat (chD a), .dat (chD o), .no, .no], rfl, show BX _ _ _ [.mut q (bxD b), .dat (txD t), .dat (chD a), .dat (chD o), .no, .no] _ from b_new 4 sc72.nd (el_lst a_nil) fun q2 _ => b_rtd [4] (b_cons (s_for (o := .nx [.mut q (bxD (swapM b t a o).1), .dat (txD t), .dat (chD a), .dat (chD o), .mut q2 (((swapM b t a o).2.map fun c => (⟨#[c]⟩ : Str)).map PyData.str), .no]) (i_str (z := txS t) (e_var 1)) ?_) (b_ret (s_ret (e_eq (e_joinM 4 (zs := (swapM b t a o).2.map fun c => ⟨#[c]⟩) e_str ?_) (join_chars _)))))⟩
  · rw [signD_tx]
    refine lp_fold chD (swapS a o) (fun s => [.mut q (bxD s.1), .dat (txD t), .dat (chD a), .dat (chD o), .mut q2 ((s.2.map fun c => (⟨#[c]⟩ : Str)).map PyData.str), .no]) t (b, []) fun l1 c l2 e => ?_
    have hl : (l1.foldl (swapS a o) (b, [])).2.length ≤ 200 := by
      rw [swap_len]
      rw [e] at ht
      simp at ht ⊢; omega
    generalize l1.foldl (swapS a o) (b, []) = s at *
    have hap : ∀ z : Nat, (s.2.map fun c => (⟨#[c]⟩ : Str)).map PyData.str ++ [chD z] = ((s.2 ++ [z]).map fun c => (⟨#[c]⟩ : Str)).map PyData.str := fun z => by rw [List.map_append, List.map_append]; rfl
    by_cases hc : c = o
    · have h2 := take_lt s.1 (show 0 < 2 by decide)
      rw [swapS, if_pos hc]
      by_cases hd : (takeM s.1 2).2 = 0
      · rw [if_pos hd]
        refine ⟨[5], _, _, [5], g_name 5 sc72.nd, b_cons (s_ifT (t_w (w_andT (t_is (t_eqP (e_var 5) (e_var 3) (Nat.zero_le _)) (by rw [q_ch, decide_eq_true hc])) (w_and1 (t_is (t_eqP (e_callB 0 H2 (a_cons e_int a_nil) rfl rfl ⟨s.1, 2, by decide, by decide, rfl, rfl, rfl, rfl⟩) e_int (Nat.zero_le _)) (by rw [hd, q_int]; rfl))))) (b_cons (s_append 4 (e_var 2) rfl rfl (by rw [List.length_map, List.length_map]; omega)) b_nil)) b_nil, ?_⟩
        rw [hap]; rfl
      · rw [if_neg hd]
        refine ⟨[5], _, _, [5], g_name 5 sc72.nd, b_cons (s_ifF (t_w (w_andT (t_is (t_eqP (e_var 5) (e_var 3) (Nat.zero_le _)) (by rw [q_ch, decide_eq_true hc])) (w_and1 (t_is (t_eqP (e_callB 0 H2 (a_cons e_int a_nil) rfl rfl ⟨s.1, 2, by decide, by decide, rfl, rfl, rfl, rfl⟩) e_int (Nat.zero_le _)) (by rw [q_int]; exact decide_eq_false (by omega)))))) (b_cons (s_append 4 (e_var 5) rfl rfl (by rw [List.length_map, List.length_map]; omega)) b_nil)) b_nil, ?_⟩
        rw [hap]; rfl
    · rw [swapS, if_neg hc]
      refine ⟨[5], _, _, [5], g_name 5 sc72.nd, b_cons (s_ifF (t_w (w_andF (t_is (t_eqP (e_var 5) (e_var 3) (Nat.zero_le _)) (by rw [q_ch, decide_eq_false hc])))) (b_cons (s_append 4 (e_var 5) rfl rfl (by rw [List.length_map, List.length_map]; omega)) b_nil)) b_nil, ?_⟩
      rw [hap]; rfl
  · rw [chars_len, swapM, swap_len]
    simp; omega
end
end Sg
namespace Sg
open PySem PySem.Spec PyProof.Rows L2
theorem i_alph : signD (Str.ofString "abcdefghijklmnopqrstuvwxyz") = alph.map chD := alphS
theorem map_erase : ∀ (l : List Nat) (k : Nat), (l.map chD).eraseIdx k = (l.eraseIdx k).map chD
  | [], k => by simp
  | a :: l, 0 => by simp
  | a :: l, k + 1 => by simp [map_erase l k]
theorem z_pair (ds : List PyData) (h : PyData.depthAll ds ≤ 50) : (PyData.tuple ds).depth ≤ 60 := by
  rw [PyData.depth]; omega
theorem tx_in (t : List Nat) (c : Nat) : (!(Builtin.Str.occurrences (txS t) ⟨#[c]⟩ 0 (txS t).length 1).isEmpty) = decide (c ∈ t) := _root_.SX.in_one t c
theorem lc_accB {G : Gam} {tg elt : Expr} {own : List Nat} {α β σt : Type} (f : α → PyData) (g : β → PyData) (step : σt → α → σt × β) (ρ : σt → List Sl) (I : σt → Nat → Prop) (top : Nat) : ∀ (l : List α) (s : σt) (n : Nat), n + l.length ≤ top → I s n → (∀ s a n, a ∈ l → n < top → I s n → I (step s a).1 (n + 1) ∧ ∃ is ds ρ1, GX G tg (f a) is ds ∧ (∀ i ∈ is, i ∈ own) ∧ EX G elt (setD (ρ s) is ds) (g (step s a).2) ρ1 ∧ fg own ρ1 = ρ (step s a).1) → Lc G tg [] elt own (l.map f) (ρ s) ((accV step s l).map g) (ρ (accS step s l))
  | [], _, _, _, _, _ => .nil
  | a :: l, s, n, ht, hI, h => by
    rw [List.length_cons] at ht
    obtain ⟨h0, is, ds, ρ1, h1, h2, h3, h4⟩ := h s a n List.mem_cons_self (by omega) hI
    refine .keep h1 h2 if_nil h3 ?_
    rw [h4]
    exact lc_accB f g step ρ I top l (step s a).1 (n + 1) (by omega) h0 fun s b n hb => h s b n (List.mem_cons_of_mem _ hb)
section
variable {P : Program} {w : World} {K : PySem.W.Frag} {mg : Str → Option Value} {base : Heap} {f : Addr} {fd : FuncData}
/-! ### _law_same_lines -/
def R_same (ds : List PyData) (d : PyData) : Prop := ∃ (ls os : List (List Nat)) (t : List Nat), (∀ l ∈ ls, l.length ≤ 200) ∧ ls.length ≤ 100 ∧ os.length ≤ 100 ∧ (∀ l ∈ os, l.length ≤ 200) ∧ ds = [.tuple (ls.map txD), .tuple (os.map txD), txD t] ∧ d = .bool (sameM ls os t)
theorem sc73 : FnScope ["_law_lines", "_law_others", "_law_text", "_law_line"] ["_law_lines", "_law_others", "_law_text"] (defScope (topS 73)) := ⟨rfl, rfl, rfl, by decide +kernel, rfl, by decide +kernel, by decide +kernel⟩
theorem sum_bd : ∀ (ls : List (List Nat)), (∀ l ∈ ls, l.length ≤ 200) → (ls.map (·.length)).sum ≤ 200 * ls.length
  | [], _ => by simp
  | a :: l, h => by
    have h1 := sum_bd l fun x hx => h x (List.mem_cons_of_mem _ hx)
    have h2 := h a List.mem_cons_self
    simp; omega
theorem ok_same (T : Glo mg) (F : FnP K "_law_same_lines" (topS 73) f fd) : FnOk P w K mg base CX0 1 f fd ["_law_lines", "_law_others", "_law_text"] (spP K R_same) := by
  refine fn_pure F sc73 (fun ds d ⟨_, _, _, _, _, _, _, e, _⟩ => by rw [e]; rfl) fun ds d hR => ?_
  obtain ⟨ls, os, t, h1, h2, h3, h4, rfl, rfl⟩ := hR
  have lns : ∀ (l : List (List Nat)), (l.map fun x => PyData.int (x.length : Nat)) = ((l.map (·.length)).map fun k => PyData.int (k : Nat)) := fun l => by rw [List.map_map]; rfl
  refine ⟨_, fin_rt, show BX _ _ _ [.dat (.tuple (ls.map txD)), .dat (.tuple (os.map txD)), .dat (txD t), .no] _ from b_ret (s_ret (e_and (b1 := decide (ls.map (·.length) = os.map (·.length))) (e_eq (e_eqP (e_lc (ys := ls.map fun x => PyData.int (x.length : Nat)) (own := [("_law_line", 3)]) sc73.nd (by kernel_rfl) (i_tup (e_var 0)) ?_ ?_) (e_lc (ys := os.map fun x => PyData.int (x.length : Nat)) (own := [("_law_line", 3)]) sc73.nd (by kernel_rfl) (i_tup (e_var 1)) ?_ ?_) ?_) ?_) fun _ => e_one (e_eq (e_eqP (e_eq (e_joinT (zs := os.map txS) e_str (e_eq (e_var 1) (by rw [strs_tx])) ?_) (join_tx os)) (e_var 2) (Nat.zero_le _)) (by rw [q_tx]))))⟩
  · exact lc_map txD _ ls fun l hl => ⟨[3], [txD l], _, g_name 3 sc73.nd, by simp, e_eq (e_lenS (z := txS l) T.len (e_var 3) (by rw [txS_len]; exact Nat.le_trans (h1 l hl) (by decide))) (by rw [txS_len]), rfl⟩
  · rw [List.length_map]; omega
  · exact lc_map txD _ os fun l hl => ⟨[3], [txD l], _, g_name 3 sc73.nd, by simp, e_eq (e_lenS (z := txS l) T.len (e_var 3) (by rw [txS_len]; exact Nat.le_trans (h4 l hl) (by decide))) (by rw [txS_len]), rfl⟩
  · rw [List.length_map]; omega
  · rw [lns]; exact Nat.le_trans (z_lst (fun k => z_int (k : Nat)) _) (by decide)
  · rw [lns, lns, q_lst q_nat]
  · rw [sum_len, List.length_map]
    have := sum_bd os h4
    have h5 : (Str.ofString " ").length = 1 := by decide
    rw [h5]; omega
/-! ### _law_face -/
def R_face (bs ds : List PyData) (d : PyData) (bs' : List PyData) : Prop := ∃ b : Box, bs = bxD b ∧ ds = [.int 1, .int 4] ∧ d = faceD (faceM b).2 ∧ bs' = bxD (faceM b).1
theorem sc65 : FnScope ["_law_box_here", "_law_least", "_law_most", "_law_pool", "_law_many", "_law_letters_here", "_law_turn"] ["_law_box_here", "_law_least", "_law_most"] (defScope (topS 65)) := ⟨rfl, rfl, rfl, by decide +kernel, rfl, by decide +kernel, by decide +kernel⟩
theorem ok_face (T : Glo mg) (H2 : Hb P w K mg base "_law_take" 1 R_take) (F : FnP K "_law_face" (topS 65) f fd) : FnOk P w K mg base CX0 2 f fd ["_law_box_here", "_law_least", "_law_most"] (spB K R_face) := by
  refine fn_box F sc65 (fun bs ds d bs' ⟨_, _, e, _⟩ => by rw [e]; rfl) fun bs ds d bs' hR q => ?_
  obtain ⟨b, rfl, rfl, rfl, rfl⟩ := hR
  have h4 := take_lt b (show 0 < 4 by decide)
  refine ⟨[.mut q (bxD (faceM b).1), .dat (.int 1), .dat (.int 4), .no, .dat (.int (1 + ((takeM b 4).2 : Int))), .dat (.list ((faceL b).2.map ltD)), .no], rfl, show BX _ _ _ [.mut q (bxD b), .dat (.int 1), .dat (.int 4), .no, .no, .no, .no] _ from
    b_new 3 sc65.nd (i_alph ▸ el_listS T.list e_str (by decide)) fun q2 _ => b_rtd [3] (b_cons (s_set 4 sc65.nd (e_add (i := 1) (j := ((takeM b 4).2 : Nat)) (e_var 1) (e_callB 0 H2 (a_cons (e_add (e_sub (e_var 2) (e_var 1)) e_int) a_nil) rfl rfl ⟨b, 4, by decide, by decide, rfl, rfl, rfl, rfl⟩)))
      (b_cons (s_setLcM (ys := (faceL b).2.map ltD) (ρ' := [.mut q (bxD (faceL b).1.1), .dat (.int 1), .dat (.int 4), .mut q2 ((faceL b).1.2.map chD), .dat (.int (1 + ((takeM b 4).2 : Int))), .no, .no]) 5 (own := [("_law_turn", 6)]) sc65.nd (blkB_mk (by kernel_rfl)) (i_range1 (j := 1 + ((takeM b 4).2 : Int)) T.range (e_var 4) (by omega) (by omega)) ?_ ?_ rfl rfl)
      (b_ret (s_ret (e_tup (a_cons (e_add (i := 1) (j := ((takeM (faceL b).1.1 99).2 : Nat)) e_int (e_callB 0 H2 (a_cons e_int a_nil) rfl rfl ⟨(faceL b).1.1, 99, by decide, by decide, rfl, rfl, rfl, rfl⟩)) (a_cons (e_tuple T.tuple (e_var 5)) a_nil)))))))⟩
  · rw [show (1 + ((takeM b 4).2 : Int)).toNat = 1 + (takeM b 4).2 by omega, show (0 : Int) = ((0 : Nat) : Int) from rfl, rng_nat]
    refine lc_accB (fun k : Nat => PyData.int ((0 + k : Nat) : Int)) ltD faceS (fun s => [.mut q (bxD s.1), .dat (.int 1), .dat (.int 4), .mut q2 (s.2.map chD), .dat (.int (1 + ((takeM b 4).2 : Int))), .no, .no]) (fun s n => s.2.length + n = 26) 4 _ ((takeM b 4).1, alph) 0 (by rw [List.length_range]; omega) (show alph.length + 0 = 26 by decide) fun s k n hk hn hI => ?_
    have hp : 0 < s.2.length := by omega
    have hlt := take_lt s.1 hp
    refine ⟨?_, [6], [.int ((0 + k : Nat) : Int)], _, g_name 6 sc65.nd, by simp, e_tup (a_cons (e_popM 3 (kk := (takeM s.1 s.2.length).2) (d := chD (s.2.getD (takeM s.1 s.2.length).2 0)) (e_callB 0 H2 (a_cons (e_lenM 3 T.len) a_nil) rfl rfl ⟨s.1, s.2.length, hp, by omega, rfl, by rw [List.length_map], rfl, rfl⟩) rfl rfl ?_ (by omega)) (a_cons (e_add (i := 10) (j := ((takeM (takeM s.1 s.2.length).1 90).2 : Nat)) e_int (e_callB 0 H2 (a_cons e_int a_nil) rfl rfl ⟨(takeM s.1 s.2.length).1, 90, by decide, by decide, rfl, rfl, rfl, rfl⟩)) a_nil)), ?_⟩
    · show (s.2.eraseIdx (takeM s.1 s.2.length).2).length + (n + 1) = 26
      rw [List.length_eraseIdx_of_lt hlt]; omega
    · rw [List.getElem?_map, List.getD_eq_getElem?_getD, List.getElem?_eq_getElem hlt]; rfl
    · have e : (s.2.map chD).eraseIdx (takeM s.1 s.2.length).2 = (s.2.eraseIdx (takeM s.1 s.2.length).2).map chD := map_erase _ _
      rw [e]; rfl
  · rw [rng_len]; omega
end
end Sg
namespace Sg
open PySem PySem.Spec PyProof.Rows L2
section
variable {G : Gam} {m : Addr → Prop} {a b : Expr} {ρ ρ1 : List Sl} {d1 d2 : PyData} {pos px py pt pt2 : Pos} {x y : Str}
/-- x, y = a, b: plain locals -/
theorem s_par (i j : Nat) {kt k2 : Nat} (nd : G.N.Nodup) (ha : AX G [a, b] ρ [d1, d2] ρ1) (hw : ∀ env : Env, env.scope = G.sc → swappedStores [.Tuple [.Name x px, .Name y py] kt pt] (.Tuple [a, b] k2 pt2) env = pure (some [x, y])) (hNx : G.N[i]? = some x := by rfl) (hNy : G.N[j]? = some y := by rfl) (hij : i ≠ j := by decide) (hx : G.sc.names.lookup x = some .local := by rfl) (hy : G.sc.names.lookup y = some .local := by rfl)
    (hs : ∀ env : Env, swapsWithSole [.Tuple [.Name x px, .Name y py] kt pt] (.Tuple [a, b] k2 pt2) pos.line env = pure false := by intro _; rfl) :
    SX G m (.Assign [.Tuple [.Name x px, .Name y py] kt pt] (.Tuple [a, b] k2 pt2) pos) ρ (.nx ((ρ1.set i (.dat d1)).set j (.dat d2))) := fun X F =>
  PSw (ps_par F.calm (by rw [F.N]; exact nd) (by rw [F.N]; exact hNx) (by rw [F.N]; exact hNy) hij (by rw [F.sc]; exact hx) (by rw [F.sc]; exact hy) (ha.2 X F) (hw _ F.sc) (hs _)) fun D σ H ⟨B, S, eq, g, k⟩ => by
    refine ⟨B, S, g, fun vs S1 H1 g1 r => ?_⟩
    obtain ⟨v, u, rfl, r1, r2⟩ := dpa2 r
    exact ⟨v, u, rfl, k _ S1 H1 ((g1.set r1).set r2)⟩
end
section
variable {P : Program} {w : World} {K : PySem.W.Frag} {mg : Str → Option Value} {base : Heap} {f : Addr} {fd : FuncData}
/-! ### _law_box -/
def boxM (ns : List Int) (k : Nat) : Box :=
  let c := if k < ns.length then ns.getD k 0 else 6151 * (k : Int) + 29
  if c % 2 = 0 then ((if c < 0 then -c else c) / 2, c % 1000003 + 7919 * (k : Int) + 1) else (0, c % 2147483563 + 7919 * (k : Int) + 1)
def R_box (ds bs : List PyData) : Prop := ∃ (ns : List Int) (k : Nat), ns.length ≤ 100 ∧ k < 10 ∧ ds = [.list (ns.map .int), .int (k : Nat)] ∧ bs = bxD (boxM ns k)
theorem sc63 : FnScope ["_law_script", "_law_k", "_law_cell"] ["_law_script", "_law_k"] (defScope (topS 63)) := ⟨rfl, rfl, rfl, by decide +kernel, rfl, by decide +kernel, by decide +kernel⟩
theorem ok_box (T : Glo mg) (F : FnP K "_law_box" (topS 63) f fd) : FnOk P w K mg base CX0 1 f fd ["_law_script", "_law_k"] (spN K R_box) := by
  refine fn_new F sc63 (fun ds bs ⟨_, _, _, _, e, _⟩ => by rw [e]; rfl) fun ds bs hR => ?_
  obtain ⟨ns, k, h1, h2, rfl, rfl⟩ := hR
  have c1 : CMul 6151 (k : Int) := .inl ⟨by decide, by decide⟩
  have c2 : CMul 7919 (k : Int) := .inl ⟨by decide, by decide⟩
  have hlen : ((ns.map PyData.int).length : Int) = (ns.length : Int) := by rw [List.length_map]
  -- the cell known, the rest
  have fin : ∀ c : Int, c = (if k < ns.length then ns.getD k 0 else 6151 * (k : Int) + 29) → BX (gam P w K mg base ["_law_script", "_law_k", "_law_cell"] (defScope (topS 63)) 0) noM ((defBody (topS 63)).drop 2) [.dat (.list (ns.map .int)), .dat (.int (k : Nat)), .dat (.int c)] (.rl (bxD (boxM ns k)) [.dat (.list (ns.map .int)), .dat (.int (k : Nat)), .dat (.int c)]) := fun c hc => by
    by_cases he : c % 2 = 0
    · have e : bxD (boxM ns k) = [.int ((if c < 0 then -c else c) / 2), .int (c % 1000003 + 7919 * (k : Int) + 1)] := by rw [boxM, ← hc]; simp only [he, if_true]; rfl
      rw [e]
      exact b_retL (s_ifT (t_is (t_eqP (e_mod (e_var 2) e_int (by decide)) e_int (Nat.zero_le _)) (by rw [q_int]; exact decide_eq_true he)) (b_retL (s_retL (el_lst (a_cons (e_fdiv (e_abs T.abs (e_var 2)) e_int ⟨by decide, by decide⟩) (a_cons (e_add (e_add (e_mod (e_var 2) e_int (by decide)) (e_mul e_int (e_var 1) c2)) e_int) a_nil))))))
    · have e : bxD (boxM ns k) = [.int 0, .int (c % 2147483563 + 7919 * (k : Int) + 1)] := by rw [boxM, ← hc]; simp only [he, if_false]; rfl
      rw [e]
      exact b_cons (s_ifF (t_is (t_eqP (e_mod (e_var 2) e_int (by decide)) e_int (Nat.zero_le _)) (by rw [q_int]; exact decide_eq_false he)) b_nil) (b_retL (s_retL (el_lst (a_cons e_int (a_cons (e_add (e_add (e_mod (e_var 2) e_int (by decide)) (e_mul e_int (e_var 1) c2)) e_int) a_nil)))))
  by_cases hk : k < ns.length
  · exact ⟨_, show BX _ _ _ [.dat (.list (ns.map .int)), .dat (.int (k : Nat)), .no] _ from b_cons (s_set 2 sc63.nd (e_add (e_mul e_int (e_var 1) c1) e_int)) (b_cons (s_ifT (t_is (t_lt (e_var 1) (e_lenL (xs := ns.map .int) T.len (e_var 0))) (decide_eq_true (by rw [hlen]; omega))) (b_cons (s_set 2 sc63.nd (e_ixL (ds := ns.map .int) (i := (k : Nat)) (e_var 0) (e_var 1) (ps_ix rfl hk))) b_nil)) (fin (ns.getD k 0) (by rw [if_pos hk])))⟩
  · exact ⟨_, show BX _ _ _ [.dat (.list (ns.map .int)), .dat (.int (k : Nat)), .no] _ from b_cons (s_set 2 sc63.nd (e_add (e_mul e_int (e_var 1) c1) e_int)) (b_cons (s_ifF (t_is (t_lt (e_var 1) (e_lenL (xs := ns.map .int) T.len (e_var 0))) (decide_eq_false (by rw [hlen]; omega))) b_nil) (fin (6151 * (k : Int) + 29) (by rw [if_neg hk])))⟩
/-! ### _law_lines_right -/
structure LinesOk (f f' : Face) (p p' : Prs) (ws ws' : List (List Nat)) (n : Int) : Prop where
  f1 : Fit f p ws n
  f2 : Fit f' p' ws' n
  b1 : ∀ c ∈ lets f, c ≠ 32
  b2 : ∀ c ∈ lets f', c ≠ 32
  ev : sameM (evenedM f p ws n) (evenedM f' p' ws' n) (joinB ws') = true
  fi : sameM (fillM f p n ws) (fillM f' p' n ws') (joinB ws') = true
  pr : pricesM f p ws n ws.length = pricesM f' p' ws' n ws'.length
  sp : ∃ v v' r r', evenedM f p ws n = joinB v :: r ∧ evenedM f' p' ws' n = joinB v' :: r' ∧ (32 ∈ joinB v → WOk f v ∧ WOk f' v' ∧ 2 ≤ v.length ∧ 2 ≤ v'.length ∧ wideM f p (joinB v) ≤ n ∧ wideM f' p' (joinB v') ≤ n ∧ spreadM f p v n = spreadM f' p' v' n)
  e1 : ∀ l ∈ evenedM f p ws n, l.length ≤ 200
  e2 : ∀ l ∈ evenedM f' p' ws' n, l.length ≤ 200
  g1 : ∀ l ∈ fillM f p n ws, l.length ≤ 200
  g2 : ∀ l ∈ fillM f' p' n ws', l.length ≤ 200
  h1 : (evenedM f p ws n).length ≤ 100
  h2 : (evenedM f' p' ws' n).length ≤ 100
  h3 : (fillM f p n ws).length ≤ 100
  h4 : (fillM f' p' n ws').length ≤ 100
def R_lines_right (ds : List PyData) (d : PyData) : Prop := ∃ (f f' : Face) (p p' : Prs) (ws ws' : List (List Nat)) (n : Int), LinesOk f f' p p' ws ws' n ∧
  ds = [.tuple [faceD f, prsD p], .tuple [faceD f', prsD p'], .tuple [txD (joinB ws), txD (joinB ws')], .int n] ∧ d = .bool true
theorem at0 (x : List Nat) (l : List (List Nat)) : atI ((x :: l).map txD) 0 = some (txD x) := by
  rw [show (0 : Int) = ((0 : Nat) : Int) from rfl, atI_nat _ _ (by simp)]; rfl
theorem sc74 : FnScope ["_law_elder", "_law_later", "_law_texts", "_law_number", "_law_face_here", "_law_pairs_here", "_law_grown", "_law_more", "_law_text", "_law_swapped_here", "_law_plain", "_law_like"] ["_law_elder", "_law_later", "_law_texts", "_law_number"] (defScope (topS 74)) := ⟨rfl, rfl, rfl, by decide +kernel, rfl, by decide +kernel, by decide +kernel⟩
theorem q_refl {d : PyData} (h : d.plain = true) : PyData.eqv d d = true := PySem.SeqAt.eqv_refl_plain d h
theorem ok_lines_right (T : Glo mg) (H1 : Hs P w K mg base "evened" 8 R_evened) (H2 : Hs P w K mg base "filled" 7 R_filled) (H3 : Hs P w K mg base "shows_even" 8 R_shows_even) (H4 : Hs P w K mg base "spread" 6 R_spread) (H5 : Hs P w K mg base "_law_same_lines" 1 R_same) (F : FnP K "_law_lines_right" (topS 74) f fd) : FnOk P w K mg base CX0 9 f fd ["_law_elder", "_law_later", "_law_texts", "_law_number"] (spP K R_lines_right) := by
  refine fn_pure F sc74 (fun ds d ⟨_, _, _, _, _, _, _, _, e, _⟩ => by rw [e]; rfl) fun ds d hR => ?_
  obtain ⟨f, f', p, p', ws, ws', n, L, rfl, rfl⟩ := hR
  obtain ⟨v, v', r, r', s1, s2, s3⟩ := L.sp
  have i1 : atI ((evenedM f p ws n).map txD) 0 = some (txD (joinB v)) := by rw [s1]; exact at0 _ _
  have i2 : atI ((evenedM f' p' ws' n).map txD) 0 = some (txD (joinB v')) := by rw [s2]; exact at0 _ _
  have hw1 : ∀ (c : Bool), decide (32 ∈ joinB v) = c → BX (gam P w K mg base ["_law_elder", "_law_later", "_law_texts", "_law_number", "_law_face_here", "_law_pairs_here", "_law_grown", "_law_more", "_law_text", "_law_swapped_here", "_law_plain", "_law_like"] (defScope (topS 74)) 8) noM (defBody (topS 74)) [.dat (.tuple [faceD f, prsD p]), .dat (.tuple [faceD f', prsD p']), .dat (.tuple [txD (joinB ws), txD (joinB ws')]), .dat (.int n), .no, .no, .no, .no, .no, .no, .no, .no] (.rt (.bool true) [.dat (.tuple [faceD f, prsD p]), .dat (.tuple [faceD f', prsD p']), .dat (.tuple [txD (joinB ws), txD (joinB ws')]), .dat (.int n), .dat (faceD f), .dat (prsD p), .dat (faceD f'), .dat (prsD p'), .dat (txD (joinB ws)), .dat (txD (joinB ws')), .dat (.tuple ((evenedM f p ws n).map txD)), .dat (.tuple ((evenedM f' p' ws' n).map txD))]) := fun c hc => by
    refine b_cons (s_asg (e_tup (a_cons (e_var 0) (a_cons (e_var 1) (a_cons (e_var 2) a_nil)))) (g_tup (gs_cons (g_tup (gs_cons (g_name 4 sc74.nd) (gs_cons (g_name 5 sc74.nd) gs_nil))) (gs_cons (g_tup (gs_cons (g_name 6 sc74.nd) (gs_cons (g_name 7 sc74.nd) gs_nil))) (gs_cons (g_tup (gs_cons (g_name 8 sc74.nd) (gs_cons (g_name 9 sc74.nd) gs_nil))) gs_nil)))) (by intro _; rfl) (by intro env h; cases env; simp only at h; subst h; rfl) (by intro _; rfl)) ?_
    refine b_cons (s_par 10 11 sc74.nd (a_cons (e_call H1 (a_cons (e_var 4) (a_cons (e_var 5) (a_cons (e_var 8) (a_cons (e_var 3) a_nil)))) ⟨f, p, ws, n, L.f1, L.b1, rfl, rfl⟩) (a_cons (e_call H1 (a_cons (e_var 6) (a_cons (e_var 7) (a_cons (e_var 9) (a_cons (e_var 3) a_nil)))) ⟨f', p', ws', n, L.f2, L.b2, rfl, rfl⟩) a_nil)) (by intro env h; cases env; simp only at h; subst h; rfl)) ?_
    refine b_cons (s_ifF (t_is (t_not (t_val (e_call (d := .bool true) H5 (a_cons (e_var 10) (a_cons (e_var 11) (a_cons (e_var 9) a_nil))) ⟨evenedM f p ws n, evenedM f' p' ws' n, joinB ws', L.e1, L.h1, L.h2, L.e2, rfl, by rw [L.ev]⟩))) rfl) b_nil) ?_
    refine b_cons (s_ifF (t_is (t_not (t_val (e_call (d := .bool true) H5 (a_cons (e_call H2 (a_cons (e_var 4) (a_cons (e_var 5) (a_cons (e_var 8) (a_cons (e_var 3) a_nil)))) ⟨f, p, ws, n, L.f1, L.b1, rfl, rfl⟩) (a_cons (e_call H2 (a_cons (e_var 6) (a_cons (e_var 7) (a_cons (e_var 9) (a_cons (e_var 3) a_nil)))) ⟨f', p', ws', n, L.f2, L.b2, rfl, rfl⟩) (a_cons (e_var 9) a_nil))) ⟨fillM f p n ws, fillM f' p' n ws', joinB ws', L.g1, L.h3, L.h4, L.g2, rfl, by rw [L.fi]⟩))) rfl) b_nil) ?_
    refine b_cons (s_ifF (t_is (t_neP (e_call H3 (a_cons (e_var 4) (a_cons (e_var 5) (a_cons (e_var 8) (a_cons (e_var 3) a_nil)))) ⟨f, p, ws, n, L.f1, L.b1, rfl, rfl⟩) (e_call H3 (a_cons (e_var 6) (a_cons (e_var 7) (a_cons (e_var 9) (a_cons (e_var 3) a_nil)))) ⟨f', p', ws', n, L.f2, L.b2, rfl, rfl⟩) (Nat.le_trans (z_row _) (by decide))) (by rw [q_row, L.pr]; simp)) b_nil) ?_
    have eb : Str.ofString " " = (⟨#[32]⟩ : Str) := by kernel_rfl
    by_cases hb : 32 ∈ joinB v
    · obtain ⟨w1, w2, w3, w4, w5, w6, w7⟩ := s3 hb
      exact b_ret (s_ifT (t_is (t_inS (i := Str.ofString " ") (j := txS (joinB v)) e_str (e_ixT (ds := (evenedM f p ws n).map txD) (e_var 10) e_int i1)) (by rw [eb, tx_in, decide_eq_true hb])) (b_ret (s_ret (e_eq (e_eqP (e_call H4 (a_cons (e_var 4) (a_cons (e_var 5) (a_cons (e_ixT (ds := (evenedM f p ws n).map txD) (e_var 10) e_int i1) (a_cons (e_var 3) a_nil)))) ⟨f, p, v, n, w1, w3, L.f1.n1, L.f1.n2, w5, L.b1, rfl, rfl⟩) (e_call H4 (a_cons (e_var 6) (a_cons (e_var 7) (a_cons (e_ixT (ds := (evenedM f' p' ws' n).map txD) (e_var 11) e_int i2) (a_cons (e_var 3) a_nil)))) ⟨f', p', v', n, w2, w4, L.f1.n1, L.f1.n2, w6, L.b2, rfl, rfl⟩) (Nat.le_trans (z_row _) (by decide))) (by rw [q_row, w7]; simp)))))
    · exact b_cons (s_ifF (t_is (t_inS (i := Str.ofString " ") (j := txS (joinB v)) e_str (e_ixT (ds := (evenedM f p ws n).map txD) (e_var 10) e_int i1)) (by rw [eb, tx_in, decide_eq_false hb])) b_nil) (b_ret (s_ret e_bl))
  exact ⟨_, fin_rt, hw1 _ rfl⟩
end
end Sg
namespace Sg
open PySem PySem.Spec PyProof.Rows L2
/-! ### letters_of, its tuple known to be plain -/
theorem call_tuple_ex {X : Cx} : CallR X (.type "tuple") (fun xs H Q => ∃ p yz, xs = [.ref p] ∧ SqL X.K H p yz ∧ ∀ l o, H l = none → o.cls = .type "tuple" → o.dict = none → Q (.ref l) (upd H l (.frz o (.tup yz)))) := by
  intro pz s σ H xs uz Q I r h
  obtain ⟨p, yz, rfl, hq, q⟩ := h
  obtain ⟨u, rfl, rx⟩ := vals1 r
  cases rx
  obtain ⟨iz, r', pl, hz⟩ := I.list hq
  have hlen := r'.length
  refine call_tuple_list pl.isList (fun hB kP => ?_) (by simp only [List.size_toArray] <;> omega)
  have JA : Inv X pz σ H { s with heap := hB } := I.kept (t' := s.toks) kP
  have JB : Inv X pz σ (upd H hB.objs.size (.frz { cls := .type "tuple", data := .seq iz.toArray } (.tup yz))) { s with heap := hB.push { cls := .type "tuple", data := .seq iz.toArray } } :=
    JA.laid (t' := s.toks) (fun b o e => Heap.get?_push_of_some _ e) (Nat.le_refl _) (show ObjOk X.prog X.w _ _ _ (.frz _ (.tup yz)) from ⟨Heap.get?_push_size _ rfl, hz, iz, r', IsTup.new _ _⟩)
  exact ⟨.ref hB.objs.size, _, JB, rfl, q _ _ (JA.hok.fresh (Nat.le_refl _)) rfl rfl⟩
/-- bodies that return such a tuple -/
def BR (G : Gam) (sts : List Stmt) (ρ : List Sl) (us : List PyData) : Prop := ∀ X, Fits G X → PSs X sts (fun D σ H => ∃ B S, BM B noM ∧ Ab G.K B S H σ ρ ∧ ∀ t o ws S' H' σ' ρ', Ab G.K B S' H' σ' ρ' → S' t = some (.frz o (.tup ws)) → o.cls = .type "tuple" → o.dict = none → DpAll G.K S' ws us → D.rt (.ref t) H')
theorem br_ret {G : Gam} {e : Expr} {ρ ρ1 : List Sl} {us : List PyData} {p pos rpos : Pos} {rest : List Stmt} (hm : G.mg "tuple" = none) (ha : EX G e ρ (.list us) ρ1) (hs : notStar e = true := by rfl) (hg : G.sc.names.lookup ("tuple" : Str) = some NameKind.globalImplicit := by rfl) : BR G (.Return (some (.Call (.Name "tuple" p) [e] [] pos)) rpos :: rest) ρ us := fun X F => by
  refine PSsw (pss_cons (ps_ret (pe_callTy call_tuple_ex (show X.env.scope.names.lookup ("tuple" : Str) = _ by rw [F.sc]; exact hg) (by rw [F.mg]; exact hm) PyProof.Rows.boot_tuple ((a_cons ha a_nil hs).2 X F) (by decide) (by decide) (star_cons hs) rfl)) (u := tNever) pss_never) fun D σ H ⟨B, S, eq, h, k⟩ => ?_
  refine ⟨B, S, h, fun vs S1 H1 h1 r1 => ?_⟩
  obtain ⟨v, rfl, r2⟩ := dpa1 r1
  cases r2 with
  | @lst a ys _ q1 q2 =>
    refine ⟨a, ys, rfl, by rw [F.K]; exact sqL_mono h1.sub q1, fun l o hl c1 c2 => ?_⟩
    have n := Nw.one (o := .frz o (.tup ys)) h1.sub hl
    exact k l o ys _ _ σ ρ1 (h1.grow n) upd_same c1 c2 (Dpam q2 n.ss)
theorem fn_X {P : Program} {w : World} {K : PySem.W.Frag} {mg : Str → Option Value} {base : Heap} {st : Stmt} {f : Addr} {fd : FuncData} {N ps : List Str} {k : Nat} {x : Str} {R : List PyData → List PyData → Prop} (F : FnP K x st f fd) (Sc : FnScope N ps (defScope st)) (len : ∀ ds bs, R ds bs → ds.length = ps.length)
    (body : ∀ ds us, R ds us → BR (gam P w K mg base N (defScope st) k) (defBody st) (ds.map .dat ++ List.replicate (N.length - ds.length) .no) us) : FnOk P w K mg base CX0 (k + 1) f fd ps (spX K R) := by
  refine FunD.ok F Sc (fun vs H Q E ⟨S, ds, d, s1, r, hR, _⟩ => by rw [dpa_len r]; exact len ds d hR) fun cdv A outer s H vs Q E hr ⟨S, ds, us, s1, r, hR, q⟩ => ?_
  have hb := body ds us hR
  have fit : Fits (gam P w K mg base N (defScope st) k) (cxOf CX0 P w K mg base N x (defScope st) f cdv A outer s H E).nox := ⟨rfl, rfl, rfl, rfl, rfl, rfl, rfl, rfl, hr, rfl, rfl⟩
  refine ⟨_, (hb _ fit).nox, ⟨S, H, noM⟩, S, ⟨rfl, fun a z => z.elim⟩, ?_, ?_⟩
  · have hpl : ps.length ≤ N.length := by have := congrArg List.length Sc.pre; rw [List.length_take] at this; omega
    exact start_ab _ s1 (Same.refl _) (fun _ _ _ e => e) (fun _ e => e) (fun _ _ e => e) r (by rw [dpa_len r, len ds us hR]; exact hpl)
  · exact fun t o ws S' H' σ' ρ' g e1 e2 e3 r' => q t o ws S' H' ⟨fun a o e => g.fr a o (fun z => z) e, g.s0, g.sub, g.new⟩ e1 e2 e3 r'
section
variable {P : Program} {w : World} {K : PySem.W.Frag} {mg : Str → Option Value} {base : Heap} {f : Addr} {fd : FuncData}
def R_letX (ds us : List PyData) : Prop := ∃ f : Face, FOk f ∧ ds = [faceD f] ∧ us = (lets f).map chD
theorem ok_letters_X (T : Glo mg) (F : FnP K "letters_of" (topS 15) f fd) : FnOk P w K mg base CX0 1 f fd ["face"] (spX K R_letX) := by
  refine fn_X F sc15 (fun ds d ⟨f, _, e, _⟩ => by rw [e]; rfl) fun ds us hR => ?_
  obtain ⟨f, hf, rfl, rfl⟩ := hR
  refine show BR _ _ [.dat (faceD f), .no] _ from br_ret T.tuple (e_lc (ys := (lets f).map chD) (own := [("one", 1)]) sc15.nd (by kernel_rfl) (i_tup (e_ixT (e_var 0) e_int rfl)) ?_ ?_)
  · rw [lets, List.map_map]
    exact lc_map ltD _ f.2 fun a ha => ⟨[1], [ltD a], _, g_name 1 sc15.nd, by simp, e_ixT (e_var 1) e_int rfl, rfl⟩
  · rw [List.length_map]; exact Nat.le_trans hf.len (by decide)
/-! ### with_gap -/
def setR (rows : List (List Int)) (i j : Nat) (g : Int) : List (List Int) := rows.set i ((rows.getD i []).set j g)
def gapM (f : Face) (p : Prs) (i j : Nat) (g : Int) : Prs := fromRows (lets f) (setR (rowsM f p) i j g)
def R_with_gap (ds : List PyData) (d : PyData) : Prop := ∃ (f : Face) (p : Prs) (a b : Nat) (g : Int) (i j k l : Nat), FOk f ∧ placeOf f a = some k ∧ placeOf f b = some l ∧ (lets f)[i]? = some a ∧ (lets f)[j]? = some b ∧ -9 ≤ g ∧ g ≤ 9 ∧ ds = [faceD f, prsD p, chD a, chD b, .int g] ∧ d = prsD (gapM f p i j g)
theorem sc38 : FnScope ["face", "pairs", "left", "right", "gap", "letters", "rows", "one", "other"] ["face", "pairs", "left", "right", "gap"] (defScope (topS 38)) := ⟨rfl, rfl, rfl, by decide +kernel, rfl, by decide +kernel, by decide +kernel⟩
theorem first_ix {ls : List Nat} (nd : ls.Nodup) {j a : Nat} (h : ls[j]? = some a) : (ls.map fun c => (⟨#[c]⟩ : Str))[j]? = some ⟨#[a]⟩ ∧ ∀ k, k < j → (ls.map fun c => (⟨#[c]⟩ : Str))[k]? ≠ some ⟨#[a]⟩ := by
  refine ⟨by rw [List.getElem?_map, h]; rfl, fun k hk e => ?_⟩
  rw [List.getElem?_map] at e
  obtain ⟨c, hc, e2⟩ := Option.map_eq_some_iff.mp e
  have e3 : c = a := by
    have := congrArg (fun s : Str => s.cps.toList) e2
    simpa using this
  subst e3
  obtain ⟨l1, e4⟩ := List.getElem?_eq_some_iff.mp hc
  obtain ⟨l2, e5⟩ := List.getElem?_eq_some_iff.mp h
  have := (List.getElem_inj (h₀ := l1) (h₁ := l2) nd).mp (e4.trans e5.symm)
  omega
theorem ixN_nat {n k : Nat} (h : k < n) : ixN n (k : Int) = some k := by
  have h0 : ¬ ((k : Int) < 0) := by omega
  simp [ixN, h0, h]
theorem ok_with_gap (T : Glo mg) (H1 : Hs P w K mg base "need_letter" 2 R_need_letter) (H2 : Hs P w K mg base "is_gap" 2 R_is_gap) (HX : Has P w K mg base "letters_of" 1 (spX K R_letX)) (H3 : Hs P w K mg base "gap_in" 1 R_gap_in) (H4 : Hs P w K mg base "from_rows" 2 R_from_rows) (F : FnP K "with_gap" (topS 38) f fd) : FnOk P w K mg base CX0 3 f fd ["face", "pairs", "left", "right", "gap"] (spP K R_with_gap) := by
  refine fn_pure F sc38 (fun ds d ⟨_, _, _, _, _, _, _, _, _, _, _, _, _, _, _, _, e, _⟩ => by rw [e]; rfl) fun ds d hR => ?_
  obtain ⟨f, p, a, b, g, i, j, k, l, hf, hk, hl, hi, hj, g1, g2, rfl, rfl⟩ := hR
  have hus : (lets f).map chD = ((lets f).map fun c => (⟨#[c]⟩ : Str)).map PyData.str := by rw [List.map_map]; rfl
  obtain ⟨a1, a2⟩ := first_ix hf.nd hi
  obtain ⟨b1, b2⟩ := first_ix hf.nd hj
  have hi' : i < (lets f).length := (List.getElem?_eq_some_iff.mp hi).1
  have hj' : j < (lets f).length := (List.getElem?_eq_some_iff.mp hj).1
  have er : ((((lets f).map fun a => (lets f).map fun b => PyData.int (gapIn p a b)).set i (((lets f).map fun b => PyData.int (gapIn p a b)).set j (.int g))).map PyData.list) = (setR (rowsM f p) i j g).map rowL := by
    have e1 : (rowsM f p).getD i [] = (lets f).map fun b => gapIn p a b := by
      rw [rowsM, List.getD_eq_getElem?_getD, List.getElem?_map, hi]; rfl
    rw [setR, e1, List.map_set, List.map_set, rowsM, List.map_map, List.map_map, rowL, List.map_set, List.map_map]
    congr 1
    exact List.map_congr_left fun x _ => by rw [Function.comp, Function.comp, rowL, List.map_map]; rfl
  have rest : MB (FxTup K 5 ((lets f).map chD)) (gam P w K mg base ["face", "pairs", "left", "right", "gap", "letters", "rows", "one", "other"] (defScope (topS 38)) 2) noM 6 ((defBody (topS 38)).drop 5) [.dat (faceD f), .dat (prsD p), .dat (chD a), .dat (chD b), .dat (.int g), .dat (.tuple ((lets f).map chD)), .no, .no, .no] ((lets f).map fun a => (lets f).map fun b => PyData.int (gapIn p a b))
      (.rt (prsD (gapM f p i j g)) [.dat (faceD f), .dat (prsD p), .dat (chD a), .dat (chD b), .dat (.int g), .dat (.tuple ((lets f).map chD)), .dat (.list ((setR (rowsM f p) i j g).map rowL)), .no, .no]) := by
    rw [hus]
    refine mb_cons (ms_store FxTup.mono 6 (r := (lets f).map fun b => PyData.int (gapIn p a b)) (d := .int g) (exf (e_var 4)) (e_index 5 (e_var 2) a1 a2) (e_index 5 (e_var 3) b1 b2) (ixN_nat (by rw [List.length_map]; exact hi')) (by rw [List.getElem?_map, hi]; rfl) (ixN_nat (by rw [List.length_map]; exact hj'))) (mb_frz ?_)
    rw [er]
    exact b_ret (s_ret (e_call H4 (a_cons (e_var 0) (a_cons (e_var 6) a_nil)) ⟨f, setR (rowsM f p) i j g, hf, by rw [setR, List.length_set, rows_len, lets_len]; exact hf.len, rfl, rfl⟩))
  refine ⟨_, fin_rt, show BX _ _ _ [.dat (faceD f), .dat (prsD p), .dat (chD a), .dat (chD b), .dat (.int g), .no, .no, .no, .no] (.rt (prsD (gapM f p i j g)) [.dat (faceD f), .dat (prsD p), .dat (chD a), .dat (chD b), .dat (.int g), .dat (.tuple ((lets f).map chD)), .dat (.list ((setR (rowsM f p) i j g).map rowL)), .no, .no]) from
    b_cons (s_expr (e_call H1 (a_cons (e_var 0) (a_cons (e_var 2) a_nil)) ⟨f, a, k, hk, rfl, rfl⟩)) (b_cons (s_expr (e_call H1 (a_cons (e_var 0) (a_cons (e_var 3) a_nil)) ⟨f, b, l, hl, rfl, rfl⟩))
    (b_cons (s_ifF (t_is (t_not (t_val (e_call (d := .bool true) H2 (a_cons (e_var 4) a_nil) ⟨g, g1, g2, rfl, rfl⟩))) rfl) b_nil)
    (b_setX 5 sc38.nd HX (a_cons (e_var 0) a_nil) ⟨f, hf, rfl, rfl⟩ (b_mat 6 chD (fun a => (lets f).map fun b => PyData.int (gapIn p a b)) (lets f) (own := [("one", 7)]) sc38.nd (by kernel_rfl) (i_tup (e_var 5)) ?_ ?_ (FxTup.slot (by decide)) rest ?_) ?_)))⟩
  · intro x hx
    refine ⟨[7], [chD x], _, g_name 7 sc38.nd, by simp, el_lc (ys := (lets f).map fun b => PyData.int (gapIn p x b)) (own := [("other", 8)]) sc38.nd (by kernel_rfl) (i_tup (e_var 5)) ?_ hf.len1, rfl⟩
    exact lc_map chD _ (lets f) fun b hb => ⟨[8], [chD b], _, g_name 8 sc38.nd, by simp, e_call H3 (a_cons (e_var 1) (a_cons (e_var 7) (a_cons (e_var 8) a_nil))) ⟨p, x, b, rfl, rfl⟩, rfl⟩
  · rw [lets_len]; exact Nat.le_trans hf.len (by decide)
  · exact Nat.le_of_ble_eq_true rfl
  · exact Nat.le_of_ble_eq_true rfl
end
end Sg
namespace Sg
open PySem PySem.Spec PyProof.Rows L2
theorem lpm_fold {G : Gam} {tg : Expr} {st : Stmt} {α σt : Type} {i : Nat} (f : α → PyData) (step : σt → α → σt) (ρ : σt → List Sl) (rs : σt → List (List PyData)) (I : σt → Prop) : ∀ (l : List α) (s : σt), I s → (∀ s a, a ∈ l → I s → I (step s a) ∧ ∃ is ds ρ2 is2, GX G tg (f a) is ds ∧ i ∉ is ∧ MS FxT G i st (setD (ρ s) is ds) (rs s) ρ2 (rs (step s a)) ∧ fg is2 ρ2 = ρ (step s a)) → LpM G i tg st (l.map f) (ρ s) (rs s) (ρ (l.foldl step s)) (rs (l.foldl step s))
  | [], s, _, _ => .nil
  | a :: l, s, hI, h => by
    obtain ⟨h0, is, ds, ρ2, is2, h1, h2, h3, h4⟩ := h s a List.mem_cons_self hI
    refine .step is2 h1 h2 h3 ?_
    rw [h4]
    exact lpm_fold f step ρ rs I l (step s a) h0 fun s b hb => h s b (List.mem_cons_of_mem _ hb)
/-! ### rows drawn -/
def drawS (m : Nat) (b : Box) (_ : Nat) : Box × Nat := takeM b m
def nearL : List Int := [0, 0, 1, -1, 9, -9, 4]
def gap1S (b : Box) (_ : Nat) : Box × Int := ((takeM b 7).1, nearL.getD (takeM b 7).2 0)
def gap2S (b : Box) (_ : Nat) : Box × List Int := (accS gap1S b (List.range 3), accV gap1S b (List.range 3))
def storS (n : Nat) (s : Box × List (List Int)) (_ : Nat) : Box × List (List Int) :=
  ((takeM (takeM (takeM s.1 19).1 n).1 n).1, setR s.2 (takeM (takeM s.1 19).1 n).2 (takeM (takeM (takeM s.1 19).1 n).1 n).2 (((takeM s.1 19).2 : Int) - 9))
def frM (b : Box) (n : Nat) : Box × List Nat := (accS (drawS 3) b (List.range n), accV (drawS 3) b (List.range n))
def gpM (b : Box) : Box × List (List Int) := (accS gap2S b (List.range 3), accV gap2S b (List.range 3))
def rows0M (fs ss : List Nat) (gs : List (List Int)) : List (List Int) := fs.map fun i => ss.map fun j => (gs.getD i []).getD j 0
def rowsL (b : Box) (n : Nat) : Box × List (List Int) :=
  (List.range (takeM (gpM (frM (frM b n).1 n).1).1 4).2).foldl (storS n) ((takeM (gpM (frM (frM b n).1 n).1).1 4).1, rows0M (frM b n).2 (frM (frM b n).1 n).2 (gpM (frM (frM b n).1 n).1).2)
theorem draw_lt {m : Nat} (hm : 0 < m) : ∀ (l : List Nat) (b : Box) (x : Nat), x ∈ accV (drawS m) b l → x < m
  | [], b, x, h => by simp [accV] at h
  | a :: l, b, x, h => by
    rw [accV] at h
    rcases List.mem_cons.mp h with z | z
    · subst z; exact take_lt b hm
    · exact draw_lt hm l _ x z
theorem gap_len : ∀ (l : List Nat) (b : Box) (r : List Int), r ∈ accV gap2S b l → r.length = 3
  | [], b, x, h => by simp [accV] at h
  | a :: l, b, x, h => by
    rw [accV] at h
    rcases List.mem_cons.mp h with z | z
    · subst z; show (accV gap1S b (List.range 3)).length = 3; rw [acc_len]; rfl
    · exact gap_len l _ x z
def SqR (n : Nat) (rows : List (List Int)) : Prop := rows.length = n ∧ ∀ r ∈ rows, r.length = n
theorem setR_sq {n : Nat} {rows : List (List Int)} (h : SqR n rows) {i : Nat} (hi : i < n) (j : Nat) (g : Int) : SqR n (setR rows i j g) := by
  refine ⟨by rw [setR, List.length_set]; exact h.1, fun r hr => ?_⟩
  rw [setR] at hr
  rcases List.mem_or_eq_of_mem_set hr with z | z
  · exact h.2 r z
  · subst z
    rw [List.length_set, List.getD_eq_getElem?_getD, List.getElem?_eq_getElem (by rw [h.1]; exact hi)]
    exact h.2 _ (List.getElem_mem _)
section
variable {P : Program} {w : World} {K : PySem.W.Frag} {mg : Str → Option Value} {base : Heap} {f : Addr} {fd : FuncData}
/-! ### _law_rows -/
def R_rows (bs ds : List PyData) (d : PyData) (bs' : List PyData) : Prop := ∃ (b : Box) (n : Nat), 0 < n ∧ n ≤ 10 ∧ bs = bxD b ∧ ds = [.int (n : Nat)] ∧ d = .list ((rowsL b n).2.map rowL) ∧ bs' = bxD (rowsL b n).1
theorem sc67 : FnScope ["_law_box_here", "_law_many", "_law_firsts", "_law_seconds", "_law_near", "_law_gaps", "_law_rows_here", "_law_turn", "_law_place", "_law_second", "_law_first"] ["_law_box_here", "_law_many"] (defScope (topS 67)) := ⟨rfl, rfl, rfl, by decide +kernel, rfl, by decide +kernel, by decide +kernel⟩
abbrev natL (l : List Nat) : PyData := .list (l.map fun k => PyData.int (k : Nat))
theorem ok_rows (T : Glo mg) (H2 : Hb P w K mg base "_law_take" 1 R_take) (F : FnP K "_law_rows" (topS 67) f fd) : FnOk P w K mg base CX0 2 f fd ["_law_box_here", "_law_many"] (spB K R_rows) := by
  refine fn_box F sc67 (fun bs ds d bs' ⟨_, _, _, _, _, e, _⟩ => by rw [e]; rfl) fun bs ds d bs' hR q => ?_
  obtain ⟨b, n, hn, hn2, rfl, rfl, rfl, rfl⟩ := hR
  generalize h1 : frM b n = f1 at *
  generalize h2 : frM f1.1 n = f2 at *
  generalize h3 : gpM f2.1 = f3 at *
  have hnear : atI (nearL.map PyData.int) = atI [.int 0, .int 0, .int 1, .int (-1), .int 9, .int (-9), .int 4] := rfl
  have e0 : rowsL b n = (List.range (takeM f3.1 4).2).foldl (storS n) ((takeM f3.1 4).1, rows0M f1.2 f2.2 f3.2) := by rw [rowsL, h1, h2, h3]
  have l1 : f1.2.length = n := by rw [← h1]; show (accV _ _ _).length = n; rw [acc_len, List.length_range]
  have l2 : f2.2.length = n := by rw [← h2]; show (accV _ _ _).length = n; rw [acc_len, List.length_range]
  have l3 : f3.2.length = 3 := by rw [← h3]; show (accV _ _ _).length = 3; rw [acc_len]; rfl
  have d1 : ∀ x ∈ f1.2, x < 3 := fun x hx => by rw [← h1] at hx; exact draw_lt (by decide) _ _ x hx
  have d2 : ∀ x ∈ f2.2, x < 3 := fun x hx => by rw [← h2] at hx; exact draw_lt (by decide) _ _ x hx
  have d3 : ∀ r ∈ f3.2, r.length = 3 := fun r hr => by rw [← h3] at hr; exact gap_len _ _ r hr
  have hr0 : SqR n (rows0M f1.2 f2.2 f3.2) := ⟨by rw [rows0M, List.length_map, l1], fun r hr => by
    obtain ⟨i, hi, rfl⟩ := List.mem_map.mp hr
    rw [List.length_map, l2]⟩
  have h4 := take_lt f3.1 (show 0 < 4 by decide)
  have drawLc : ∀ (i : Nat) (b0 : Box) (st : Box → List Sl), True := fun _ _ _ => trivial
  refine ⟨[.mut q (bxD (rowsL b n).1), .dat (.int (n : Nat)), .dat (natL f1.2), .dat (natL f2.2), .dat (.list (nearL.map .int)), .dat (.list (f3.2.map rowL)), .dat (.list ((rowsL b n).2.map rowL)), .no, .no, .no, .no], rfl, show BX _ _ _ [.mut q (bxD b), .dat (.int (n : Nat)), .no, .no, .no, .no, .no, .no, .no, .no, .no] _ from ?_⟩
  refine b_cons (s_setLcM (ys := f1.2.map fun k => PyData.int (k : Nat)) (ρ' := [.mut q (bxD f1.1), .dat (.int (n : Nat)), .no, .no, .no, .no, .no, .no, .no, .no, .no]) 2 (own := [("_law_place", 8)]) sc67.nd (blkB_mk (by kernel_rfl)) (i_range1 (j := (n : Int)) T.range (e_var 1) (by omega) (by omega)) ?_ ?_ rfl rfl) ?_
  · rw [Int.toNat_natCast, show (0 : Int) = ((0 : Nat) : Int) from rfl, rng_nat, ← h1]
    exact lc_acc (fun k : Nat => PyData.int ((0 + k : Nat) : Int)) _ (drawS 3) (fun b => [.mut q (bxD b), .dat (.int (n : Nat)), .no, .no, .no, .no, .no, .no, .no, .no, .no]) (fun _ _ => True) _ b 0 trivial fun b k n hk _ => ⟨trivial, [8], [.int ((0 + k : Nat) : Int)], _, g_name 8 sc67.nd, by simp, e_callB 0 H2 (a_cons e_int a_nil) rfl rfl ⟨b, 3, by decide, by decide, rfl, rfl, rfl, rfl⟩, rfl⟩
  · rw [rng_len]; omega
  refine b_cons (s_setLcCM (ys := f2.2.map fun k => PyData.int (k : Nat)) (ρ' := [.mut q (bxD f2.1), .dat (.int (n : Nat)), .dat (natL f1.2), .no, .no, .no, .no, .no, .no, .no, .no]) 3 (own := [("_law_place", 8)]) sc67.nd (blkB_mk (by kernel_rfl)) (i_range1 (j := (n : Int)) T.range (e_var 1) (by omega) (by omega)) ?_ ?_ rfl rfl) ?_
  · rw [Int.toNat_natCast, show (0 : Int) = ((0 : Nat) : Int) from rfl, rng_nat, ← h2]
    exact lc_acc (fun k : Nat => PyData.int ((0 + k : Nat) : Int)) _ (drawS 3) (fun b => [.mut q (bxD b), .dat (.int (n : Nat)), .dat (natL f1.2), .no, .no, .no, .no, .no, .no, .no, .no]) (fun _ _ => True) _ f1.1 0 trivial fun b k n hk _ => ⟨trivial, [8], [.int ((0 + k : Nat) : Int)], _, g_name 8 sc67.nd, by simp, e_callB 0 H2 (a_cons e_int a_nil) rfl rfl ⟨b, 3, by decide, by decide, rfl, rfl, rfl, rfl⟩, rfl⟩
  · rw [rng_len]; omega
  refine b_cons (s_set 4 sc67.nd (d := .list (nearL.map .int)) (e_lst (a_cons e_int (a_cons e_int (a_cons e_int (a_cons (e_neg e_int) (a_cons e_int (a_cons (e_neg e_int) (a_cons e_int a_nil))))))))) ?_
  refine b_cons (s_setLcCM (ys := f3.2.map rowL) (ρ' := [.mut q (bxD f3.1), .dat (.int (n : Nat)), .dat (natL f1.2), .dat (natL f2.2), .dat (.list (nearL.map .int)), .no, .no, .no, .no, .no, .no]) 5 (own := [("_law_first", 10)]) sc67.nd (blkB_mk (by kernel_rfl)) (i_range1 (j := 3) T.range e_int (by decide) (by decide)) ?_ ?_ rfl rfl) ?_
  · rw [show ((3 : Int)).toNat = 3 from rfl, show (0 : Int) = ((0 : Nat) : Int) from rfl, rng_nat, ← h3]
    refine lc_acc (fun k : Nat => PyData.int ((0 + k : Nat) : Int)) rowL gap2S (fun b => [.mut q (bxD b), .dat (.int (n : Nat)), .dat (natL f1.2), .dat (natL f2.2), .dat (.list (nearL.map .int)), .no, .no, .no, .no, .no, .no]) (fun _ _ => True) _ f2.1 0 trivial fun b k m hk _ => ⟨trivial, [10], [.int ((0 + k : Nat) : Int)], _, g_name 10 sc67.nd, by simp, e_lcM (ys := (gap2S b k).2.map .int) (ρ' := [.mut q (bxD (gap2S b k).1), .dat (.int (n : Nat)), .dat (natL f1.2), .dat (natL f2.2), .dat (.list (nearL.map .int)), .no, .no, .no, .no, .no, .dat (.int ((0 + k : Nat) : Int))]) (own := [("_law_second", 9)]) sc67.nd (blkB_mk (by kernel_rfl)) (i_range1 (j := 3) T.range e_int (by decide) (by decide)) ?_ (by decide) rfl rfl, rfl⟩
    rw [show ((3 : Int)).toNat = 3 from rfl, show (0 : Int) = ((0 : Nat) : Int) from rfl, rng_nat]
    refine lc_acc (fun k : Nat => PyData.int ((0 + k : Nat) : Int)) PyData.int gap1S (fun b => [.mut q (bxD b), .dat (.int (n : Nat)), .dat (natL f1.2), .dat (natL f2.2), .dat (.list (nearL.map .int)), .no, .no, .no, .no, .no, .dat (.int ((0 + k : Nat) : Int))]) (fun _ _ => True) _ b 0 trivial fun b k m hk _ => ⟨trivial, [9], [.int ((0 + k : Nat) : Int)], _, g_name 9 sc67.nd, by simp, e_ixL (ds := nearL.map .int) (i := ((takeM b 7).2 : Nat)) (e_var 4) (e_callB 0 H2 (a_cons e_int a_nil) rfl rfl ⟨b, 7, by decide, by decide, rfl, rfl, rfl, rfl⟩) (ps_ix rfl (take_lt b (by decide))), rfl⟩
  · rw [rng_len]; decide
  rw [e0]
  refine bx_of (b_mat (Ψ := FxT) 6 (fun k : Nat => PyData.int (k : Nat)) (fun i => f2.2.map fun j => PyData.int ((f3.2.getD i []).getD j 0)) f1.2 (own := [("_law_first", 10)]) sc67.nd (by kernel_rfl) (i_list (e_var 2)) ?_ (by omega) (fun _ _ _ _ _ _ => trivial) (mb_cons (ρ1 := [.mut q (bxD ((List.range (takeM f3.1 4).2).foldl (storS n) ((takeM f3.1 4).1, rows0M f1.2 f2.2 f3.2)).1), .dat (.int (n : Nat)), .dat (natL f1.2), .dat (natL f2.2), .dat (.list (nearL.map .int)), .dat (.list (f3.2.map rowL)), .no, .no, .no, .no, .no]) (rs1 := ((List.range (takeM f3.1 4).2).foldl (storS n) ((takeM f3.1 4).1, rows0M f1.2 f2.2 f3.2)).2.map fun r => r.map .int) (ms_for (i_range1 (j := ((takeM f3.1 4).2 : Nat)) T.range (e_callB 0 H2 (a_cons e_int a_nil) rfl rfl ⟨f3.1, 4, by decide, by decide, rfl, rfl, rfl, rfl⟩) (by omega) (by omega)) ?_) (mb_frz ?_)) (Nat.le_of_ble_eq_true rfl))
  · intro i hi
    have hi3 := d1 i hi
    refine ⟨[10], [.int (i : Nat)], _, g_name 10 sc67.nd, by simp, el_lc (own := [("_law_second", 9)]) sc67.nd (by kernel_rfl) (i_list (e_var 3)) ?_ (by rw [List.length_map]; omega), rfl⟩
    refine lc_map (fun k : Nat => PyData.int (k : Nat)) _ f2.2 fun j hj => ?_
    have hj3 := d2 j hj
    have hrow : f3.2.getD i [] ∈ f3.2 := by
      rw [List.getD_eq_getElem?_getD, List.getElem?_eq_getElem (by omega)]
      exact List.getElem_mem _
    refine ⟨[9], [.int (j : Nat)], _, g_name 9 sc67.nd, by simp, e_ixL (ds := (f3.2.getD i []).map .int) (i := (j : Nat)) (e_ixL (ds := f3.2.map rowL) (i := (i : Nat)) (e_var 5) (e_var 10) ?_) (e_var 9) (ps_ix rfl (by rw [d3 _ hrow]; exact hj3)), rfl⟩
    rw [atI_nat _ _ (by rw [List.length_map]; omega), List.getElem?_map, List.getD_eq_getElem?_getD, List.getElem?_eq_getElem (by omega)]
    rfl
  · have hrs : (f1.2.map fun i => f2.2.map fun j => PyData.int ((f3.2.getD i []).getD j 0)) = (rows0M f1.2 f2.2 f3.2).map fun r => r.map .int := by
      rw [rows0M, List.map_map]
      exact List.map_congr_left fun i _ => by rw [Function.comp, List.map_map]; rfl
    rw [hrs, Int.toNat_natCast, show (0 : Int) = ((0 : Nat) : Int) from rfl, rng_nat]
    refine lpm_fold (fun k : Nat => PyData.int ((0 + k : Nat) : Int)) (storS n) (fun s => [.mut q (bxD s.1), .dat (.int (n : Nat)), .dat (natL f1.2), .dat (natL f2.2), .dat (.list (nearL.map .int)), .dat (.list (f3.2.map rowL)), .no, .no, .no, .no, .no]) (fun s => s.2.map fun r => r.map .int) (fun s => SqR n s.2) (List.range (takeM f3.1 4).2) ((takeM f3.1 4).1, rows0M f1.2 f2.2 f3.2) hr0 fun s k hk hI => ?_
    have t2 := take_lt (takeM s.1 19).1 hn
    have t3 := take_lt (takeM (takeM s.1 19).1 n).1 hn
    have hrow : (s.2.getD (takeM (takeM s.1 19).1 n).2 []).length = n := by
      rw [List.getD_eq_getElem?_getD, List.getElem?_eq_getElem (by rw [hI.1]; exact t2)]
      exact hI.2 _ (List.getElem_mem _)
    have ers : (storS n s k).2.map (fun r => r.map PyData.int) = (s.2.map fun r => r.map PyData.int).set (takeM (takeM s.1 19).1 n).2 (((s.2.getD (takeM (takeM s.1 19).1 n).2 []).map PyData.int).set (takeM (takeM (takeM s.1 19).1 n).1 n).2 (.int (((takeM s.1 19).2 : Int) - 9))) := by
      show (setR _ _ _ _).map _ = _
      rw [setR, List.map_set, List.map_set]
    rw [ers]
    refine ⟨setR_sq hI t2 _ _, [7], [.int ((0 + k : Nat) : Int)], _, [7], g_name 7 sc67.nd, by simp, ms_store (fun _ _ _ _ _ => trivial) 6 (exf (e_sub (i := ((takeM s.1 19).2 : Nat)) (e_callB 0 H2 (a_cons e_int a_nil) rfl rfl ⟨s.1, 19, by decide, by decide, rfl, rfl, rfl, rfl⟩) e_int))
      (exf (e_callB 0 H2 (a_cons (e_var 1) a_nil) rfl rfl ⟨(takeM s.1 19).1, n, hn, by omega, rfl, rfl, rfl, rfl⟩)) (exf (e_callB 0 H2 (a_cons (e_var 1) a_nil) rfl rfl ⟨(takeM (takeM s.1 19).1 n).1, n, hn, by omega, rfl, rfl, rfl, rfl⟩))
      (ixN_nat (by rw [List.length_map, hI.1]; exact t2)) ?_ (ixN_nat (by rw [List.length_map, hrow]; exact t3)), rfl⟩
    rw [List.getElem?_map, List.getD_eq_getElem?_getD, List.getElem?_eq_getElem (by rw [hI.1]; exact t2)]; rfl
  · have er : ∀ l : List (List Int), (l.map fun r => r.map PyData.int).map PyData.list = l.map rowL := fun l => by rw [List.map_map]; rfl
    rw [er]
    exact b_ret (s_ret (e_var 6))
/-! ### _law_pairs -/
def R_pairs (bs ds : List PyData) (d : PyData) (bs' : List PyData) : Prop := ∃ (b : Box) (f : Face), FOk f ∧ bs = bxD b ∧ ds = [faceD f] ∧ d = prsD (fromRows (lets f) (rowsL b f.2.length).2) ∧ bs' = bxD (rowsL b f.2.length).1
theorem sc69 : FnScope ["_law_box_here", "_law_face_here"] ["_law_box_here", "_law_face_here"] (defScope (topS 69)) := ⟨rfl, rfl, rfl, by decide +kernel, rfl, by decide +kernel, by decide +kernel⟩
theorem rows_sq (b : Box) {n : Nat} (hn : 0 < n) : SqR n (rowsL b n).2 := by
  have : ∀ (l : List Nat) (s : Box × List (List Int)), SqR n s.2 → SqR n (l.foldl (storS n) s).2 := by
    intro l
    induction l with
    | nil => exact fun s h => h
    | cons a l ih => exact fun s h => ih _ (setR_sq h (take_lt _ hn) _ _)
  refine this _ _ ⟨?_, fun r hr => ?_⟩
  · show (rows0M _ _ _).length = n
    rw [rows0M, List.length_map]
    show (accV _ _ _).length = n
    rw [acc_len, List.length_range]
  · obtain ⟨i, hi, rfl⟩ := List.mem_map.mp hr
    rw [List.length_map]
    show (accV _ _ _).length = n
    rw [acc_len, List.length_range]
theorem ok_pairs (T : Glo mg) (H1 : Hs P w K mg base "_law_list" 2 R_from_rows) (H2 : Hb P w K mg base "_law_rows" 2 R_rows) (F : FnP K "_law_pairs" (topS 69) f fd) : FnOk P w K mg base CX0 3 f fd ["_law_box_here", "_law_face_here"] (spB K R_pairs) := by
  refine fn_box F sc69 (fun bs ds d bs' ⟨_, _, _, _, e, _⟩ => by rw [e]; rfl) fun bs ds d bs' hR q => ?_
  obtain ⟨b, f, hf, rfl, rfl, rfl, rfl⟩ := hR
  have hpos : 0 < f.2.length := List.length_pos_iff.mpr hf.ne
  exact ⟨_, rfl, show BX _ _ _ [.mut q (bxD b), .dat (faceD f)] (.rt _ [.mut q (bxD (rowsL b f.2.length).1), .dat (faceD f)]) from b_ret (s_ret (e_call H1 (a_cons (e_var 1) (a_cons (e_callB 0 H2 (a_cons (e_lenT (xs := f.2.map ltD) T.len (e_ixT (e_var 1) e_int rfl)) a_nil) rfl rfl ⟨b, f.2.length, hpos, hf.len, rfl, by rw [List.length_map], rfl, rfl⟩) a_nil)) ⟨f, (rowsL b f.2.length).2, hf, by rw [(rows_sq b hpos).1]; exact hf.len, rfl, rfl⟩))⟩
end
end Sg
namespace Sg
open PySem PySem.Spec PyProof.Rows L2
def pairIn (t : List Nat) (a b : Nat) : Bool := (t.zip (t.drop 1)).any fun x => decide (x.1 = a) && decide (x.2 = b)
/-- what the law asks of a turn -/
structure LawOk (f : Face) (p : Prs) (a o : Nat) (ws ws' : List (List Nat)) : Prop where
  fo : FOk f
  f4 : f.2.length ≤ 4
  a1 : isLt a
  a2 : a ∉ lets f
  o1 : o ∈ lets f
  w1 : WOk f ws
  w2 : WOk (likeF f a o) ws'
  b1 : begM (likeF f a o) (likeP f p a o) (joinB ws') = begM f p (joinB ws)
  b2 : wideM (likeF f a o) (likeP f p a o) (joinB ws') = wideM f p (joinB ws)
  b3 : ∀ n, signM (likeF f a o) (likeP f p a o) (joinB ws') n = signM f p (joinB ws) n
  wd : ∀ w ∈ ws, 1 ≤ wideM f p w ∧ wideM f p w ≤ 500
  ln : ∀ n : Int, 1 ≤ n → n ≤ 999 → (∀ w ∈ ws, wideM f p w ≤ n) → LinesOk f (likeF f a o) p (likeP f p a o) ws ws' n
  pt : partersM (likeF f a o) (likeP f p a o) = partersM f p
  hd : headsM (likeF f a o) (likeP f p a o) = headsM f p
  sh : showsM (likeF f a o) (likeP f p a o) = showsM f p
  mv1 : ∀ (one i j : Nat) (g : Int), one ∈ lets f → (lets (likeF f a o))[i]? = some a → (lets (likeF f a o))[j]? = some one → movedM (likeP f p a o) (gapM (likeF f a o) (likeP f p a o) i j g) (joinB ws) = false
  mv2 : ∀ (one i j : Nat) (g : Int), one ∈ lets f → (lets (likeF f a o))[i]? = some a → (lets (likeF f a o))[j]? = some one → movedM (likeP f p a o) (gapM (likeF f a o) (likeP f p a o) i j g) (joinB ws') = (pairIn (joinB ws') a one && decide (g ≠ gapIn p o one))
def wS (ls : List Nat) (b : Box) (_ : Nat) : Box × List Nat := wordM b ls
theorem in_two (t : List Nat) (a b : Nat) : (!(Builtin.Str.occurrences (txS t) (txS [a, b]) 0 (txS t).length 1).isEmpty) = pairIn t a b := by
  rw [Bool.eq_iff_iff, PySem.StrLaws.found_iff]
  have hl : (txS [a, b]).length = 2 := rfl
  rw [hl, txS_len]
  have sub : ∀ i, i + 2 ≤ t.length → (Builtin.Str.subAt (txS t) (txS [a, b]) i = true ↔ (t[i]? = some a ∧ t[i + 1]? = some b)) := fun i hi => by
    unfold Builtin.Str.subAt
    rw [hl, beq_iff_eq]
    have e1 : ((txS t).cps.extract i (i + 2)) = ((t.drop i).take 2).toArray := by
      simp [txS, List.extract_toArray, List.extract_eq_drop_take]
    rw [e1]
    have e2 : (t.drop i).take 2 = [t[i], t[i + 1]] := by
      rw [List.drop_eq_getElem_cons (by omega), List.drop_eq_getElem_cons (by omega)]; rfl
    rw [e2, List.getElem?_eq_getElem (by omega), List.getElem?_eq_getElem (by omega)]
    simp [txS]
  rw [pairIn, List.any_eq_true]
  constructor
  · rintro ⟨i, hi, hs⟩
    obtain ⟨h1, h2⟩ := (sub i hi).mp hs
    refine ⟨(a, b), List.mem_of_getElem? (i := i) ?_, by simp⟩
    rw [List.getElem?_zip_eq_some]
    exact ⟨h1, by rw [List.getElem?_drop, Nat.add_comm]; exact h2⟩
  · rintro ⟨x, hx, he⟩
    obtain ⟨i, hi, e⟩ := List.getElem_of_mem hx
    have e' : (t.zip (t.drop 1))[i]? = some x := by rw [List.getElem?_eq_getElem hi, e]
    rw [List.getElem?_zip_eq_some, List.getElem?_drop, Nat.add_comm] at e'
    simp only [Bool.and_eq_true, decide_eq_true_eq] at he
    rw [he.1, he.2] at e'
    have hi2 : i + 1 < t.length := (List.getElem?_eq_some_iff.mp e'.2).1
    exact ⟨i, by omega, (sub i (by omega)).mpr e'⟩
theorem find_list {f : Face} {c : Nat} (h : c ∈ lets f) : ∃ k, placeOf f c = some k := by
  obtain ⟨k, q, h1, _⟩ := place_some h
  exact ⟨k, h1⟩
end Sg
namespace Sg
open PySem PySem.Spec PyProof.Rows L2
def TurnOk (b : Box) : Prop := ∀ (b1 : Box) (f : Face) (b2 : Box) (rows : List (List Int)) (b3 : Box) (a : Nat) (b4 : Box) (io : Nat) (b5 : Box) (kw : Nat) (b7 : Box) (t' : List Nat),
  faceM b = (b1, f) → rowsL b1 f.2.length = (b2, rows) → freshM b2 f = (b3, a) → takeM b3 (lets f).length = (b4, io) → takeM b4 4 = (b5, kw) →
  swapM (accS (wS (lets f)) b5 (List.range (1 + kw))) (joinB (accV (wS (lets f)) b5 (List.range (1 + kw)))) a ((lets f).getD io 0) = (b7, t') →
  ∃ ws', t' = joinB ws' ∧ LawOk f (fromRows (lets f) rows) a ((lets f).getD io 0) (accV (wS (lets f)) b5 (List.range (1 + kw))) ws'
theorem ex_max : ∀ l : List Int, l ≠ [] → ∃ m ∈ l, ∀ y ∈ l, y ≤ m
  | [], h => absurd rfl h
  | [x], _ => ⟨x, by simp, by simp⟩
  | x :: y :: l, _ => by
    obtain ⟨m, h1, h2⟩ := ex_max (y :: l) (by simp)
    by_cases h : m ≤ x
    · exact ⟨x, by simp, fun z hz => by
        rcases List.mem_cons.mp hz with q | q
        · omega
        · have := h2 z q; omega⟩
    · exact ⟨m, List.mem_cons_of_mem _ h1, fun z hz => by
        rcases List.mem_cons.mp hz with q | q
        · omega
        · exact h2 z q⟩
theorem optD_refl (x : Option Nat) : PyData.eqv (optD x) (optD x) = true := by
  cases x <;> simp [optD, PyData.eqv]
theorem optD_z (x : Option Nat) : (optD x).depth ≤ 60 := by cases x <;> exact Nat.zero_le _
theorem optC_z (x : Option Nat) : (optC x).depth ≤ 0 := by cases x <;> exact Nat.le_refl _
theorem optC_plain (x : Option Nat) : (optC x).plain = true := by cases x <;> simp [optC, chD, PyData.plain]
theorem plain_map {α : Type} {f : α → PyData} (h : ∀ a, (f a).plain = true) : ∀ l : List α, PyData.plainAll (l.map f) = true
  | [] => by simp [PyData.plainAll]
  | a :: l => by simp [PyData.plainAll, h a, plain_map h l]
theorem shows_refl (x : List Nat) (y : List (Option Nat)) : PyData.eqv (.tuple [.tuple (x.map chD), .tuple (y.map optC)]) (.tuple [.tuple (x.map chD), .tuple (y.map optC)]) = true := by
  refine PySem.SeqAt.eqv_refl_plain _ ?_
  simp only [PyData.plain, PyData.plainAll, Bool.and_true, Bool.and_eq_true]
  exact ⟨plain_map (fun c => by simp [chD, PyData.plain]) x, plain_map optC_plain y⟩
theorem shows_z (x : List Nat) (y : List (Option Nat)) : (PyData.tuple [.tuple (x.map chD), .tuple (y.map optC)]).depth ≤ 60 := by
  have h1 := z_tup (f := chD) z_ch x
  have h2 := z_tup (f := optC) optC_z y
  rw [PyData.depth, PyData.depthAll, PyData.depthAll, PyData.depthAll]
  omega
def dueD (c : Bool) : PyData := if c then .tuple [.int 1] else .tuple []
theorem dueD_refl (c : Bool) : PyData.eqv (dueD c) (dueD c) = true := by cases c <;> simp [dueD, PyData.eqv, PyData.eqvAll]
theorem dueD_z (c : Bool) : (dueD c).depth ≤ 60 := by cases c <;> decide
theorem moved_val {p q : Prs} {t t' : List Nat} {c : Bool} (h1 : movedM p q t = false) (h2 : movedM p q t' = c) : PyData.tuple ((([t, t', []] : List (List Nat)).zipIdx.filter fun x => movedM p q x.1).map fun x => PyData.int (x.2 : Nat)) = dueD c := by
  have h3 : movedM p q [] = false := rfl
  cases c <;> simp [List.zipIdx, List.filter, h1, h2, h3, dueD]
theorem b_as {G : Gam} {m : Addr → Prop} {ρ ρ' : List Sl} {sts : List Stmt} {o : Out} (e : ρ = ρ') (h : BX G m sts ρ' o) : BX G m sts ρ o := e ▸ h
theorem b_end {G : Gam} {m : Addr → Prop} {ρ ρ' : List Sl} (is : List Nat) (e : fg is ρ = ρ') : BX G m [] ρ (.nx ρ') := by
  rw [← e]; exact b_nx is b_nil
section
variable {P : Program} {w : World} {K : PySem.W.Frag} {mg : Str → Option Value} {base : Heap} {f : Addr} {fd : FuncData}
def R_law (ds : List PyData) (d : PyData) : Prop := ∃ ns : List Int, ns.length ≤ 100 ∧ ds = [.list (ns.map .int)] ∧ d = .bool true
def lawN : List Str := ["_law_script", "_law_k", "_law_box_here", "_law_face_here", "_law_letters_here", "_law_pairs_here", "_law_letter", "_law_other", "_law_later", "_law_more", "_law_words", "_law_text", "_law_swapped_here", "_law_at", "_law_number", "_law_one", "_law_gap", "_law_due", "_law_turned", "_law_turn", "_law_word_here"]
theorem sc75 : FnScope lawN ["_law_script"] (defScope (topS 75)) := ⟨rfl, rfl, rfl, by decide +kernel, rfl, by decide +kernel, by decide +kernel⟩
theorem ok_law (T : Glo mg) (HT : ∀ b, TurnOk b) (H1 : Has P w K mg base "_law_box" 1 (spN K R_box)) (H2 : Hb P w K mg base "_law_face" 2 R_face) (H3 : Hs P w K mg base "_law_letters" 1 R_letters) (H4 : Hb P w K mg base "_law_pairs" 3 R_pairs) (H5 : Hb P w K mg base "_law_fresh" 2 R_fresh) (H6 : Hb P w K mg base "_law_take" 1 R_take)
    (H7 : Hs P w K mg base "with_like" 3 R_with_like) (H8 : Hb P w K mg base "_law_word" 2 R_word) (H9 : Hb P w K mg base "_law_swapped" 2 R_swapped) (H10 : Hs P w K mg base "begins" 5 R_begins) (H11 : Hs P w K mg base "wide" 5 R_wide) (H12 : Hs P w K mg base "sign_at" 5 R_sign_at) (H13 : Hs P w K mg base "_law_lines_right" 9 R_lines_right)
    (H14 : Hs P w K mg base "parters" 4 R_parters) (H15 : Hs P w K mg base "shows_lefts" 4 R_shows_lefts) (H16 : Hs P w K mg base "gap_of" 3 R_gap_of) (H17 : Hs P w K mg base "with_gap" 3 R_with_gap) (H18 : Hs P w K mg base "moved_lines" 5 R_moved_lines) (F : FnP K "law" (topS 75) f fd) : FnOk P w K mg base CX0 10 f fd ["_law_script"] (spP K R_law) := by
  refine fn_pure F sc75 (fun ds d ⟨_, _, e, _⟩ => by rw [e]; rfl) fun ds d hR => ?_
  obtain ⟨ns, hns, rfl, rfl⟩ := hR
  have hlen : ((ns.map PyData.int).length : Int) = (ns.length : Int) := by rw [List.length_map]
  obtain ⟨jj, hjj⟩ : ∃ jj : Int, jj = (if (if (2 : Int) < ((ns.map PyData.int).length : Int) then (2 : Int) else ((ns.map PyData.int).length : Int)) > 1 then (if (2 : Int) < ((ns.map PyData.int).length : Int) then (2 : Int) else ((ns.map PyData.int).length : Int)) else 1) := ⟨_, rfl⟩
  have hj2 : jj ≤ 2 ∧ 1 ≤ jj := by rw [hjj, hlen]; constructor <;> split <;> (try split) <;> omega
  refine ⟨.rt (.bool true) [.dat (.list (ns.map .int)), .no, .no, .no, .no, .no, .no, .no, .no, .no, .no, .no, .no, .no, .no, .no, .no, .no, .no, .no, .no], fin_rt, show BX _ _ _ [.dat (.list (ns.map .int)), .no, .no, .no, .no, .no, .no, .no, .no, .no, .no, .no, .no, .no, .no, .no, .no, .no, .no, .no, .no] _ from b_cons (s_for (o := .nx [.dat (.list (ns.map .int)), .no, .no, .no, .no, .no, .no, .no, .no, .no, .no, .no, .no, .no, .no, .no, .no, .no, .no, .no, .no]) (items := (List.range jj.toNat).map fun k => .int ((0 + k : Nat) : Int))
    (i_as (i_range1 (j := jj) T.range (e_eq (e_max2 (i := 1) (j := if (2 : Int) < ((ns.map PyData.int).length : Int) then (2 : Int) else ((ns.map PyData.int).length : Int)) T.max e_int (e_min2 (i := ((ns.map PyData.int).length : Int)) (j := 2) T.min (e_lenL (xs := ns.map .int) T.len (e_var 0)) e_int)) (by rw [hjj])) (by omega) (by omega)) ?_) ?_) (b_ret (s_ret e_bl))⟩
  · rw [show (0 : Int) = ((0 : Nat) : Int) from rfl, rng_nat]
  refine lp_idx (fun k => .int ((0 + k : Nat) : Int)) (fun _ => [.dat (.list (ns.map .int)), .no, .no, .no, .no, .no, .no, .no, .no, .no, .no, .no, .no, .no, .no, .no, .no, .no, .no, .no, .no]) jj.toNat fun k hk => ?_
  have hk10 : k < 10 := by omega
  refine ⟨[1], [.int ((0 + k : Nat) : Int)], [.dat (.list (ns.map .int)), .no, .no, .no, .no, .no, .no, .no, .no, .no, .no, .no, .no, .no, .no, .no, .no, .no, .no, .no, .no], [], g_name 1 sc75.nd, ?_, rfl⟩
  have hT := HT (boxM ns k)
  generalize hb : boxM ns k = b at *
  rcases hface : faceM b with ⟨b1, f⟩
  rcases hrows : rowsL b1 f.2.length with ⟨b2, rows⟩
  rcases hfresh : freshM b2 f with ⟨b3, a⟩
  rcases ho : takeM b3 (lets f).length with ⟨b4, io⟩
  rcases hkw : takeM b4 4 with ⟨b5, kw⟩
  rcases hsw : swapM (accS (wS (lets f)) b5 (List.range (1 + kw))) (joinB (accV (wS (lets f)) b5 (List.range (1 + kw)))) a ((lets f).getD io 0) with ⟨b7, t'⟩
  obtain ⟨ws', rfl, L⟩ := hT _ _ _ _ _ _ _ _ _ _ _ _ hface hrows hfresh ho hkw hsw
  generalize hws : accV (wS (lets f)) b5 (List.range (1 + kw)) = ws at *
  generalize hb6 : accS (wS (lets f)) b5 (List.range (1 + kw)) = b6 at *
  generalize hp : fromRows (lets f) rows = p at *
  have hn : (lets f).length = f.2.length := lets_len f
  have hpos : 0 < (lets f).length := by rw [hn]; exact List.length_pos_iff.mpr L.fo.ne
  have hn4 : (lets f).length ≤ 4 := by rw [hn]; exact L.f4
  have hio : io < (lets f).length := by have := take_lt b3 hpos; rw [ho] at this; exact this
  have hkw4 : kw < 4 := by have := take_lt b4 (show 0 < 4 by decide); rw [hkw] at this; exact this
  generalize hoo : (lets f).getD io 0 = o at *
  have L1 := L.fo
  have hlk := like_ok (b := o) L.fo (by have := L.f4; omega) L.a1 L.a2
  have hoix : atI ((lets f).map chD) (io : Int) = some (chD o) := by rw [ch_ix hio, hoo]
  refine b_new 2 sc75.nd (el_call (bs := bxD b) H1 (a_cons (e_var 0) (a_cons (e_var 1) a_nil)) ⟨ns, k, hns, hk10, by rw [Nat.zero_add], by rw [hb]⟩) fun q _ => ?_
  refine b_cons (s_set 3 sc75.nd (e_callB 2 (d := faceD f) (bs' := bxD b1) H2 (a_cons e_int (a_cons e_int a_nil)) rfl rfl ⟨b, rfl, rfl, by rw [hface], by rw [hface]⟩)) ?_
  refine b_cons (s_asg (e_tup (a_cons (e_call H3 (a_cons (e_var 3) a_nil) ⟨f, L1, rfl, rfl⟩) (a_cons (e_callB 2 (d := prsD p) (bs' := bxD b2) H4 (a_cons (e_var 3) a_nil) rfl rfl ⟨b1, f, L1, rfl, rfl, by rw [hrows, hp], by rw [hrows]⟩) a_nil))) (g_tup (gs_cons (g_name 4 sc75.nd) (gs_cons (g_name 5 sc75.nd) gs_nil))) (by intro _; rfl) (by intro env h; cases env; simp only at h; subst h; rfl) (by intro _; rfl)) ?_
  refine b_cons (s_par 6 7 sc75.nd (a_cons (e_callB 2 (d := chD a) (bs' := bxD b3) H5 (a_cons (e_var 3) a_nil) rfl rfl ⟨b2, f, L1, rfl, rfl, by rw [hfresh], by rw [hfresh]⟩) (a_cons (e_ixL (ds := (lets f).map chD) (i := (io : Nat)) (e_var 4) (e_callB 2 (d := .int (io : Nat)) (bs' := bxD b4) H6 (a_cons (e_lenL (xs := (lets f).map chD) T.len (e_var 4)) a_nil) rfl rfl ⟨b3, (lets f).length, hpos, by omega, rfl, by rw [List.length_map], by rw [ho], by rw [ho]⟩) hoix) a_nil)) (by intro env h; cases env; simp only at h; subst h; rfl)) ?_
  refine b_cons (s_asg (e_call (d := .tuple [faceD (likeF f a o), prsD (likeP f p a o)]) H7 (a_cons (e_var 3) (a_cons (e_var 5) (a_cons (e_var 6) (a_cons (e_var 7) a_nil)))) ⟨f, p, a, o, L1, by omega, L.a1, L.a2, L.o1, rfl, rfl⟩) (g_tup (gs_cons (g_name 8 sc75.nd) (gs_cons (g_name 9 sc75.nd) gs_nil)))) ?_
  refine b_as (ρ' := [.dat (.list (ns.map .int)), .dat (.int ((0 + k : Nat) : Int)), .mut q (bxD b4), .dat (faceD f), .dat (.list ((lets f).map chD)), .dat (prsD p), .dat (chD a), .dat (chD o), .dat (faceD (likeF f a o)), .dat (prsD (likeP f p a o)), .no, .no, .no, .no, .no, .no, .no, .no, .no, .no, .no]) (by kernel_rfl) ?_
  refine b_cons (s_setLcM (ys := ws.map txD) (ρ' := [.dat (.list (ns.map .int)), .dat (.int ((0 + k : Nat) : Int)), .mut q (bxD b6), .dat (faceD f), .dat (.list ((lets f).map chD)), .dat (prsD p), .dat (chD a), .dat (chD o), .dat (faceD (likeF f a o)), .dat (prsD (likeP f p a o)), .no, .no, .no, .no, .no, .no, .no, .no, .no, .no, .no]) 10 (own := [("_law_turn", 19)]) sc75.nd (blkB_mk (by kernel_rfl)) (i_range1 (j := 1 + (kw : Int)) T.range (e_add (i := 1) (j := (kw : Nat)) e_int (e_callB 2 (d := .int (kw : Nat)) (bs' := bxD b5) H6 (a_cons e_int a_nil) rfl rfl ⟨b4, 4, by decide, by decide, rfl, rfl, by rw [hkw], by rw [hkw]⟩)) (by omega) (by omega)) ?_ ?_ rfl rfl) ?_
  · rw [show (1 + (kw : Int)).toNat = 1 + kw by omega, show (0 : Int) = ((0 : Nat) : Int) from rfl, rng_nat, ← hws, ← hb6]
    exact lc_acc (fun k : Nat => PyData.int ((0 + k : Nat) : Int)) txD (wS (lets f)) (fun b => [.dat (.list (ns.map .int)), .dat (.int ((0 + k : Nat) : Int)), .mut q (bxD b), .dat (faceD f), .dat (.list ((lets f).map chD)), .dat (prsD p), .dat (chD a), .dat (chD o), .dat (faceD (likeF f a o)), .dat (prsD (likeP f p a o)), .no, .no, .no, .no, .no, .no, .no, .no, .no, .no, .no]) (fun _ _ => True) _ b5 0 trivial fun b k n hk _ => ⟨trivial, [19], [.int ((0 + k : Nat) : Int)], _, g_name 19 sc75.nd, by simp, e_callB 2 H8 (a_cons (e_var 4) a_nil) rfl rfl ⟨b, lets f, hpos, by omega, rfl, rfl, rfl, rfl⟩, rfl⟩
  · rw [rng_len]; omega
  refine b_as (ρ' := [.dat (.list (ns.map .int)), .dat (.int ((0 + k : Nat) : Int)), .mut q (bxD b6), .dat (faceD f), .dat (.list ((lets f).map chD)), .dat (prsD p), .dat (chD a), .dat (chD o), .dat (faceD (likeF f a o)), .dat (prsD (likeP f p a o)), .dat (.list (ws.map txD)), .no, .no, .no, .no, .no, .no, .no, .no, .no, .no]) (by kernel_rfl) ?_
  refine b_cons (s_set 11 sc75.nd (d := txD (joinB ws)) (e_eq (e_join (zs := ws.map txS) e_str (e_eq (e_var 10) (by rw [strs_tx])) ?_) (join_tx ws))) ?_
  · rw [sum_len, List.length_map]
    have h5 : (Str.ofString " ").length = 1 := by decide
    have := L.w1.sum
    rw [h5]; omega
  refine b_cons (s_set 12 sc75.nd (e_callB 2 (d := txD (joinB ws')) (bs' := bxD b7) H9 (a_cons (e_var 11) (a_cons (e_var 6) (a_cons (e_var 7) a_nil))) rfl rfl ⟨b6, joinB ws, a, o, L.w1.tx.1, rfl, rfl, by rw [hsw], by rw [hsw]⟩)) ?_
  refine b_as (ρ' := [.dat (.list (ns.map .int)), .dat (.int ((0 + k : Nat) : Int)), .mut q (bxD b7), .dat (faceD f), .dat (.list ((lets f).map chD)), .dat (prsD p), .dat (chD a), .dat (chD o), .dat (faceD (likeF f a o)), .dat (prsD (likeP f p a o)), .dat (.list (ws.map txD)), .dat (txD (joinB ws)), .dat (txD (joinB ws')), .no, .no, .no, .no, .no, .no, .no, .no]) (by kernel_rfl) ?_
  refine b_cons (s_ifF (t_is (t_neP (e_call H10 (a_cons (e_var 8) (a_cons (e_var 9) (a_cons (e_var 12) a_nil))) ⟨likeF f a o, likeP f p a o, joinB ws', L.w2.tx, rfl, rfl⟩) (e_call H10 (a_cons (e_var 3) (a_cons (e_var 5) (a_cons (e_var 11) a_nil))) ⟨f, p, joinB ws, L.w1.tx, rfl, rfl⟩) (Nat.le_trans (z_row _) (by decide))) (by rw [q_row, L.b1]; simp)) b_nil) ?_
  refine b_cons (s_ifF (t_is (t_neP (e_call H11 (a_cons (e_var 8) (a_cons (e_var 9) (a_cons (e_var 12) a_nil))) ⟨likeF f a o, likeP f p a o, joinB ws', L.w2.tx, rfl, rfl⟩) (e_call H11 (a_cons (e_var 3) (a_cons (e_var 5) (a_cons (e_var 11) a_nil))) ⟨f, p, joinB ws, L.w1.tx, rfl, rfl⟩) (Nat.zero_le _)) (by rw [q_int, L.b2]; simp)) b_nil) ?_
  rcases hat : takeM b7 400 with ⟨b8, at1⟩
  refine b_cons (s_set 13 sc75.nd (e_callB 2 (d := .int (at1 : Nat)) (bs' := bxD b8) H6 (a_cons e_int a_nil) rfl rfl ⟨b7, 400, by decide, by decide, rfl, rfl, by rw [hat], by rw [hat]⟩)) ?_
  refine b_cons (s_ifF (t_is (t_neP (e_call H12 (a_cons (e_var 8) (a_cons (e_var 9) (a_cons (e_var 12) (a_cons (e_var 13) a_nil)))) ⟨likeF f a o, likeP f p a o, joinB ws', (at1 : Nat), L.w2.tx, rfl, rfl⟩) (e_call H12 (a_cons (e_var 3) (a_cons (e_var 5) (a_cons (e_var 11) (a_cons (e_var 13) a_nil)))) ⟨f, p, joinB ws, (at1 : Nat), L.w1.tx, rfl, rfl⟩) (optD_z _)) (by rw [L.b3, optD_refl]; rfl)) b_nil) ?_
  obtain ⟨mx, m1, m2⟩ := ex_max (ws.map (wideM f p)) (by have := L.w1.ne; simpa using this)
  rcases hnn : takeM b8 200 with ⟨b9, nn⟩
  have hnn2 : nn < 200 := by have := take_lt b8 (show 0 < 200 by decide); rw [hnn] at this; exact this
  refine b_cons (s_set 14 sc75.nd (e_add (i := mx) (j := (nn : Nat)) (e_maxL (ns := ws.map (wideM f p)) T.max (e_lc (ys := (ws.map (wideM f p)).map .int) (own := [("_law_word_here", 20)]) sc75.nd (by kernel_rfl) (i_list (e_var 10)) ?_ ?_) m1 m2) (e_callB 2 (d := .int (nn : Nat)) (bs' := bxD b9) H6 (a_cons e_int a_nil) rfl rfl ⟨b8, 200, by decide, by decide, rfl, rfl, by rw [hnn], by rw [hnn]⟩))) ?_
  · rw [List.map_map]
    exact lc_map txD _ ws fun v hv => ⟨[20], [txD v], _, g_name 20 sc75.nd, by simp, e_call H11 (a_cons (e_var 3) (a_cons (e_var 5) (a_cons (e_var 20) a_nil))) ⟨f, p, v, L.w1.word hv, rfl, rfl⟩, rfl⟩
  · rw [List.length_map]; have := L.w1.len; omega
  have hmx : 1 ≤ mx ∧ mx ≤ 500 := by
    obtain ⟨v, hv, e⟩ := List.mem_map.mp m1
    rw [← e]; exact L.wd v hv
  have LN := L.ln (mx + (nn : Int)) (by omega) (by omega) fun v hv => by have := m2 _ (List.mem_map_of_mem hv); omega
  refine b_as (ρ' := [.dat (.list (ns.map .int)), .dat (.int ((0 + k : Nat) : Int)), .mut q (bxD b9), .dat (faceD f), .dat (.list ((lets f).map chD)), .dat (prsD p), .dat (chD a), .dat (chD o), .dat (faceD (likeF f a o)), .dat (prsD (likeP f p a o)), .dat (.list (ws.map txD)), .dat (txD (joinB ws)), .dat (txD (joinB ws')), .dat (.int (at1 : Nat)), .dat (.int (mx + (nn : Int))), .no, .no, .no, .no, .no, .no]) (by kernel_rfl) ?_
  refine b_cons (s_ifF (t_is (t_not (t_val (e_call (d := .bool true) H13 (a_cons (e_tup (a_cons (e_var 3) (a_cons (e_var 5) a_nil))) (a_cons (e_tup (a_cons (e_var 8) (a_cons (e_var 9) a_nil))) (a_cons (e_tup (a_cons (e_var 11) (a_cons (e_var 12) a_nil))) (a_cons (e_var 14) a_nil)))) ⟨f, likeF f a o, p, likeP f p a o, ws, ws', mx + (nn : Int), LN, rfl, rfl⟩))) rfl) b_nil) ?_
  refine b_cons (s_ifF (t_w (w_orF (t_is (t_neP (e_call H14 (a_cons (e_var 8) (a_cons (e_var 9) a_nil)) ⟨likeF f a o, likeP f p a o, hlk, by simp [likeF]; have := L.f4; omega, rfl, rfl⟩) (e_call H14 (a_cons (e_var 3) (a_cons (e_var 5) a_nil)) ⟨f, p, L1, by have := L.f4; omega, rfl, rfl⟩) (Nat.le_trans (z_tup z_ch _) (by decide))) (by rw [q_tup q_ch, L.pt]; simp)) (w_or1 (t_is (t_neP (e_call H15 (a_cons (e_var 8) (a_cons (e_var 9) a_nil)) ⟨likeF f a o, likeP f p a o, hlk, rfl, rfl⟩) (e_call H15 (a_cons (e_var 3) (a_cons (e_var 5) a_nil)) ⟨f, p, L1, rfl, rfl⟩) (shows_z _ _)) (by rw [L.hd, L.sh, shows_refl]; rfl))))) b_nil) ?_
  rcases hon : takeM b9 (lets f).length with ⟨b10, i1⟩
  rcases hgp : takeM b10 19 with ⟨b11, g0⟩
  have hi1 : i1 < (lets f).length := by have := take_lt b9 hpos; rw [hon] at this; exact this
  have hg0 : g0 < 19 := by have := take_lt b10 (show 0 < 19 by decide); rw [hgp] at this; exact this
  have honx : atI ((lets f).map chD) (i1 : Int) = some (chD ((lets f).getD i1 0)) := ch_ix hi1
  have hone : (lets f)[i1]? = some ((lets f).getD i1 0) := by rw [List.getD_eq_getElem?_getD, List.getElem?_eq_getElem hi1]; rfl
  generalize (lets f).getD i1 0 = one at *
  have hom : one ∈ lets f := List.mem_of_getElem? hone
  refine b_cons (s_par 15 16 sc75.nd (a_cons (e_ixL (ds := (lets f).map chD) (i := (i1 : Nat)) (e_var 4) (e_callB 2 (d := .int (i1 : Nat)) (bs' := bxD b10) H6 (a_cons (e_lenL (xs := (lets f).map chD) T.len (e_var 4)) a_nil) rfl rfl ⟨b9, (lets f).length, hpos, by omega, rfl, by rw [List.length_map], by rw [hon], by rw [hon]⟩) honx) (a_cons (e_sub (i := (g0 : Nat)) (j := 9) (e_callB 2 (d := .int (g0 : Nat)) (bs' := bxD b11) H6 (a_cons e_int a_nil) rfl rfl ⟨b10, 19, by decide, by decide, rfl, rfl, by rw [hgp], by rw [hgp]⟩) e_int) a_nil)) (by intro env h; cases env; simp only at h; subst h; rfl)) ?_
  obtain ⟨g, hg⟩ : ∃ g : Int, g = (g0 : Int) - 9 := ⟨_, rfl⟩
  rw [← hg]
  refine b_cons (s_set 17 sc75.nd (e_tup a_nil)) ?_
  refine b_as (ρ' := [.dat (.list (ns.map .int)), .dat (.int ((0 + k : Nat) : Int)), .mut q (bxD b11), .dat (faceD f), .dat (.list ((lets f).map chD)), .dat (prsD p), .dat (chD a), .dat (chD o), .dat (faceD (likeF f a o)), .dat (prsD (likeP f p a o)), .dat (.list (ws.map txD)), .dat (txD (joinB ws)), .dat (txD (joinB ws')), .dat (.int (at1 : Nat)), .dat (.int (mx + (nn : Int))), .dat (chD one), .dat (.int g), .dat (.tuple []), .no, .no, .no]) (by kernel_rfl) ?_
  obtain ⟨kp, hkp⟩ := find_list L.o1
  obtain ⟨lp, hlp⟩ := find_list hom
  have cat : PyData.str ((⟨#[a]⟩ : Str) ++ (⟨#[one]⟩ : Str)) = .str (txS [a, one]) := congrArg PyData.str (txcat [a] [one])
  obtain ⟨c, hc⟩ : ∃ c : Bool, c = (pairIn (joinB ws') a one && decide (g ≠ gapIn p o one)) := ⟨_, rfl⟩
  refine b_cons (s_if (o := .nx [.dat (.list (ns.map .int)), .dat (.int ((0 + k : Nat) : Int)), .mut q (bxD b11), .dat (faceD f), .dat (.list ((lets f).map chD)), .dat (prsD p), .dat (chD a), .dat (chD o), .dat (faceD (likeF f a o)), .dat (prsD (likeP f p a o)), .dat (.list (ws.map txD)), .dat (txD (joinB ws)), .dat (txD (joinB ws')), .dat (.int (at1 : Nat)), .dat (.int (mx + (nn : Int))), .dat (chD one), .dat (.int g), .dat (dueD c), .no, .no, .no]) (b1 := c) (t_is (t_w (w_and (t_is (t_inS (i := txS [a, one]) (j := txS (joinB ws')) (e_eq (e_addS (i := ⟨#[a]⟩) (j := ⟨#[one]⟩) (e_var 6) (e_var 15) (by exact (show 2 ≤ sizeLine by decide))) cat) (e_var 12)) (in_two _ _ _)) fun _ => w_and1 (t_is (t_neP (e_var 16) (e_call H16 (a_cons (e_var 3) (a_cons (e_var 5) (a_cons (e_var 7) (a_cons (e_var 15) a_nil)))) ⟨f, p, o, one, kp, lp, hkp, hlp, rfl, rfl⟩) (Nat.zero_le _)) (by rw [q_int])))) ?_) (fun e => ?_) (fun e => ?_)) ?_
  · rw [hc]; by_cases h : g = gapIn p o one <;> simp [h]
  · obtain rfl : c = true := e
    exact b_cons (s_set 17 sc75.nd (e_tup (a_cons e_int a_nil))) (b_end [] (by kernel_rfl))
  · obtain rfl : c = false := e
    exact b_end [] (by kernel_rfl)
  have hla : lets (likeF f a o) = lets f ++ [a] := lets_like f a o
  have ixa : (lets (likeF f a o))[(lets f).length]? = some a := by rw [hla, List.getElem?_append_right (Nat.le_refl _), Nat.sub_self]; rfl
  have ixo : (lets (likeF f a o))[i1]? = some one := by rw [hla, List.getElem?_append_left hi1]; exact hone
  obtain ⟨ka, hka⟩ := find_list (List.mem_of_getElem? ixa)
  obtain ⟨ko, hko⟩ := find_list (List.mem_of_getElem? ixo)
  refine b_cons (s_set 18 sc75.nd (e_call (d := prsD (gapM (likeF f a o) (likeP f p a o) (lets f).length i1 g)) H17 (a_cons (e_var 8) (a_cons (e_var 9) (a_cons (e_var 6) (a_cons (e_var 15) (a_cons (e_var 16) a_nil))))) ⟨likeF f a o, likeP f p a o, a, one, g, (lets f).length, i1, ka, ko, hlk, hka, hko, ixa, ixo, by omega, by omega, rfl, rfl⟩)) ?_
  have mv := moved_val (L.mv1 one _ _ g hom ixa ixo) (L.mv2 one _ _ g hom ixa ixo)
  rw [← hc] at mv
  have tk : ∀ t ∈ ([joinB ws, joinB ws', []] : List (List Nat)), TOk (likeF f a o) t := fun t ht => by
    simp at ht
    rcases ht with z | z | z
    · subst z
      exact ⟨L.w1.tx.1, fun x hx => (L.w1.tx.2 x hx).imp id fun h => by rw [hla]; exact List.mem_append_left _ h⟩
    · subst z; exact L.w2.tx
    · subst z; exact ⟨by simp, fun x hx => by simp at hx⟩
  refine b_cons (s_ifF (t_is (t_neP (e_call (d := dueD c) H18 (a_cons (e_var 8) (a_cons (e_var 9) (a_cons (e_var 18) (a_cons (e_tup (a_cons (e_var 11) (a_cons (e_var 12) (a_cons (e_eq e_str emptyD) a_nil)))) a_nil)))) ⟨likeF f a o, likeP f p a o, gapM (likeF f a o) (likeP f p a o) (lets f).length i1 g, [joinB ws, joinB ws', []], (show 3 ≤ 100 by decide), tk, rfl, mv.symm⟩) (e_var 17) (dueD_z c)) (by rw [dueD_refl]; rfl)) b_nil) ?_
  exact b_end [1, 2, 3, 4, 5, 6, 7, 8, 9, 10, 11, 12, 13, 14, 15, 16, 17, 18] (by kernel_rfl)
end
end Sg
namespace Sg
/-! ### gaps of rows -/
theorem gap_char {p : Prs} {x y : Nat} {g : Int} (h1 : ∀ q ∈ p, q.1 = x → q.2.1 = y → q.2.2 = g) (h2 : g ≠ 0 → ∃ q ∈ p, q.1 = x ∧ q.2.1 = y) : gapIn p x y = g := by
  rw [gapIn]
  cases e : p.find? fun q => q.1 == x && q.2.1 == y with
  | none =>
    have hn := List.find?_eq_none.mp e
    refine Classical.byContradiction fun hg => ?_
    obtain ⟨q, hq, e1, e2⟩ := h2 fun z => hg (by rw [z]; rfl)
    exact hn q hq (by simp [e1, e2])
  | some q =>
    have hm := List.mem_of_find?_eq_some e
    have hp := List.find?_some e
    simp only [Bool.and_eq_true, beq_iff_eq] at hp
    exact h1 q hm hp.1 hp.2
theorem mem_rows {ls : List Nat} {rows : List (List Int)} {q : Nat × Nat × Int} (h : q ∈ fromRows ls rows) : ∃ (i j : Nat) (row : List Int), ls[i]? = some q.1 ∧ rows[i]? = some row ∧ ls[j]? = some q.2.1 ∧ row[j]? = some q.2.2 ∧ q.2.2 ≠ 0 := by
  obtain ⟨x, hx, h2⟩ := List.mem_flatMap.mp h
  obtain ⟨i, hi, e⟩ := List.getElem_of_mem hx
  have e1 : (ls.zip rows)[i]? = some x := by rw [List.getElem?_eq_getElem hi, e]
  rw [List.getElem?_zip_eq_some] at e1
  obtain ⟨z, hz, rfl⟩ := List.mem_map.mp h2
  have hz' := List.mem_filter.mp hz
  obtain ⟨j, hj, e2⟩ := List.getElem_of_mem hz'.1
  have e3 : (ls.zip x.2)[j]? = some z := by rw [List.getElem?_eq_getElem hj, e2]
  rw [List.getElem?_zip_eq_some] at e3
  exact ⟨i, j, x.2, e1.1, e1.2, e3.1, e3.2, by simpa using hz'.2⟩
theorem rows_mem {ls : List Nat} {rows : List (List Int)} {i j : Nat} {x y : Nat} {row : List Int} {g : Int} (h1 : ls[i]? = some x) (h2 : rows[i]? = some row) (h3 : ls[j]? = some y) (h4 : row[j]? = some g) (h5 : g ≠ 0) : (x, y, g) ∈ fromRows ls rows := by
  have e1 : (ls.zip rows)[i]? = some (x, row) := List.getElem?_zip_eq_some.mpr ⟨h1, h2⟩
  have e2 : (ls.zip row)[j]? = some (y, g) := List.getElem?_zip_eq_some.mpr ⟨h3, h4⟩
  exact List.mem_flatMap.mpr ⟨(x, row), List.mem_of_getElem? e1, List.mem_map.mpr ⟨(y, g), List.mem_filter.mpr ⟨List.mem_of_getElem? e2, by simpa using h5⟩, rfl⟩⟩
theorem nd_ix {l : List Nat} (nd : l.Nodup) {i j : Nat} {x : Nat} (h1 : l[i]? = some x) (h2 : l[j]? = some x) : i = j := by
  obtain ⟨l1, e1⟩ := List.getElem?_eq_some_iff.mp h1
  obtain ⟨l2, e2⟩ := List.getElem?_eq_some_iff.mp h2
  exact (List.getElem_inj (h₀ := l1) (h₁ := l2) nd).mp (e1.trans e2.symm)
theorem gap_at {ls : List Nat} {rows : List (List Int)} (nd : ls.Nodup) {i j x y : Nat} {row : List Int} {g : Int} (h1 : ls[i]? = some x) (h2 : rows[i]? = some row) (h3 : ls[j]? = some y) (h4 : row[j]? = some g) : gapIn (fromRows ls rows) x y = g := by
  refine gap_char (fun q hq e1 e2 => ?_) fun hg => ⟨_, rows_mem h1 h2 h3 h4 hg, rfl, rfl⟩
  obtain ⟨i2, j2, row2, a1, a2, a3, a4, _⟩ := mem_rows hq
  rw [e1] at a1
  rw [e2] at a3
  have := nd_ix nd h1 a1
  subst this
  have := nd_ix nd h3 a3
  subst this
  rw [h2] at a2
  cases a2
  rw [h4] at a4
  exact (Option.some.inj a4).symm
theorem gap_out {ls : List Nat} {rows : List (List Int)} {x y : Nat} (h : x ∉ ls ∨ y ∉ ls) : gapIn (fromRows ls rows) x y = 0 := by
  refine gap_char (fun q hq e1 e2 => ?_) fun hg => absurd rfl hg
  obtain ⟨i2, j2, row2, a1, a2, a3, a4, _⟩ := mem_rows hq
  rw [e1] at a1
  rw [e2] at a3
  rcases h with h | h
  · exact absurd (List.mem_of_getElem? a1) h
  · exact absurd (List.mem_of_getElem? a3) h
/-- a gap told by two letters -/
theorem gap_map {ls : List Nat} (nd : ls.Nodup) (F : Nat → Nat → Int) {x y : Nat} (hx : x ∈ ls) (hy : y ∈ ls) : gapIn (fromRows ls (ls.map fun l => ls.map fun r => F l r)) x y = F x y := by
  obtain ⟨i, hi, e1⟩ := List.getElem_of_mem hx
  obtain ⟨j, hj, e2⟩ := List.getElem_of_mem hy
  have h1 : ls[i]? = some x := by rw [List.getElem?_eq_getElem hi, e1]
  have h3 : ls[j]? = some y := by rw [List.getElem?_eq_getElem hj, e2]
  exact gap_at nd h1 (by rw [List.getElem?_map, h1]; rfl) h3 (by rw [List.getElem?_map, h3]; rfl)
/-! ### what is given -/
structure Given (f : Face) (p : Prs) (a o : Nat) : Prop where
  fo : FOk f
  f4 : f.2.length ≤ 4
  a1 : isLt a
  a2 : a ∉ lets f
  o1 : o ∈ lets f
  out : ∀ x y, (x ∉ lets f ∨ y ∉ lets f) → gapIn p x y = 0
  gp : ∀ x y, -9 ≤ gapIn p x y ∧ gapIn p x y ≤ 9
  wd : ∀ c ∈ lets f, 10 ≤ widC f c ∧ widC f c ≤ 99
  bl : 0 ≤ f.1
section
variable {f : Face} {p : Prs} {a o : Nat}
theorem Given.a32 (h : Given f p a o) : a ≠ 32 := isLt_ne h.a1
theorem Given.o32 (h : Given f p a o) : o ≠ 32 := isLt_ne (h.fo.az o h.o1)
theorem Given.ao (h : Given f p a o) : a ≠ o := fun e => h.a2 (by rw [e]; exact h.o1)
theorem sg_blank (h : Given f p a o) : sg a o 32 = 32 := if_neg (Ne.symm h.a32)
theorem sg_let (h : Given f p a o) {c : Nat} (hc : c ∈ lets f) : sg a o c = c := if_neg fun e : c = a => h.a2 (by rw [← e]; exact hc)
theorem sg_new : sg a o a = o := if_pos rfl
theorem sg_mem (h : Given f p a o) {c : Nat} (hc : c ∈ lets (likeF f a o)) : sg a o c ∈ lets f := by
  rw [lets_like] at hc
  rcases List.mem_append.mp hc with z | z
  · rw [sg_let h z]; exact z
  · simp at z; subst z; rw [sg_new]; exact h.o1
theorem like_nd (h : Given f p a o) : (lets (likeF f a o)).Nodup := (like_ok (b := o) h.fo (by have := h.f4; omega) h.a1 h.a2).nd
theorem gapL (h : Given f p a o) (x y : Nat) : gapIn (likeP f p a o) x y = gapIn p (sg a o x) (sg a o y) := by
  by_cases hx : x ∈ lets (likeF f a o)
  · by_cases hy : y ∈ lets (likeF f a o)
    · exact gap_map (like_nd h) (fun l r => gapIn p (sg a o l) (sg a o r)) hx hy
    · rw [likeP, gap_out (.inr hy)]
      rw [lets_like] at hy
      have h1 : y ∉ lets f := fun z => hy (List.mem_append_left _ z)
      have h2 : y ≠ a := fun z => hy (by rw [z]; simp)
      rw [h.out _ _ (.inr (by rw [sg, if_neg h2]; exact h1))]
  · rw [likeP, gap_out (.inl hx)]
    rw [lets_like] at hx
    have h1 : x ∉ lets f := fun z => hx (List.mem_append_left _ z)
    have h2 : x ≠ a := fun z => hx (by rw [z]; simp)
    rw [h.out _ _ (.inl (by rw [sg, if_neg h2]; exact h1))]
theorem sg32 (h : Given f p a o) {c : Nat} : sg a o c = 32 ↔ c = 32 := by
  rw [sg]
  split
  · rename_i e; subst e
    exact ⟨fun z => absurd z h.o32, fun z => absurd z h.a32⟩
  · exact Iff.rfl
theorem betwL (h : Given f p a o) (x y : Nat) : betw (likeP f p a o) x y = betw p (sg a o x) (sg a o y) := by
  rw [betw, betw, gapL h]
  simp only [sg32 h]
theorem find_app {l : List (Nat × Int)} {a c : Nat} {w : Int} : (l ++ [(a, w)]).find? (fun q => q.1 == c) = (l.find? fun q => q.1 == c).or (if a = c then some (a, w) else none) := by
  rw [List.find?_append]
  congr 1
  by_cases e : a = c
  · rw [if_pos e]; simp [e]
  · rw [if_neg e]; simp [e]
theorem find_no {l : List (Nat × Int)} {c : Nat} (h : c ∉ l.map (·.1)) : l.find? (fun q => q.1 == c) = none := by
  refine List.find?_eq_none.mpr fun q hq e => h (List.mem_map.mpr ⟨q, hq, by simpa using e⟩)
theorem widL (h : Given f p a o) (c : Nat) : widC (likeF f a o) c = widC f (sg a o c) := by
  rw [sg]
  by_cases e : c = a
  · rw [if_pos e]
    subst e
    rw [widC, likeF, find_app, find_no h.a2]
    simp
  · rw [if_neg e, widC, likeF, find_app, if_neg (Ne.symm e), Option.or_none]; rfl
theorem sgWL (h : Given f p a o) (c : Nat) : sgW (likeF f a o) c = sgW f (sg a o c) := by
  rw [sgW, sgW, widL h]
  simp only [sg32 h]
  rfl
theorem sAtL (h : Given f p a o) (t : List Nat) (k : Nat) : sAt (t.map (sg a o)) k = sg a o (sAt t k) := by
  rw [sAt, sAt, List.getD_eq_getElem?_getD, List.getD_eq_getElem?_getD, List.getElem?_map]
  cases t[k]? with
  | none => exact (sg_blank h).symm
  | some c => rfl
theorem startL (h : Given f p a o) (t : List Nat) : ∀ k, startM (likeF f a o) (likeP f p a o) t k = startM f p (t.map (sg a o)) k
  | 0 => rfl
  | k + 1 => by rw [startM, startM, startL h t k, sgWL h, betwL h, sAtL h, sAtL h]
theorem begL (h : Given f p a o) (t : List Nat) : begM (likeF f a o) (likeP f p a o) t = begM f p (t.map (sg a o)) := by
  rw [begM, begM, List.length_map]
  exact List.map_congr_left fun k _ => startL h t k
theorem wideL (h : Given f p a o) (t : List Nat) : wideM (likeF f a o) (likeP f p a o) t = wideM f p (t.map (sg a o)) := by
  rw [wideM, wideM, List.length_map, startL h, sgWL h, sAtL h]
  by_cases e : t = []
  · subst e; rfl
  · rw [if_neg e, if_neg (by simpa using e)]
theorem signL (h : Given f p a o) (t : List Nat) (n : Int) : signM (likeF f a o) (likeP f p a o) t n = signM f p (t.map (sg a o)) n := by
  rw [signM, signM, List.length_map]
  congr 1
  funext k
  rw [startL h, sgWL h, sAtL h]
theorem Given.g1 (h : Given f p a o) : GOk f p := ⟨h.bl, fun c => by
  by_cases hc : c ∈ lets f
  · have := (h.wd c hc).1; omega
  · rw [widC, find_no hc]; exact Int.le_refl _, fun x y => (h.gp x y).1⟩
theorem Given.g2 (h : Given f p a o) : GOk (likeF f a o) (likeP f p a o) := ⟨h.bl, fun c => by rw [widL h]; exact h.g1.wd _, fun x y => by rw [gapL h]; exact (h.gp _ _).1⟩
/-! ### a gap turned -/
theorem turnedL (h : Given f p a o) {one i j : Nat} {g : Int} (hi : (lets (likeF f a o))[i]? = some a) (hj : (lets (likeF f a o))[j]? = some one) (x y : Nat) :
    gapIn (gapM (likeF f a o) (likeP f p a o) i j g) x y = if x = a ∧ y = one then g else gapIn (likeP f p a o) x y := by
  have nd := like_nd h
  have outQ : ∀ x y, (x ∉ lets (likeF f a o) ∨ y ∉ lets (likeF f a o)) → gapIn (likeP f p a o) x y = 0 := fun x y hxy => gap_out hxy
  generalize likeF f a o = F at *
  generalize hQ : likeP f p a o = Q at *
  have rget : ∀ (k : Nat) (z : Nat), (lets F)[k]? = some z → (rowsM F Q)[k]? = some ((lets F).map fun b => gapIn Q z b) := fun k z hk => by rw [rowsM, List.getElem?_map, hk]; rfl
  have hD : (rowsM F Q).getD i [] = (lets F).map fun b => gapIn Q a b := by rw [List.getD_eq_getElem?_getD, rget i a hi]; rfl
  by_cases hx : x ∈ lets F
  · by_cases hy : y ∈ lets F
    · obtain ⟨k, hk, e1⟩ := List.getElem_of_mem hx
      obtain ⟨l, hl, e2⟩ := List.getElem_of_mem hy
      have h1 : (lets F)[k]? = some x := by rw [List.getElem?_eq_getElem hk, e1]
      have h3 : (lets F)[l]? = some y := by rw [List.getElem?_eq_getElem hl, e2]
      have hlen : i < (rowsM F Q).length := by rw [rows_len]; exact (List.getElem?_eq_some_iff.mp hi).1
      by_cases hki : k = i
      · subst hki
        rw [h1] at hi
        cases hi
        have hrow : (setR (rowsM F Q) k j g)[k]? = some (((lets F).map fun b => gapIn Q a b).set j g) := by rw [setR, List.getElem?_set_self hlen, hD]
        by_cases hlj : l = j
        · subst hlj
          rw [h3] at hj
          cases hj
          rw [if_pos ⟨rfl, rfl⟩]
          exact gap_at nd h1 hrow h3 (List.getElem?_set_self (by rw [List.length_map]; exact hl))
        · rw [if_neg (fun z : a = a ∧ y = one => hlj (nd_ix nd (by rw [← z.2]; exact h3) hj))]
          exact gap_at nd h1 hrow h3 (by rw [List.getElem?_set_ne (Ne.symm hlj), List.getElem?_map, h3]; rfl)
      · rw [if_neg (fun z : x = a ∧ y = one => hki (nd_ix nd (by rw [← z.1]; exact h1) hi))]
        exact gap_at nd h1 (by rw [setR, List.getElem?_set_ne (Ne.symm hki), rget k x h1]) h3 (by rw [List.getElem?_map, h3]; rfl)
    · have hn : ¬ (x = a ∧ y = one) := fun z => hy (z.2 ▸ List.mem_of_getElem? hj)
      rw [if_neg hn, gapM, gap_out (.inr hy), outQ _ _ (.inr hy)]
  · have hn : ¬ (x = a ∧ y = one) := fun z => hx (z.1 ▸ List.mem_of_getElem? hi)
    rw [if_neg hn, gapM, gap_out (.inl hx), outQ _ _ (.inl hx)]
end
end Sg
namespace Sg
section
variable {s : Nat → Nat}
theorem joinB_map (h : s 32 = 32) : ∀ ws : List (List Nat), joinB (ws.map (List.map s)) = (joinB ws).map s
  | [] => rfl
  | [w] => rfl
  | w :: q :: r => by
    have ih := joinB_map h (q :: r)
    rw [List.map_cons, joinB_cons (by simp), ih, joinB_cons (p := w) (ws := q :: r) (by simp), List.map_append, List.map_cons, h]
theorem seg_map (ws : List (List Nat)) (i j : Nat) : seg (ws.map (List.map s)) i j = (seg ws i j).map (List.map s) := by
  rw [seg, seg, List.map_take, List.map_drop]
theorem ex_ws (h : ∀ c, s c = 32 ↔ c = 32) : ∀ {ws : List (List Nat)} {t : List Nat}, ws ≠ [] → t.map s = joinB ws → ∃ ws', joinB ws' = t ∧ ws'.map (List.map s) = ws
  | [], _, hn, _ => absurd rfl hn
  | [w], t, _, e => ⟨[t], rfl, by rw [List.map_cons, e]; rfl⟩
  | w :: q :: r, t, _, e => by
    rw [joinB_cons (by simp), List.map_eq_append_iff] at e
    obtain ⟨l1, l2, rfl, e1, e2⟩ := e
    rw [List.map_eq_cons_iff] at e2
    obtain ⟨c, l3, rfl, e3, e4⟩ := e2
    obtain ⟨ws', h1, h2⟩ := ex_ws h (ws := q :: r) (by simp) e4
    have hc := (h c).mp e3
    subst hc
    refine ⟨l1 :: ws', ?_, by rw [List.map_cons, e1, h2]⟩
    rw [joinB_cons (by intro z; rw [z] at h2; cases h2), h1]
end
theorem joinB_app : ∀ {xs ys : List (List Nat)}, xs ≠ [] → ys ≠ [] → joinB (xs ++ ys) = joinB xs ++ 32 :: joinB ys
  | [], _, h, _ => absurd rfl h
  | [x], ys, _, hy => by rw [List.singleton_append, joinB_cons hy]; rfl
  | x :: q :: r, ys, _, hy => by
    rw [List.cons_append, joinB_cons (by simp), joinB_app (xs := q :: r) (by simp) hy, joinB_cons (p := x) (ws := q :: r) (by simp)]
    simp
theorem seg_drop (ws : List (List Nat)) {i j : Nat} (h : i ≤ j) : seg ws i j ++ ws.drop j = ws.drop i := by
  rw [seg]
  have : ws.drop j = (ws.drop i).drop (j - i) := by rw [List.drop_drop]; congr 1; omega
  rw [this, List.take_append_drop]
theorem ev_ne {f : Face} {p : Prs} {ws : List (List Nat)} {n : Int} {ps : List Int} {m first : Nat} (h : first < ws.length) (hm : 0 < m) : evM f p ws n ps m first ≠ [] := by
  cases m with
  | zero => omega
  | succ m => rw [evM, if_pos h]; simp
theorem ev_end {f : Face} {p : Prs} {ws : List (List Nat)} {n : Int} {ps : List Int} {m first : Nat} (h : ws.length ≤ first) : evM f p ws n ps m first = [] := by
  cases m with
  | zero => rfl
  | succ m => rw [evM, if_neg (by omega)]
theorem ev_join {f : Face} {p : Prs} {ws : List (List Nat)} {n : Int} {ps : List Int} : ∀ (m first : Nat), ws.length - first ≤ m → first < ws.length → joinB (evM f p ws n ps m first) = joinB (ws.drop first)
  | 0, first, h1, h2 => by omega
  | m + 1, first, h1, h2 => by
    rw [evM, if_pos h2]
    obtain ⟨b1, b2⟩ := evB_mem (f := f) (p := p) (n := n) (ps := ps) h2
    generalize evB f p ws n ps first = b at *
    have hs := seg_drop ws (Nat.le_of_lt b1)
    have hsl := seg_len (Nat.le_of_lt b1) b2
    have hsn : seg ws first b ≠ [] := by intro z; rw [z] at hsl; simp at hsl; omega
    by_cases hb : b < ws.length
    · have ih := ev_join (f := f) (p := p) (n := n) (ps := ps) m b (by omega) hb
      rw [joinB_cons (ev_ne hb (by omega)), ih, ← hs, joinB_app hsn (by intro z; have := congrArg List.length z; simp at this; omega)]
    · rw [ev_end (by omega)]
      rw [List.drop_eq_nil_of_le (by omega), List.append_nil] at hs
      rw [← hs]; rfl
theorem brk_last (p : Nat → Bool) : ∀ l : List Nat, l ≠ [] → p (brkV p l) = true ∨ l.getLast? = some (brkV p l)
  | [], h => absurd rfl h
  | [a], _ => .inr rfl
  | a :: b :: l, _ => by
    rw [brkV]
    by_cases h : p a = true
    · rw [if_pos h]; exact .inl h
    · rw [if_neg h]
      rcases brk_last p (b :: l) (by simp) with z | z
      · exact .inl z
      · right; rw [List.getLast?_cons_cons]; exact z
theorem downs_last {first len : Nat} (h : first < len) : (downs first len).getLast? = some (first + 1) := by
  obtain ⟨k, hk⟩ : ∃ k, len - first = k + 1 := ⟨len - first - 1, by omega⟩
  rw [downs, hk, List.getLast?_map, List.getLast?_reverse, List.range_succ_eq_map]
  rfl
theorem ev_first {f : Face} {p : Prs} {ws : List (List Nat)} {n : Int} {ps : List Int} {first : Nat} (h : first < ws.length) (h2 : first + 2 ≤ evB f p ws n ps first) : wideM f p (joinB (seg ws first (evB f p ws n ps first))) ≤ n := by
  rcases brk_last (evP f p ws n ps first) _ (downs_ne h) with z | z
  · change evP f p ws n ps first (evB f p ws n ps first) = true at z
    rw [evP] at z
    cases hc : costM f p ws n first (evB f p ws n ps first) with
    | none => rw [hc] at z; cases z
    | some c =>
      rw [costM] at hc
      split at hc
      · cases hc
      · rename_i hh; omega
  · rw [downs_last h] at z
    have : first + 1 = evB f p ws n ps first := Option.some.inj z
    omega
theorem fill_count (f : Face) (p : Prs) (n : Int) : ∀ (ws ls : List (List Nat)), (ws.foldl (fillS f p n) ls).length ≤ ls.length + ws.length
  | [], ls => by simp
  | x :: ws, ls => by
    rw [List.foldl_cons]
    have := fill_count f p n ws (fillS f p n ls x)
    have h : (fillS f p n ls x).length ≤ ls.length + 1 := by rw [fillS]; split <;> simp
    simp; omega
section
variable {f : Face} {p : Prs} {a o : Nat}
abbrev mp (a o : Nat) : List (List Nat) → List (List Nat) := List.map (List.map (sg a o))
theorem costL (h : Given f p a o) (ws : List (List Nat)) (n : Int) (i j : Nat) : costM (likeF f a o) (likeP f p a o) ws n i j = costM f p (mp a o ws) n i j := by
  rw [costM, costM, wideL h, seg_map, joinB_map (sg_blank h), List.length_map]
theorem bestL (h : Given f p a o) (ws : List (List Nat)) (n : Int) (first : Nat) (ps : List Int) : bestM (likeF f a o) (likeP f p a o) ws n first ps = bestM f p (mp a o ws) n first ps := by
  rw [bestM, bestM, List.length_map]
  have : bestS (likeF f a o) (likeP f p a o) ws n first ps = bestS f p (mp a o ws) n first ps := by
    funext b k
    rw [bestS, bestS, costL h]
  rw [this]
theorem pricesL (h : Given f p a o) (ws : List (List Nat)) (n : Int) : ∀ m, pricesM (likeF f a o) (likeP f p a o) ws n m = pricesM f p (mp a o ws) n m
  | 0 => rfl
  | m + 1 => by rw [pricesM, pricesM, pricesL h ws n m, bestL h, List.length_map]
theorem evBL (h : Given f p a o) (ws : List (List Nat)) (n : Int) (ps : List Int) (first : Nat) : evB (likeF f a o) (likeP f p a o) ws n ps first = evB f p (mp a o ws) n ps first := by
  rw [evB, evB, List.length_map]
  have : evP (likeF f a o) (likeP f p a o) ws n ps first = evP f p (mp a o ws) n ps first := by
    funext b
    rw [evP, evP, costL h]
  rw [this]
theorem evML (h : Given f p a o) (ws : List (List Nat)) (n : Int) (ps : List Int) : ∀ (m first : Nat), mp a o (evM (likeF f a o) (likeP f p a o) ws n ps m first) = evM f p (mp a o ws) n ps m first
  | 0, _ => rfl
  | m + 1, first => by
    rw [evM, evM, List.length_map, evBL h]
    split
    · rw [← evML h ws n ps m, seg_map, joinB_map (sg_blank h)]; rfl
    · rfl
theorem evenL (h : Given f p a o) (ws : List (List Nat)) (n : Int) : mp a o (evenedM (likeF f a o) (likeP f p a o) ws n) = evenedM f p (mp a o ws) n := by
  rw [evenedM, evenedM, evML h, pricesL h, List.length_map]
theorem lastL_map (ls : List (List Nat)) : lastL (mp a o ls) = (lastL ls).map (sg a o) := by
  rw [lastL, lastL, List.length_map, List.getD_eq_getElem?_getD, List.getD_eq_getElem?_getD, List.getElem?_map]
  cases ls[ls.length - 1]? <;> rfl
theorem fillSL (h : Given f p a o) (n : Int) (ls : List (List Nat)) (x : List Nat) : mp a o (fillS (likeF f a o) (likeP f p a o) n ls x) = fillS f p n (mp a o ls) (x.map (sg a o)) := by
  have e : (lastL ls ++ 32 :: x).map (sg a o) = lastL (mp a o ls) ++ 32 :: x.map (sg a o) := by
    rw [List.map_append, List.map_cons, sg_blank h, lastL_map]
  have e2 : (ls ≠ [] ↔ mp a o ls ≠ []) := by simp
  rw [fillS, fillS, wideL h, e]
  by_cases hc : ls ≠ [] ∧ 0 ≤ n - wideM f p (lastL (mp a o ls) ++ 32 :: x.map (sg a o))
  · rw [if_pos hc, if_pos ⟨e2.mp hc.1, hc.2⟩, mp, List.map_set, e, List.length_map]
  · rw [if_neg hc, if_neg (fun z => hc ⟨e2.mpr z.1, z.2⟩), mp, List.map_append]; rfl
theorem fillL (h : Given f p a o) (n : Int) : ∀ (ws ls : List (List Nat)), mp a o (ws.foldl (fillS (likeF f a o) (likeP f p a o) n) ls) = (mp a o ws).foldl (fillS f p n) (mp a o ls)
  | [], ls => rfl
  | x :: ws, ls => by
    rw [List.foldl_cons, fillL h n ws, fillSL h]; rfl
theorem len_mp (ls : List (List Nat)) : (mp a o ls).map (·.length) = ls.map (·.length) := by
  rw [mp, List.map_map]
  exact List.map_congr_left fun l _ => List.length_map _
theorem linesOk (h : Given f p a o) {ws ws' : List (List Nat)} (w1 : WOk f ws) (w2 : WOk (likeF f a o) ws') (e : mp a o ws' = ws) {n : Int} (n1 : 1 ≤ n) (n2 : n ≤ 999) (fit : ∀ w ∈ ws, wideM f p w ≤ n) : LinesOk f (likeF f a o) p (likeP f p a o) ws ws' n := by
  have hl : ws'.length = ws.length := by rw [← e, List.length_map]
  have hl0 : 0 < ws.length := List.length_pos_iff.mpr w1.ne
  have ee : mp a o (evenedM (likeF f a o) (likeP f p a o) ws' n) = evenedM f p ws n := by rw [evenL h, e]
  have ff : mp a o (fillM (likeF f a o) (likeP f p a o) n ws') = fillM f p n ws := by rw [fillM, fillL h, e]; rfl
  have j1 : joinB (evenedM f p ws n) = joinB ws := by
    rw [evenedM, ev_join _ _ (by omega) hl0]; rfl
  have j2 : joinB (evenedM (likeF f a o) (likeP f p a o) ws' n) = joinB ws' := by
    rw [evenedM, ev_join _ _ (by omega) (by omega)]; rfl
  have l1 := w1.tx.1
  have l2 := w2.tx.1
  refine ⟨⟨w1, h.g1, n1, n2, fit⟩, ⟨w2, h.g2, n1, n2, fun w hw => ?_⟩, fun c hc => isLt_ne (h.fo.az c hc), fun c hc => isLt_ne ((like_ok (b := o) h.fo (by have := h.f4; omega) h.a1 h.a2).az c hc), ?_, ?_, ?_, ?_, fun l hl' => ?_, fun l hl' => ?_, fun l hl' => ?_, fun l hl' => ?_, ?_, ?_, ?_, ?_⟩
  · rw [wideL h]
    exact fit _ (by rw [← e]; exact List.mem_map_of_mem hw)
  · rw [sameM, ← ee, len_mp, j2]; simp
  · rw [sameM, ← ff, len_mp, fillM_join]; simp
  · rw [pricesL h, e, hl]
  · have hl1 : 0 < ws'.length := by omega
    have eb : evB (likeF f a o) (likeP f p a o) ws' n (pricesM (likeF f a o) (likeP f p a o) ws' n ws'.length) 0 = evB f p ws n (pricesM f p ws n ws.length) 0 := by rw [evBL h, pricesL h, e, hl]
    have hev : ∀ (F : Face) (Q : Prs) (vs : List (List Nat)), 0 < vs.length → ∃ r, evenedM F Q vs n = joinB (seg vs 0 (evB F Q vs n (pricesM F Q vs n vs.length) 0)) :: r := fun F Q vs hv => by
      rw [evenedM]
      generalize pricesM F Q vs n vs.length = ps
      obtain ⟨k, hk⟩ : ∃ k, vs.length = k + 1 := ⟨vs.length - 1, by omega⟩
      rw [show evM F Q vs n ps vs.length 0 = evM F Q vs n ps (k + 1) 0 by rw [hk], evM, if_pos hv]
      exact ⟨_, rfl⟩
    obtain ⟨r, hr⟩ := hev f p ws hl0
    obtain ⟨r', hr'⟩ := hev (likeF f a o) (likeP f p a o) ws' hl1
    rw [eb] at hr'
    have hb := evB_mem (f := f) (p := p) (n := n) (ps := pricesM f p ws n ws.length) hl0
    have hfirst := ev_first (f := f) (p := p) (n := n) (ps := pricesM f p ws n ws.length) hl0
    generalize evB f p ws n (pricesM f p ws n ws.length) 0 = b at *
    have hv : mp a o (seg ws' 0 b) = seg ws 0 b := by rw [mp, ← seg_map, ← e]
    refine ⟨seg ws 0 b, seg ws' 0 b, r, r', hr, hr', fun h32 => ?_⟩
    have lv : (seg ws 0 b).length = b := by rw [seg_len (by omega) hb.2]; omega
    have lv' : (seg ws' 0 b).length = b := by rw [seg_len (by omega) (by omega)]; omega
    have hb2 : 2 ≤ b := by
      refine Classical.byContradiction fun hn => ?_
      have hb1 : b = 0 + 1 := by omega
      subst hb1
      rw [seg_one hl0] at h32
      have hm := (w1.wd ws[0] (List.getElem_mem hl0)).2 32 h32
      exact isLt_ne (h.fo.az 32 hm) rfl
    have hw := hfirst (by omega)
    have hw' : wideM (likeF f a o) (likeP f p a o) (joinB (seg ws' 0 b)) = wideM f p (joinB (seg ws 0 b)) := by
      rw [wideL h, ← joinB_map (sg_blank h), ← hv]
    refine ⟨seg_ok w1 (by omega) hb.2, seg_ok w2 (by omega) (by omega), by omega, by omega, hw, by rw [hw']; exact hw, ?_⟩
    rw [spreadM, spreadM, hw', lv, lv']; rfl
  · have := part_len hl'; rw [j1] at this; omega
  · have := part_len hl'; rw [j2] at this; omega
  · have := part_len hl'; rw [fillM_join] at this; omega
  · have := part_len hl'; rw [fillM_join] at this; omega
  · have := ev_len f p ws n (pricesM f p ws n ws.length) ws.length 0
    have := w1.len
    rw [evenedM]; omega
  · have := ev_len (likeF f a o) (likeP f p a o) ws' n (pricesM (likeF f a o) (likeP f p a o) ws' n ws'.length) ws'.length 0
    have := w1.len
    rw [evenedM]; omega
  · have := fill_count f p n ws []
    have := w1.len
    rw [fillM]; simp at *; omega
  · have := fill_count (likeF f a o) (likeP f p a o) n ws' []
    have := w1.len
    rw [fillM]; simp at *; omega
end
end Sg
namespace Sg
/-! ### kinds by the first that is of them -/
def repS (F : Nat → List Int) (s : List Nat) (x : Nat) : List Nat := if F x ∈ s.map F then s else s ++ [x]
def reps (F : Nat → List Int) (l : List Nat) : List Nat := l.foldl (repS F) []
theorem kind_reps (F : Nat → List Int) : ∀ (l s : List Nat), (l.map F).foldl kindS (s.map F) = (l.foldl (repS F) s).map F
  | [], s => rfl
  | x :: l, s => by
    rw [List.map_cons, List.foldl_cons, List.foldl_cons, ← kind_reps F l]
    congr 1
    rw [kindS, repS]
    split
    · rfl
    · rw [List.map_append]; rfl
theorem kinds_reps (F : Nat → List Int) (l : List Nat) : kindsM (l.map F) = (reps F l).map F := kind_reps F l []
theorem reps_congr {F F' : Nat → List Int} {A : List Nat} (h : ∀ x ∈ A, ∀ y ∈ A, (F x = F y ↔ F' x = F' y)) : ∀ (l s : List Nat), (∀ x ∈ l, x ∈ A) → (∀ x ∈ s, x ∈ A) → l.foldl (repS F) s = l.foldl (repS F') s
  | [], s, _, _ => rfl
  | x :: l, s, hl, hs => by
    have e : repS F s x = repS F' s x := by
      rw [repS, repS]
      have : F x ∈ s.map F ↔ F' x ∈ s.map F' := by
        rw [List.mem_map, List.mem_map]
        exact ⟨fun ⟨y, hy, e⟩ => ⟨y, hy, (h y (hs y hy) x (hl x List.mem_cons_self)).mp e⟩, fun ⟨y, hy, e⟩ => ⟨y, hy, (h y (hs y hy) x (hl x List.mem_cons_self)).mpr e⟩⟩
      by_cases c : F x ∈ s.map F
      · rw [if_pos c, if_pos (this.mp c)]
      · rw [if_neg c, if_neg (fun z => c (this.mpr z))]
    rw [List.foldl_cons, List.foldl_cons, ← e]
    refine reps_congr h l _ (fun y hy => hl y (List.mem_cons_of_mem _ hy)) fun y hy => ?_
    rw [repS] at hy
    split at hy
    · exact hs y hy
    · rcases List.mem_append.mp hy with z | z
      · exact hs y z
      · simp at z; subst z; exact hl _ List.mem_cons_self
theorem reps_sub (F : Nat → List Int) : ∀ (l s : List Nat) (x : Nat), x ∈ l.foldl (repS F) s → x ∈ s ∨ x ∈ l
  | [], s, x, h => .inl h
  | y :: l, s, x, h => by
    rw [List.foldl_cons] at h
    rcases reps_sub F l _ x h with z | z
    · rw [repS] at z
      split at z
      · exact .inl z
      · rcases List.mem_append.mp z with q | q
        · exact .inl q
        · simp at q; subst q; exact .inr List.mem_cons_self
    · exact .inr (List.mem_cons_of_mem _ z)
theorem reps_mem {F : Nat → List Int} {l : List Nat} {x : Nat} (h : x ∈ reps F l) : x ∈ l := (reps_sub F l [] x h).resolve_left (by simp)
theorem reps_snoc {F : Nat → List Int} {l : List Nat} {x y : Nat} (hy : y ∈ l) (e : F x = F y) : reps F (l ++ [x]) = reps F l := by
  rw [reps, List.foldl_append]
  show repS F (reps F l) x = reps F l
  rw [repS, if_pos]
  rw [← kinds_reps, mem_kinds, e]
  exact List.mem_map_of_mem hy
theorem kinds_pat {F F' : Nat → List Int} {l : List Nat} (h : ∀ x ∈ l, ∀ y ∈ l, (F x = F y ↔ F' x = F' y)) : (kindsM (l.map F)).length = (kindsM (l.map F')).length := by
  rw [kinds_reps, kinds_reps, List.length_map, List.length_map, reps, reps, reps_congr h l [] (fun _ z => z) (fun _ z => by simp at z)]
theorem map_pat {α : Type} {l : List α} {g h : α → Int} : l.map g = l.map h ↔ ∀ x ∈ l, g x = h x := List.map_inj_left
theorem zip_filter (R : Nat → List Int) (m : List Int) : ∀ l : List Nat, ((l.zip (l.map R)).filter fun x => decide (x.2 = m)).map (·.1) = l.filter fun x => decide (R x = m)
  | [] => rfl
  | x :: l => by
    rw [List.map_cons, List.zip_cons_cons]
    by_cases h : R x = m
    · rw [List.filter_cons_of_pos (by simpa using h), List.filter_cons_of_pos (by simpa using h), List.map_cons, zip_filter R m l]
    · rw [List.filter_cons_of_neg (by simpa using h), List.filter_cons_of_neg (by simpa using h), zip_filter R m l]
theorem grouped_reps (R : Nat → List Int) (l : List Nat) : groupedM l (l.map R) = (reps R l).map fun x => l.filter fun y => decide (R y = R x) := by
  rw [groupedM, kinds_reps, List.map_map]
  exact List.map_congr_left fun x _ => zip_filter R (R x) l
section
variable {f : Face} {p : Prs} {a o : Nat}
def rowF (f : Face) (p : Prs) (l : Nat) : List Int := (lets f).map fun r => gapIn p l r
theorem rows_map (f : Face) (p : Prs) : rowsM f p = (lets f).map (rowF f p) := rfl
theorem rowF_like (h : Given f p a o) {x y : Nat} : (rowF (likeF f a o) (likeP f p a o) x = rowF (likeF f a o) (likeP f p a o) y ↔ rowF f p (sg a o x) = rowF f p (sg a o y)) := by
  rw [rowF, rowF, map_pat, rowF, rowF, map_pat, lets_like]
  constructor
  · intro z r hr
    have := z r (List.mem_append_left _ hr)
    rw [gapL h, gapL h, sg_let h hr] at this
    exact this
  · intro z r hr
    rw [gapL h, gapL h]
    exact z _ (sg_mem h (by rw [lets_like]; exact hr))
theorem reps_like (h : Given f p a o) : reps (rowF (likeF f a o) (likeP f p a o)) (lets (likeF f a o)) = reps (rowF f p) (lets f) := by
  rw [lets_like, reps_snoc h.o1 ((rowF_like h).mpr (by rw [sg_new, sg_let h h.o1])), reps, reps]
  exact reps_congr (A := lets f) (fun x hx y hy => by rw [rowF_like h, sg_let h hx, sg_let h hy]) _ _ (fun _ z => z) (fun _ z => by simp at z)
theorem grp_len (h : Given f p a o) : (groupedM (lets (likeF f a o)) (rowsM (likeF f a o) (likeP f p a o))).length = (groupedM (lets f) (rowsM f p)).length := by
  rw [rows_map, rows_map, grouped_reps, grouped_reps, List.length_map, List.length_map, reps_like h]
theorem headsL (h : Given f p a o) : headsM (likeF f a o) (likeP f p a o) = headsM f p := by
  rw [headsM, headsM, rows_map, rows_map, grouped_reps, grouped_reps, reps_like h, List.map_map, List.map_map]
  refine List.map_congr_left fun x hx => ?_
  have hx' : x ∈ lets f := reps_mem hx
  rw [Function.comp, Function.comp, lets_like, List.filter_append]
  have e : (lets f).filter (fun y => decide (rowF (likeF f a o) (likeP f p a o) y = rowF (likeF f a o) (likeP f p a o) x)) = (lets f).filter fun y => decide (rowF f p y = rowF f p x) := by
    refine List.filter_congr fun y hy => decide_eq_decide.mpr ?_
    rw [rowF_like h, sg_let h hy, sg_let h hx']
  rw [e]
  have hm : x ∈ (lets f).filter fun y => decide (rowF f p y = rowF f p x) := List.mem_filter.mpr ⟨hx', by simp⟩
  cases q : (lets f).filter fun y => decide (rowF f p y = rowF f p x) with
  | nil => rw [q] at hm; simp at hm
  | cons c l => rfl
theorem heads_mem {f : Face} {p : Prs} {x : Nat} (h : x ∈ headsM f p) : x ∈ lets f := by
  rw [headsM, rows_map, grouped_reps, List.map_map] at h
  obtain ⟨y, hy, rfl⟩ := List.mem_map.mp h
  have hy' := reps_mem hy
  rw [Function.comp]
  have hm : y ∈ (lets f).filter fun z => decide (rowF f p z = rowF f p y) := List.mem_filter.mpr ⟨hy', by simp⟩
  cases q : (lets f).filter fun z => decide (rowF f p z = rowF f p y) with
  | nil => rw [q] at hm; simp at hm
  | cons c l =>
    have : c ∈ (lets f).filter fun z => decide (rowF f p z = rowF f p y) := by rw [q]; exact List.mem_cons_self
    exact (List.mem_filter.mp this).1
theorem find_cong {p q : Nat → Bool} : ∀ {l : List Nat}, (∀ x ∈ l, p x = q x) → l.find? p = l.find? q
  | [], _ => rfl
  | x :: l, h => by
    rw [List.find?_cons, List.find?_cons, h x List.mem_cons_self, find_cong fun y hy => h y (List.mem_cons_of_mem _ hy)]
theorem partL (h : Given f p a o) {x y : Nat} (hx : x ∈ lets f) (hy : y ∈ lets f) : partM (likeF f a o) (likeP f p a o) x y = partM f p x y := by
  rw [partM, partM, lets_like, List.find?_append]
  have e : (lets f).find? (fun r => decide (gapIn (likeP f p a o) x r ≠ gapIn (likeP f p a o) y r)) = (lets f).find? fun r => decide (gapIn p x r ≠ gapIn p y r) := find_cong fun r hr => by
    rw [gapL h, gapL h, sg_let h hx, sg_let h hy, sg_let h hr]
  rw [e]
  cases q : (lets f).find? fun r => decide (gapIn p x r ≠ gapIn p y r) with
  | some r => rfl
  | none =>
    have := List.find?_eq_none.mp q o h.o1
    rw [Option.none_or, List.find?_cons_of_neg]
    · rfl
    · rw [gapL h, gapL h, sg_let h hx, sg_let h hy, sg_new]; exact this
theorem twos_mem {l : List Nat} {x : Nat × Nat} (h : x ∈ twosM l) : x.1 ∈ l ∧ x.2 ∈ l := by
  obtain ⟨z, hz, h2⟩ := List.mem_flatMap.mp h
  obtain ⟨c, hc, rfl⟩ := List.mem_map.mp h2
  exact ⟨List.mem_of_getElem? (i := z.2) (by simpa using List.mk_mem_zipIdx_iff_getElem?.mp hz), List.mem_of_mem_drop hc⟩
theorem showsL (h : Given f p a o) : showsM (likeF f a o) (likeP f p a o) = showsM f p := by
  rw [showsM, showsM, headsL h]
  refine List.map_congr_left fun x hx => ?_
  obtain ⟨h1, h2⟩ := twos_mem hx
  exact partL h (heads_mem h1) (heads_mem h2)
/-! ### parters -/
def tau (n io k : Nat) : Nat := if k = n then io else k
theorem getD_let (h : Given f p a o) {io : Nat} (hio : (lets f)[io]? = some o) {k : Nat} (hk : k < f.2.length + 1) : sg a o ((lets (likeF f a o)).getD k 0) = (lets f).getD (tau f.2.length io k) 0 := by
  have hn : (lets f).length = f.2.length := lets_len f
  rw [lets_like, List.getD_eq_getElem?_getD, List.getD_eq_getElem?_getD, tau]
  by_cases e : k = f.2.length
  · rw [if_pos e, List.getElem?_append_right (by omega), hio, hn, e, Nat.sub_self]
    exact sg_new
  · rw [if_neg e, List.getElem?_append_left (by omega), List.getElem?_eq_getElem (by omega)]
    exact sg_let h (List.getElem_mem _)
def markF (f : Face) (p : Prs) (row : List Nat) (l : Nat) : List Int := row.map fun k => gapIn p l ((lets f).getD k 0)
theorem marks_map (f : Face) (p : Prs) (row : List Nat) : marksM f p row = (lets f).map (markF f p row) := rfl
theorem goodL (h : Given f p a o) {io : Nat} (hio : (lets f)[io]? = some o) {row : List Nat} (hr : ∀ k ∈ row, k < f.2.length + 1) : goodM (likeF f a o) (likeP f p a o) row = goodM f p (row.map (tau f.2.length io)) := by
  have e : ∀ l, markF (likeF f a o) (likeP f p a o) row l = markF f p (row.map (tau f.2.length io)) (sg a o l) := fun l => by
    rw [markF, markF, List.map_map]
    refine List.map_congr_left fun k hk => ?_
    rw [gapL h, getD_let h hio (hr k hk)]; rfl
  rw [goodM, goodM, grp_len h, marks_map, marks_map, lets_like]
  have e1 : (kindsM ((lets f ++ [a]).map (markF (likeF f a o) (likeP f p a o) row))).length = (kindsM ((lets f).map (markF f p (row.map (tau f.2.length io))))).length := by
    rw [kinds_reps, reps_snoc h.o1 (by rw [e, e, sg_new, sg_let h h.o1]), ← kinds_reps]
    congr 2
    exact List.map_congr_left fun l hl => by rw [e, sg_let h hl]
  rw [e1]
theorem good_set {f : Face} {p : Prs} {r1 r2 : List Nat} (h : ∀ k, k ∈ r1 ↔ k ∈ r2) : goodM f p r1 = goodM f p r2 := by
  rw [goodM, goodM, marks_map, marks_map]
  have : (kindsM ((lets f).map (markF f p r1))).length = (kindsM ((lets f).map (markF f p r2))).length := kinds_pat fun x _ y _ => by
    rw [markF, markF, map_pat, markF, markF, map_pat]
    exact ⟨fun z k hk => z k ((h k).mpr hk), fun z k hk => z k ((h k).mp hk)⟩
  rw [this]
def allR (n : Nat) : List (List Nat) := (List.range (n + 1)).flatMap (choM n)
theorem found_all (f : Face) (p : Prs) : foundM f p = (allR f.2.length).find? (goodM f p) := by
  rw [foundM, allR, List.find?_flatMap]
theorem all_ok {n : Nat} {r : List Nat} (h : r ∈ allR n) : ∀ k ∈ r, k < n := by
  obtain ⟨c, hc, h2⟩ := List.mem_flatMap.mp h
  exact (cho_ok h2).2
def chkB (n io : Nat) : Bool := (List.range (allR (n + 1)).length).all fun i => !((allR (n + 1)).getD i []).contains n ||
  (List.range i).any fun j => !((allR (n + 1)).getD j []).contains n && ((allR (n + 1)).getD j []).all (fun k => (((allR (n + 1)).getD i []).map (tau n io)).contains k) && (((allR (n + 1)).getD i []).map (tau n io)).all fun k => ((allR (n + 1)).getD j []).contains k
theorem chkA : ∀ n, n < 5 → allR n = (allR (n + 1)).filter fun r => !r.contains n := by decide +kernel
theorem chk_all : ∀ n, n < 5 → ∀ io, io < n → chkB n io = true := by decide +kernel
theorem chkC : ∀ n, n < 5 → List.range n ∈ allR n := by decide +kernel
theorem find_filter {P B : List Nat → Bool} : ∀ (l pre : List (List Nat)), (∀ x ∈ pre, P x = false) → (∀ (l1 : List (List Nat)) (r : List Nat) (l2 : List (List Nat)), l = l1 ++ r :: l2 → B r = false → P r = true → ∃ x ∈ pre ++ l1, P x = true) → l.find? P = (l.filter B).find? P
  | [], _, _, _ => rfl
  | r :: l, pre, h, hb => by
    cases e : P r with
    | true =>
      have hB : B r = true := by
        cases z : B r with
        | true => rfl
        | false =>
          obtain ⟨x, hx, hp⟩ := hb [] r l rfl z e
          rw [List.append_nil] at hx
          rw [h x hx] at hp; cases hp
      rw [List.filter_cons_of_pos hB, List.find?_cons_of_pos e, List.find?_cons_of_pos e]
    | false =>
      have ih := find_filter l (pre ++ [r]) (fun x hx => by
        rcases List.mem_append.mp hx with z | z
        · exact h x z
        · simp at z; subst z; exact e) fun l1 q l2 el hq hp => by
        obtain ⟨x, hx, hx2⟩ := hb (r :: l1) q l2 (by rw [el]; rfl) hq hp
        exact ⟨x, by simpa using hx, hx2⟩
      rw [List.find?_cons_of_neg (by rw [e]; exact Bool.false_ne_true), ih]
      cases z : B r with
      | true => rw [List.filter_cons_of_pos z, List.find?_cons_of_neg (by rw [e]; exact Bool.false_ne_true)]
      | false => rw [List.filter_cons_of_neg (by rw [z]; exact Bool.false_ne_true)]
theorem find_cong2 {p q : List Nat → Bool} : ∀ {l : List (List Nat)}, (∀ x ∈ l, p x = q x) → l.find? p = l.find? q
  | [], _ => rfl
  | x :: l, h => by
    rw [List.find?_cons, List.find?_cons, h x List.mem_cons_self, find_cong2 fun y hy => h y (List.mem_cons_of_mem _ hy)]
theorem tau_id {n io : Nat} {r : List Nat} (h : ∀ k ∈ r, k < n) : r.map (tau n io) = r := by
  rw [List.map_congr_left (g := id) fun k hk => by rw [tau, if_neg (by have := h k hk; omega)]; rfl, List.map_id]
theorem foundL (h : Given f p a o) : foundM (likeF f a o) (likeP f p a o) = foundM f p ∧ ∃ row, foundM f p = some row ∧ ∀ k ∈ row, k < f.2.length := by
  have h4 := h.f4
  obtain ⟨io, hio1, hio2⟩ := List.getElem_of_mem h.o1
  have hn : (lets f).length = f.2.length := lets_len f
  have hio : (lets f)[io]? = some o := by rw [List.getElem?_eq_getElem hio1, hio2]
  have hlen : (likeF f a o).2.length = f.2.length + 1 := by simp [likeF]
  have hA := chkA f.2.length (by omega)
  have hB := chk_all f.2.length (by omega) io (by omega)
  rw [found_all, found_all, hlen]
  have g1 : ∀ r ∈ allR (f.2.length + 1), goodM (likeF f a o) (likeP f p a o) r = goodM f p (r.map (tau f.2.length io)) := fun r hr => goodL h hio (all_ok hr)
  have e1 : (allR (f.2.length + 1)).find? (goodM (likeF f a o) (likeP f p a o)) = ((allR (f.2.length + 1)).filter fun r => !r.contains f.2.length).find? (goodM (likeF f a o) (likeP f p a o)) := by
    refine find_filter _ [] (fun x hx => by simp at hx) fun l1 r l2 el hb hp => ?_
    have hr : r ∈ allR (f.2.length + 1) := by rw [el]; simp
    have hi : l1.length < (allR (f.2.length + 1)).length := by rw [el]; simp
    have hgi : (allR (f.2.length + 1)).getD l1.length [] = r := by rw [el, List.getD_eq_getElem?_getD, List.getElem?_append_right (Nat.le_refl _), Nat.sub_self]; rfl
    have hc := List.all_eq_true.mp hB l1.length (List.mem_range.mpr hi)
    rw [hgi] at hc
    have hb' : r.contains f.2.length = true := by simpa using hb
    rw [hb', Bool.not_true, Bool.false_or, List.any_eq_true] at hc
    obtain ⟨j, hj, hc⟩ := hc
    have hj' := List.mem_range.mp hj
    simp only [Bool.and_eq_true] at hc
    obtain ⟨⟨c1, c2⟩, c3⟩ := hc
    have hjl : j < (allR (f.2.length + 1)).length := by omega
    have hgj : (allR (f.2.length + 1)).getD j [] ∈ l1 := by
      rw [List.getD_eq_getElem?_getD]
      have : (allR (f.2.length + 1))[j]? = l1[j]? := by
        have e := congrArg (fun z : List (List Nat) => z[j]?) el
        rw [List.getElem?_append_left hj'] at e
        exact e
      rw [this, List.getElem?_eq_getElem hj']
      exact List.getElem_mem _
    generalize hq : (allR (f.2.length + 1)).getD j [] = q at *
    have hqm : q ∈ allR (f.2.length + 1) := by rw [el]; exact List.mem_append_left _ hgj
    have hset : ∀ k, k ∈ q ↔ k ∈ r.map (tau f.2.length io) := fun k => by
      constructor
      · intro hk; have := List.all_eq_true.mp c2 k hk; simpa using this
      · intro hk; have := List.all_eq_true.mp c3 k hk; simpa using this
    have hqn : ∀ k ∈ q, k < f.2.length := fun k hk => by
      have h1 := all_ok hqm k hk
      have h2 : k ≠ f.2.length := fun z => by
        subst z
        have : q.contains f.2.length = true := by simpa using hk
        rw [this] at c1
        cases c1
      omega
    refine ⟨q, by simpa using hgj, ?_⟩
    rw [g1 q hqm, tau_id hqn, good_set hset, ← g1 r hr]
    exact hp
  have e2 : (allR (f.2.length + 1)).find? (goodM (likeF f a o) (likeP f p a o)) = (allR f.2.length).find? (goodM f p) := by
    rw [e1, ← hA]
    refine find_cong2 fun r hr => ?_
    have hr2 : r ∈ allR (f.2.length + 1) := by rw [hA] at hr; exact (List.mem_filter.mp hr).1
    rw [g1 r hr2, tau_id (all_ok hr)]
  refine ⟨e2, ?_⟩
  have hfull : goodM f p (List.range f.2.length) = true := by
    have e3 : marksM f p (List.range f.2.length) = rowsM f p := by
      rw [marksM, rowsM]
      refine List.map_congr_left fun l _ => ?_
      refine List.ext_getElem (by simp [hn]) fun i h1 h2 => ?_
      simp at h1
      have : i < (lets f).length := by omega
      simp [this]
    rw [goodM, e3, groupedM, List.length_map]; simp
  cases q : (allR f.2.length).find? (goodM f p) with
  | none =>
    have := List.find?_eq_none.mp q _ (chkC f.2.length (by omega))
    rw [hfull] at this
    exact absurd rfl this
  | some row => exact ⟨row, rfl, all_ok (List.mem_of_find?_eq_some q)⟩
theorem partersL (h : Given f p a o) : partersM (likeF f a o) (likeP f p a o) = partersM f p := by
  obtain ⟨e1, row, e2, hr⟩ := foundL h
  rw [partersM, partersM, e1, e2]
  refine List.map_congr_left fun k hk => ?_
  have hn : (lets f).length = f.2.length := lets_len f
  rw [lets_like, List.getD_eq_getElem?_getD, List.getD_eq_getElem?_getD, List.getElem?_append_left (by have := hr k hk; omega)]
/-! ### what a turned gap moves -/
theorem movedL (h : Given f p a o) {one i j : Nat} {g : Int} (h1 : one ∈ lets f) (hi : (lets (likeF f a o))[i]? = some a) (hj : (lets (likeF f a o))[j]? = some one) (t : List Nat) :
    movedM (likeP f p a o) (gapM (likeF f a o) (likeP f p a o) i j g) t = (pairIn t a one && decide (g ≠ gapIn p o one)) := by
  have e : ∀ x y, decide (betw (likeP f p a o) x y ≠ betw (gapM (likeF f a o) (likeP f p a o) i j g) x y) = (decide (x = a) && decide (y = one) && decide (g ≠ gapIn p o one)) := fun x y => by
    rw [betw, betw, turnedL h hi hj]
    have o32 : one ≠ 32 := isLt_ne (h.fo.az one h1)
    by_cases hx : x = a
    · by_cases hy : y = one
      · subst hx; subst hy
        have hn : ¬ (x = 32 ∨ y = 32) := fun z => z.elim h.a32 o32
        rw [if_neg hn, if_neg hn, if_pos ⟨rfl, rfl⟩, gapL h, sg_new, sg_let h h1]
        simp [eq_comm]
      · simp [hy]
    · simp [hx]
  rw [movedM, pairIn]
  have e2 : (fun x : Nat × Nat => decide (betw (likeP f p a o) x.1 x.2 ≠ betw (gapM (likeF f a o) (likeP f p a o) i j g) x.1 x.2)) = fun x => (decide (x.1 = a) && decide (x.2 = one)) && decide (g ≠ gapIn p o one) := by
    funext x; exact e x.1 x.2
  rw [e2]
  generalize t.zip (t.drop 1) = l
  induction l with
  | nil => simp
  | cons z l ih => rw [List.any_cons, List.any_cons, ih]; cases decide (g ≠ gapIn p o one) <;> simp
theorem pair_no {t : List Nat} {a b : Nat} (h : a ∉ t) : pairIn t a b = false := by
  refine List.any_eq_false.mpr fun x hx => ?_
  have h1 := (List.of_mem_zip hx).1
  have : x.1 ≠ a := fun e => h (e ▸ h1)
  simp [this]
end
end Sg
namespace Sg
/-! ### what the draws give -/
theorem getD_of {α : Type} {P : α → Prop} {l : List α} {d : α} (h : ∀ x ∈ l, P x) (hd : P d) (k : Nat) : P (l.getD k d) := by
  rw [List.getD_eq_getElem?_getD]
  cases e : l[k]? with
  | none => exact hd
  | some x => exact h x (List.mem_of_getElem? e)
theorem getD_mem {l : List Nat} {k : Nat} (h : k < l.length) : l.getD k 0 ∈ l := by
  rw [List.getD_eq_getElem?_getD, List.getElem?_eq_getElem h]
  exact List.getElem_mem h
theorem face_lets : ∀ (l : List Nat) (s : Box × List Nat), s.2.Nodup → l.length ≤ s.2.length → ((accV faceS s l).map (·.1)).Nodup ∧ ∀ c ∈ (accV faceS s l).map (·.1), c ∈ s.2
  | [], s, _, _ => ⟨by simp [accV], fun c hc => by simp [accV] at hc⟩
  | x :: l, s, nd, hl => by
    have hp : 0 < s.2.length := by simp at hl; omega
    have hk := take_lt s.1 hp
    have e : (faceS s x).1.2 = s.2.eraseIdx (takeM s.1 s.2.length).2 := rfl
    have nd2 : ((faceS s x).1.2).Nodup := by rw [e]; exact List.Nodup.sublist (List.eraseIdx_sublist _ _) nd
    have hl2 : l.length ≤ (faceS s x).1.2.length := by
      rw [e, List.length_eraseIdx_of_lt hk]
      simp at hl; omega
    obtain ⟨h1, h2⟩ := face_lets l _ nd2 hl2
    have hm : (faceS s x).2.1 = s.2.getD (takeM s.1 s.2.length).2 0 := rfl
    rw [accV, List.map_cons, hm]
    refine ⟨List.nodup_cons.mpr ⟨fun z => ?_, h1⟩, fun c hc => ?_⟩
    · have hz := h2 _ z
      rw [e, List.mem_eraseIdx_iff_getElem] at hz
      obtain ⟨i, hi, hne, ei⟩ := hz
      rw [List.getD_eq_getElem?_getD, List.getElem?_eq_getElem hk] at ei
      exact hne ((List.getElem_inj (h₀ := hi) (h₁ := hk) nd).mp ei)
    · rcases List.mem_cons.mp hc with z | z
      · subst z; exact getD_mem hk
      · have := h2 c z
        rw [e] at this
        exact List.mem_of_mem_eraseIdx this
theorem face_wd : ∀ (l : List Nat) (s : Box × List Nat) (q : Nat × Int), q ∈ accV faceS s l → 10 ≤ q.2 ∧ q.2 ≤ 99
  | [], s, q, h => by simp [accV] at h
  | x :: l, s, q, h => by
    rw [accV] at h
    rcases List.mem_cons.mp h with z | z
    · subst z
      have := take_lt (takeM s.1 s.2.length).1 (show 0 < 90 by decide)
      show (10 : Int) ≤ 10 + ((takeM (takeM s.1 s.2.length).1 90).2 : Int) ∧ 10 + ((takeM (takeM s.1 s.2.length).1 90).2 : Int) ≤ 99
      omega
    · exact face_wd l _ q z
theorem face_facts (b : Box) : FOk (faceM b).2 ∧ (faceM b).2.2.length ≤ 4 ∧ (∀ c ∈ lets (faceM b).2, 10 ≤ widC (faceM b).2 c ∧ widC (faceM b).2 c ≤ 99) ∧ 0 ≤ (faceM b).2.1 := by
  have h4 := take_lt b (show 0 < 4 by decide)
  have hl : (faceM b).2.2.length = 1 + (takeM b 4).2 := by
    show (accV _ _ _).length = _
    rw [acc_len, List.length_range]
  obtain ⟨h1, h2⟩ := face_lets (List.range (1 + (takeM b 4).2)) ((takeM b 4).1, alph) alph_nodup (by rw [List.length_range]; exact Nat.le_trans (show _ ≤ 26 by omega) (show 26 ≤ alph.length by decide))
  refine ⟨⟨by omega, fun z => by rw [z] at hl; simp at hl; omega, h1, fun c hc => alph_lt (h2 c hc)⟩, by omega, fun c hc => ?_, ?_⟩
  · obtain ⟨k, q, _, h3, _, h5⟩ := place_some hc
    rw [h5]
    exact face_wd _ _ q (List.mem_of_getElem? h3)
  · show (0 : Int) ≤ 1 + _
    omega
def BdR (rows : List (List Int)) : Prop := ∀ r ∈ rows, ∀ g ∈ r, -9 ≤ g ∧ g ≤ 9
theorem near_bd : ∀ x ∈ nearL, -9 ≤ x ∧ x ≤ 9 := by decide
theorem gap1_bd : ∀ (l : List Nat) (b : Box) (g : Int), g ∈ accV gap1S b l → -9 ≤ g ∧ g ≤ 9
  | [], b, g, h => by simp [accV] at h
  | x :: l, b, g, h => by
    rw [accV] at h
    rcases List.mem_cons.mp h with z | z
    · subst z
      exact getD_of (P := fun g : Int => -9 ≤ g ∧ g ≤ 9) near_bd (by decide) _
    · exact gap1_bd l _ g z
theorem gap2_bd : ∀ (l : List Nat) (b : Box), BdR (accV gap2S b l)
  | [], b => fun r h => by simp [accV] at h
  | x :: l, b => fun r h => by
    rw [accV] at h
    rcases List.mem_cons.mp h with z | z
    · subst z; exact gap1_bd _ _
    · exact gap2_bd l _ r z
theorem setR_bd {rows : List (List Int)} (h : BdR rows) {i j : Nat} {g : Int} (hg : -9 ≤ g ∧ g ≤ 9) : BdR (setR rows i j g) := by
  intro r hr x hx
  rcases List.mem_or_eq_of_mem_set hr with z | z
  · exact h r z x hx
  · subst z
    rcases List.mem_or_eq_of_mem_set hx with y | y
    · exact getD_of (P := fun r : List Int => ∀ x ∈ r, -9 ≤ x ∧ x ≤ 9) h (fun x hx => by simp at hx) i x y
    · subst y; exact hg
theorem rows_bd (b : Box) (n : Nat) : BdR (rowsL b n).2 := by
  have : ∀ (l : List Nat) (s : Box × List (List Int)), BdR s.2 → BdR (l.foldl (storS n) s).2 := by
    intro l
    induction l with
    | nil => exact fun s h => h
    | cons a l ih =>
      refine fun s h => ih _ (setR_bd h ?_)
      have := take_lt s.1 (show 0 < 19 by decide)
      omega
  refine this _ _ fun r hr g hg => ?_
  obtain ⟨i, hi, rfl⟩ := List.mem_map.mp hr
  obtain ⟨j, hj, rfl⟩ := List.mem_map.mp hg
  have h2 : ∀ r ∈ (gpM (frM (frM b n).1 n).1).2, ∀ x ∈ r, -9 ≤ x ∧ x ≤ 9 := gap2_bd _ _
  exact getD_of (P := fun g : Int => -9 ≤ g ∧ g ≤ 9) (getD_of (P := fun r : List Int => ∀ x ∈ r, -9 ≤ x ∧ x ≤ 9) h2 (fun x hx => by simp at hx) i) (by decide) j
theorem gap_bd {ls : List Nat} {rows : List (List Int)} (h : BdR rows) (x y : Nat) : -9 ≤ gapIn (fromRows ls rows) x y ∧ gapIn (fromRows ls rows) x y ≤ 9 := by
  rw [gapIn]
  cases e : (fromRows ls rows).find? fun q => q.1 == x && q.2.1 == y with
  | none => exact ⟨by decide, by decide⟩
  | some q =>
    obtain ⟨i, j, row, _, h2, _, h4, _⟩ := mem_rows (List.mem_of_find?_eq_some e)
    exact h row (List.mem_of_getElem? h2) _ (List.mem_of_getElem? h4)
theorem word_in (ls : List Nat) (hl : 0 < ls.length) : ∀ (l : List Nat) (b : Box) (c : Nat), c ∈ accV (wordS ls) b l → c ∈ ls
  | [], b, c, h => by simp [accV] at h
  | x :: l, b, c, h => by
    rw [accV] at h
    rcases List.mem_cons.mp h with z | z
    · subst z; exact getD_mem (take_lt b hl)
    · exact word_in ls hl l _ c z
theorem words_in (ls : List Nat) (hl : 0 < ls.length) : ∀ (l : List Nat) (b : Box) (v : List Nat), v ∈ accV (wS ls) b l → 1 ≤ v.length ∧ v.length ≤ 3 ∧ ∀ c ∈ v, c ∈ ls
  | [], b, c, h => by simp [accV] at h
  | x :: l, b, c, h => by
    rw [accV] at h
    rcases List.mem_cons.mp h with z | z
    · subst z
      have h3 := take_lt b (show 0 < 3 by decide)
      have hlen : (wordM b ls).2.length = 1 + (takeM b 3).2 := by
        show (accV _ _ _).length = _
        rw [acc_len, List.length_range]
      refine ⟨?_, ?_, word_in ls hl _ _⟩
      · show 1 ≤ (wordM b ls).2.length; omega
      · show (wordM b ls).2.length ≤ 3; omega
    · exact words_in ls hl l _ c z
theorem swap_map {a o : Nat} : ∀ (t : List Nat) (s : Box × List Nat), (∀ c ∈ t, c ≠ a) → (t.foldl (swapS a o) s).2.map (sg a o) = s.2.map (sg a o) ++ t
  | [], s, _ => by simp
  | c :: t, s, h => by
    have hc := h c List.mem_cons_self
    have sc : sg a o c = c := if_neg hc
    rw [List.foldl_cons, swap_map t _ fun d hd => h d (List.mem_cons_of_mem _ hd), swapS]
    by_cases e : c = o
    · rw [if_pos e]
      simp only [List.map_append, List.map_cons, List.map_nil, List.append_assoc, List.singleton_append]
      split
      · rw [show sg a o a = c from by rw [sg_new, e]]
      · rw [sc]
    · rw [if_neg e]
      simp only [List.map_append, List.map_cons, List.map_nil, List.append_assoc, List.singleton_append, sc]
theorem swap_in {a o : Nat} : ∀ (t : List Nat) (s : Box × List Nat) (c : Nat), c ∈ (t.foldl (swapS a o) s).2 → c ∈ s.2 ∨ c ∈ t ∨ c = a
  | [], s, c, h => .inl h
  | d :: t, s, c, h => by
    rw [List.foldl_cons] at h
    rcases swap_in t _ c h with z | z | z
    · rw [swapS] at z
      split at z
      · simp only [List.mem_append, List.mem_singleton] at z
        rcases z with z | z
        · exact .inl z
        · split at z
          · exact .inr (.inr z)
          · subst z; exact .inr (.inl List.mem_cons_self)
      · simp only [List.mem_append, List.mem_singleton] at z
        rcases z with z | z
        · exact .inl z
        · subst z; exact .inr (.inl List.mem_cons_self)
    · exact .inr (.inl (List.mem_cons_of_mem _ z))
    · exact .inr (.inr z)
theorem start_bd {f : Face} {p : Prs} {a o : Nat} (h : Given f p a o) {t : List Nat} (ht : ∀ c ∈ t, c ∈ lets f) : ∀ k : Nat, k < t.length → (k : Int) ≤ startM f p t k ∧ startM f p t k ≤ 108 * (k : Int)
  | 0, _ => by simp [startM]
  | k + 1, hk => by
    have ih := start_bd h ht k (by omega)
    have m1 := ht _ (sAt_mem (t := t) (k := k) (by omega))
    have m2 := ht _ (sAt_mem (t := t) (k := k + 1) hk)
    have w1 := h.wd _ m1
    have n1 : sAt t k ≠ 32 := isLt_ne (h.fo.az _ m1)
    have n2 : sAt t (k + 1) ≠ 32 := isLt_ne (h.fo.az _ m2)
    have g := h.gp (sAt t k) (sAt t (k + 1))
    rw [startM, sgW, if_neg n1, betw, if_neg (fun z => z.elim n1 n2)]
    omega
theorem wide_bd {f : Face} {p : Prs} {a o : Nat} (h : Given f p a o) {t : List Nat} (ht : ∀ c ∈ t, c ∈ lets f) (h1 : 1 ≤ t.length) (h3 : t.length ≤ 3) : 1 ≤ wideM f p t ∧ wideM f p t ≤ 500 := by
  have hk : t.length - 1 < t.length := by omega
  have hs := start_bd h ht (t.length - 1) hk
  have m1 := ht _ (sAt_mem (t := t) hk)
  have w1 := h.wd _ m1
  have n1 : sAt t (t.length - 1) ≠ 32 := isLt_ne (h.fo.az _ m1)
  rw [wideM, if_neg (by intro z; rw [z] at h1; simp at h1), sgW, if_neg n1]
  omega
theorem turn_ok (b : Box) : TurnOk b := by
  intro b1 f b2 rows b3 a b4 io b5 kw b7 t' hface hrows hfresh ho hkw hsw
  have ff := face_facts b
  rw [hface] at ff
  obtain ⟨fo, f4, fw, fb⟩ := ff
  simp only at fo f4 fw fb
  have hpos : 0 < f.2.length := List.length_pos_iff.mpr fo.ne
  have hn : (lets f).length = f.2.length := lets_len f
  have rb := rows_bd b1 f.2.length
  rw [hrows] at rb
  have ha : a ∈ someM f := by
    have := take_lt b2 (some_pos fo)
    have e : a = (someM f).getD (takeM b2 (someM f).length).2 0 := by
      have := congrArg Prod.snd hfresh
      exact this.symm
    rw [e]; exact getD_mem this
  have ha' := List.mem_filter.mp ha
  have hio : io < (lets f).length := by
    have := take_lt b3 (show 0 < (lets f).length by omega)
    rw [ho] at this; exact this
  have hom : (lets f).getD io 0 ∈ lets f := getD_mem hio
  have hkw4 : kw < 4 := by have := take_lt b4 (show 0 < 4 by decide); rw [hkw] at this; exact this
  have hwi := words_in (lets f) (by omega) (List.range (1 + kw)) b5
  have hwl : (accV (wS (lets f)) b5 (List.range (1 + kw))).length = 1 + kw := by rw [acc_len, List.length_range]
  generalize accS (wS (lets f)) b5 (List.range (1 + kw)) = b6 at *
  generalize accV (wS (lets f)) b5 (List.range (1 + kw)) = ws at *
  generalize (lets f).getD io 0 = o at *
  have G : Given f (fromRows (lets f) rows) a o := ⟨fo, f4, alph_lt ha'.1, by simpa using ha'.2, hom, fun x y => gap_out, gap_bd rb, fw, fb⟩
  generalize fromRows (lets f) rows = p at *
  have wne : ws ≠ [] := by intro z; rw [z] at hwl; simp at hwl; omega
  have wlen : (joinB ws).length ≤ 200 := by
    have h1 := joinB_len wne
    have h2 : ∀ l : List (List Nat), (∀ v ∈ l, v.length ≤ 3) → (l.map (·.length)).sum ≤ 3 * l.length := by
      intro l
      induction l with
      | nil => simp
      | cons x l ih =>
        intro h
        have h3 := ih fun v hv => h v (List.mem_cons_of_mem _ hv)
        have h4 := h x List.mem_cons_self
        simp; omega
    have h3 := h2 ws fun v hv => (hwi v hv).2.1
    omega
  have wch : ∀ c ∈ joinB ws, c = 32 ∨ c ∈ lets f := fun c hc => (joinB_mem hc).imp id fun ⟨v, hv, h⟩ => (hwi v hv).2.2 c h
  have w1 : WOk f ws := ⟨by omega, wne, fun v hv => ⟨by have := (hwi v hv).1; intro z; rw [z] at this; simp at this, (hwi v hv).2.2⟩, wlen, wch⟩
  have hna : ∀ c ∈ joinB ws, c ≠ a := fun c hc e => by
    rcases wch c hc with z | z
    · exact G.a32 (e ▸ z)
    · exact G.a2 (e ▸ z)
  have et : t' = (swapM b6 (joinB ws) a o).2 := by rw [hsw]
  have emap : t'.map (sg a o) = joinB ws := by
    rw [et, swapM, swap_map _ _ hna]; rfl
  have tch : ∀ c ∈ t', c ∈ joinB ws ∨ c = a := fun c hc => by
    rw [et, swapM] at hc
    rcases swap_in _ _ c hc with z | z | z
    · simp at z
    · exact .inl z
    · exact .inr z
  obtain ⟨ws', e1, e2⟩ := ex_ws (s := sg a o) (fun c => sg32 G) wne emap
  subst e1
  have hla : lets (likeF f a o) = lets f ++ [a] := lets_like f a o
  have tch2 : ∀ c ∈ joinB ws', c = 32 ∨ c ∈ lets (likeF f a o) := fun c hc => by
    rw [hla]
    rcases tch c hc with z | z
    · exact (wch c z).imp id fun h => List.mem_append_left _ h
    · subst z; exact .inr (by simp)
  have hl' : ws'.length = ws.length := by rw [← e2, List.length_map]
  have w2 : WOk (likeF f a o) ws' := by
    refine ⟨by omega, fun z => by rw [z] at hl'; simp at hl'; omega, fun v hv => ?_, ?_, tch2⟩
    · have hm : v.map (sg a o) ∈ ws := by rw [← e2]; exact List.mem_map_of_mem hv
      refine ⟨fun z => ?_, fun c hc => ?_⟩
      · subst z
        exact (w1.wd _ hm).1 rfl
      · refine (tch2 c (mem_joinB hv hc)).resolve_left fun z => ?_
        subst z
        have h32 : 32 ∈ lets f := (w1.wd _ hm).2 32 (by rw [← sg_blank G]; exact List.mem_map_of_mem hc)
        exact isLt_ne (fo.az 32 h32) rfl
    · rw [← List.length_map (f := sg a o), emap]; exact wlen
  refine ⟨ws', rfl, ⟨fo, f4, G.a1, G.a2, hom, w1, w2, by rw [begL G, emap], by rw [wideL G, emap], fun n => by rw [signL G, emap], fun v hv => wide_bd G (hwi v hv).2.2 (hwi v hv).1 (hwi v hv).2.1, fun n n1 n2 fit => linesOk G w1 w2 e2 n1 n2 fit, partersL G, headsL G, showsL G, fun one i j g h1 hi hj => ?_, fun one i j g h1 hi hj => movedL G h1 hi hj _⟩⟩
  rw [movedL G h1 hi hj, pair_no fun z => hna a z rfl]; rfl
end Sg
namespace SgHead
open PySem PySem.Spec PyProof.Rows L2
def topS (i : Nat) : Stmt := PySem.Challenge.pw_stampgaps_k69_whole_likes_in_lines.main.body.getD i (.Pass ⟨0, 0, 0, 0⟩)
def mkD (i : Nat) (x : Str) : He.DefD := ⟨(x, none), x, x, defArgs (topS i), defBody (topS i), defScope (topS i), [], []⟩
def fn : List He.DefD := [mkD 12 "is_from_to", mkD 13 "is_letter", mkD 14 "is_gap", mkD 15 "letters_of", mkD 16 "place_of", mkD 17 "need_letter", mkD 18 "gap_in", mkD 19 "gap_of", mkD 20 "rows_of", mkD 21 "from_rows", mkD 23 "is_sign", mkD 24 "is_text", mkD 25 "need_text", mkD 26 "sign_width", mkD 27 "between", mkD 28 "begins_in", mkD 29 "begins", mkD 30 "wide_in", mkD 31 "wide", mkD 32 "need_whole", mkD 33 "sign_at", mkD 35 "need_fresh", mkD 36 "need_room", mkD 37 "with_like", mkD 38 "with_gap", mkD 39 "is_moved", mkD 40 "moved_lines", mkD 43 "words_of", mkD 44 "line_of", mkD 45 "room_of", mkD 46 "need_wide", mkD 47 "need_words", mkD 48 "filled", mkD 49 "cost_in", mkD 50 "prices_of", mkD 51 "evened", mkD 52 "shows_even", mkD 53 "spread", mkD 55 "grouped", mkD 56 "left_parting", mkD 57 "parting_letter", mkD 58 "twos", mkD 59 "shows_lefts", mkD 60 "choices", mkD 61 "parters", mkD 63 "_law_box", mkD 64 "_law_take", mkD 65 "_law_face", mkD 66 "_law_letters", mkD 67 "_law_rows", mkD 68 "_law_list", mkD 69 "_law_pairs", mkD 70 "_law_fresh", mkD 71 "_law_word", mkD 72 "_law_swapped", mkD 73 "_law_same_lines", mkD 74 "_law_lines_right", mkD 75 "law"]
def fa : List He.Fa := [.glo "is_from_to", .glo "is_letter", .glo "is_gap", .glo "letters_of", .glo "place_of", .glo "need_letter", .glo "gap_in", .glo "gap_of", .glo "rows_of", .glo "from_rows", .glo "is_sign", .glo "is_text", .glo "need_text", .glo "sign_width", .glo "between", .glo "begins_in", .glo "begins", .glo "wide_in", .glo "wide", .glo "need_whole", .glo "sign_at", .glo "need_fresh", .glo "need_room", .glo "with_like", .glo "with_gap", .glo "is_moved", .glo "moved_lines", .glo "words_of", .glo "line_of", .glo "room_of", .glo "need_wide", .glo "need_words", .glo "filled", .glo "cost_in", .glo "prices_of", .glo "evened", .glo "shows_even", .glo "spread", .glo "grouped", .glo "left_parting", .glo "parting_letter", .glo "twos", .glo "shows_lefts", .glo "choices", .glo "parters", .glo "_law_box", .glo "_law_take", .glo "_law_face", .glo "_law_letters", .glo "_law_rows", .glo "_law_list", .glo "_law_pairs", .glo "_law_fresh", .glo "_law_word", .glo "_law_swapped", .glo "_law_same_lines", .glo "_law_lines_right", .glo "law", .free "isinstance", .free "int", .free "bool", .free "str", .free "len", .free "tuple", .free "enumerate", .free "zip", .free "all", .free "any", .free "reversed", .free "range", .free "set", .free "divmod", .free "abs", .free "list", .free "max", .free "min", .str "LETTERS" "abcdefghijklmnopqrstuvwxyz", .int "MOST_LETTERS" 10, .int "FAR" 9, .int "MOST_WIDE" 999]
def names0 : List PySem.Str := ["GapError", "NoLetter", "NoGap", "NoLine", "NoNumber", "TooWide", "TooMany", "LETTERS", "MOST_LETTERS", "FAR", "is_from_to", "is_letter", "is_gap", "letters_of", "place_of", "need_letter", "gap_in", "gap_of", "rows_of", "from_rows", "is_sign", "is_text", "need_text", "sign_width", "between", "begins_in", "begins", "wide_in", "wide", "need_whole"]
def names1 : List PySem.Str := ["sign_at", "need_fresh", "need_room", "with_like", "with_gap", "is_moved", "moved_lines", "MOST_WIDE", "words_of", "line_of", "room_of", "need_wide", "need_words", "filled", "cost_in", "prices_of", "evened", "shows_even", "spread", "grouped", "left_parting", "parting_letter", "twos", "shows_lefts", "choices", "parters", "_law_box", "_law_take", "_law_face", "_law_letters"]
def names2 : List PySem.Str := ["_law_rows", "_law_list", "_law_pairs", "_law_fresh", "_law_word", "_law_swapped", "_law_same_lines", "_law_lines_right"]
def names : List PySem.Str := names0 ++ names1 ++ names2
abbrev R : PySem.W.OpenRow := PySem.W.OpenLaw.row PySem.Challenge.rw_stampgaps_k69_whole_likes_in_lines
abbrev hk : PySem.W.Hook := He.hookD 4 fa fn
def ob (s : PySem.W.SharedT) : He.AlD := He.obsDG 4 fa fn (HandSHeadRun.getT s)
theorem ob_eq (s : PySem.W.SharedT) : ob s = hk.obs s.abs := He.obsDG_eq (HandSHeadRun.getT_eq s)
theorem run (w : World) : HandSHeadRun.RunEq R (PySem.W.view R.prog [75]) hk ob 20000 names w := by
  intro os
  kernel_rfl
end SgHead
namespace SgHead
open PySem PySem.Spec PyProof.Rows L2
theorem facts {P : Program} {w : World} {K : PySem.W.Frag} {h : Heap} {mg : Str → Option Value} {f : Addr} (X : K.In h) (G : h.Ns mainGlobals mg) (hfa : mg ("law" : Str) = some (.ref f)) (c : He.SaysD fa fn K) :
    ∃ fd : FuncData, (∀ (s : Shared) (v : Value), BindsTo s fd ⟨[v], []⟩ [("_law_script", v)]) ∧ ∀ base : Heap, K.In base → base.Ns mainGlobals mg → FnOk P w K mg base CX0 10 f fd ["_law_script"] (Sg.spP K Sg.R_law) := by
  obtain ⟨fd0, F0⟩ := c.def_ 0 (d := mkD 12 "is_from_to") rfl
  obtain ⟨fd1, F1⟩ := c.def_ 1 (d := mkD 13 "is_letter") rfl
  obtain ⟨fd2, F2⟩ := c.def_ 2 (d := mkD 14 "is_gap") rfl
  obtain ⟨fd3, F3⟩ := c.def_ 3 (d := mkD 15 "letters_of") rfl
  obtain ⟨fd4, F4⟩ := c.def_ 4 (d := mkD 16 "place_of") rfl
  obtain ⟨fd5, F5⟩ := c.def_ 5 (d := mkD 17 "need_letter") rfl
  obtain ⟨fd6, F6⟩ := c.def_ 6 (d := mkD 18 "gap_in") rfl
  obtain ⟨fd7, F7⟩ := c.def_ 7 (d := mkD 19 "gap_of") rfl
  obtain ⟨fd8, F8⟩ := c.def_ 8 (d := mkD 20 "rows_of") rfl
  obtain ⟨fd9, F9⟩ := c.def_ 9 (d := mkD 21 "from_rows") rfl
  obtain ⟨fd10, F10⟩ := c.def_ 10 (d := mkD 23 "is_sign") rfl
  obtain ⟨fd11, F11⟩ := c.def_ 11 (d := mkD 24 "is_text") rfl
  obtain ⟨fd12, F12⟩ := c.def_ 12 (d := mkD 25 "need_text") rfl
  obtain ⟨fd13, F13⟩ := c.def_ 13 (d := mkD 26 "sign_width") rfl
  obtain ⟨fd14, F14⟩ := c.def_ 14 (d := mkD 27 "between") rfl
  obtain ⟨fd15, F15⟩ := c.def_ 15 (d := mkD 28 "begins_in") rfl
  obtain ⟨fd16, F16⟩ := c.def_ 16 (d := mkD 29 "begins") rfl
  obtain ⟨fd17, F17⟩ := c.def_ 17 (d := mkD 30 "wide_in") rfl
  obtain ⟨fd18, F18⟩ := c.def_ 18 (d := mkD 31 "wide") rfl
  obtain ⟨fd19, F19⟩ := c.def_ 19 (d := mkD 32 "need_whole") rfl
  obtain ⟨fd20, F20⟩ := c.def_ 20 (d := mkD 33 "sign_at") rfl
  obtain ⟨fd21, F21⟩ := c.def_ 21 (d := mkD 35 "need_fresh") rfl
  obtain ⟨fd22, F22⟩ := c.def_ 22 (d := mkD 36 "need_room") rfl
  obtain ⟨fd23, F23⟩ := c.def_ 23 (d := mkD 37 "with_like") rfl
  obtain ⟨fd24, F24⟩ := c.def_ 24 (d := mkD 38 "with_gap") rfl
  obtain ⟨fd25, F25⟩ := c.def_ 25 (d := mkD 39 "is_moved") rfl
  obtain ⟨fd26, F26⟩ := c.def_ 26 (d := mkD 40 "moved_lines") rfl
  obtain ⟨fd27, F27⟩ := c.def_ 27 (d := mkD 43 "words_of") rfl
  obtain ⟨fd28, F28⟩ := c.def_ 28 (d := mkD 44 "line_of") rfl
  obtain ⟨fd29, F29⟩ := c.def_ 29 (d := mkD 45 "room_of") rfl
  obtain ⟨fd30, F30⟩ := c.def_ 30 (d := mkD 46 "need_wide") rfl
  obtain ⟨fd31, F31⟩ := c.def_ 31 (d := mkD 47 "need_words") rfl
  obtain ⟨fd32, F32⟩ := c.def_ 32 (d := mkD 48 "filled") rfl
  obtain ⟨fd33, F33⟩ := c.def_ 33 (d := mkD 49 "cost_in") rfl
  obtain ⟨fd34, F34⟩ := c.def_ 34 (d := mkD 50 "prices_of") rfl
  obtain ⟨fd35, F35⟩ := c.def_ 35 (d := mkD 51 "evened") rfl
  obtain ⟨fd36, F36⟩ := c.def_ 36 (d := mkD 52 "shows_even") rfl
  obtain ⟨fd37, F37⟩ := c.def_ 37 (d := mkD 53 "spread") rfl
  obtain ⟨fd38, F38⟩ := c.def_ 38 (d := mkD 55 "grouped") rfl
  obtain ⟨fd39, F39⟩ := c.def_ 39 (d := mkD 56 "left_parting") rfl
  obtain ⟨fd40, F40⟩ := c.def_ 40 (d := mkD 57 "parting_letter") rfl
  obtain ⟨fd41, F41⟩ := c.def_ 41 (d := mkD 58 "twos") rfl
  obtain ⟨fd42, F42⟩ := c.def_ 42 (d := mkD 59 "shows_lefts") rfl
  obtain ⟨fd43, F43⟩ := c.def_ 43 (d := mkD 60 "choices") rfl
  obtain ⟨fd44, F44⟩ := c.def_ 44 (d := mkD 61 "parters") rfl
  obtain ⟨fd45, F45⟩ := c.def_ 45 (d := mkD 63 "_law_box") rfl
  obtain ⟨fd46, F46⟩ := c.def_ 46 (d := mkD 64 "_law_take") rfl
  obtain ⟨fd47, F47⟩ := c.def_ 47 (d := mkD 65 "_law_face") rfl
  obtain ⟨fd48, F48⟩ := c.def_ 48 (d := mkD 66 "_law_letters") rfl
  obtain ⟨fd49, F49⟩ := c.def_ 49 (d := mkD 67 "_law_rows") rfl
  obtain ⟨fd50, F50⟩ := c.def_ 50 (d := mkD 68 "_law_list") rfl
  obtain ⟨fd51, F51⟩ := c.def_ 51 (d := mkD 69 "_law_pairs") rfl
  obtain ⟨fd52, F52⟩ := c.def_ 52 (d := mkD 70 "_law_fresh") rfl
  obtain ⟨fd53, F53⟩ := c.def_ 53 (d := mkD 71 "_law_word") rfl
  obtain ⟨fd54, F54⟩ := c.def_ 54 (d := mkD 72 "_law_swapped") rfl
  obtain ⟨fd55, F55⟩ := c.def_ 55 (d := mkD 73 "_law_same_lines") rfl
  obtain ⟨fd56, F56⟩ := c.def_ 56 (d := mkD 74 "_law_lines_right") rfl
  obtain ⟨fd57, F57⟩ := c.def_ 57 (d := mkD 75 "law") rfl
  have T : Sg.Glo mg := ⟨He.free_ok X G (c.fact 58 (f := .free "isinstance") rfl), He.free_ok X G (c.fact 59 (f := .free "int") rfl), He.free_ok X G (c.fact 60 (f := .free "bool") rfl), He.free_ok X G (c.fact 61 (f := .free "str") rfl), He.free_ok X G (c.fact 62 (f := .free "len") rfl), He.free_ok X G (c.fact 63 (f := .free "tuple") rfl), He.free_ok X G (c.fact 64 (f := .free "enumerate") rfl), He.free_ok X G (c.fact 65 (f := .free "zip") rfl), He.free_ok X G (c.fact 66 (f := .free "all") rfl), He.free_ok X G (c.fact 67 (f := .free "any") rfl), He.free_ok X G (c.fact 68 (f := .free "reversed") rfl), He.free_ok X G (c.fact 69 (f := .free "range") rfl), He.free_ok X G (c.fact 70 (f := .free "set") rfl), He.free_ok X G (c.fact 71 (f := .free "divmod") rfl), He.free_ok X G (c.fact 72 (f := .free "abs") rfl), He.free_ok X G (c.fact 73 (f := .free "list") rfl), He.free_ok X G (c.fact 74 (f := .free "max") rfl), He.free_ok X G (c.fact 75 (f := .free "min") rfl), He.str_ok X G (c.fact 76 (f := .str "LETTERS" "abcdefghijklmnopqrstuvwxyz") rfl), He.int_ok X G (c.fact 77 (f := .int "MOST_LETTERS" 10) rfl), He.int_ok X G (c.fact 78 (f := .int "FAR" 9) rfl), He.int_ok X G (c.fact 79 (f := .int "MOST_WIDE" 999) rfl)⟩
  have e := hfa.symm.trans (He.glo_ok X G (c.fact 57 (f := .glo "law") rfl))
  cases e
  have b := FunD.bindsA (ps := ["_law_script"]) F57 fun _ _ _ _ _ _ us hl => match us, hl with | [_], _ => rfl
  refine ⟨fd57, fun s v => b s [v] rfl, fun base _ _ => ?_⟩
  have H_is_from_to := Sg.has_mk (P := P) (w := w) (base := base) (st := Sg.topS 12) (Sg.ok_from_to T  F0) F0 (He.glo_ok X G (c.fact 0 (f := .glo "is_from_to") rfl)) (F0.bindsN fun _ _ _ _ _ _ us hl => match us, hl with | [_, _, _], _ => rfl)
  have H_is_letter := Sg.has_mk (P := P) (w := w) (base := base) (st := Sg.topS 13) (Sg.ok_is_letter T  F1) F1 (He.glo_ok X G (c.fact 1 (f := .glo "is_letter") rfl)) (F1.bindsN fun _ _ _ _ _ _ us hl => match us, hl with | [_], _ => rfl)
  have H_is_gap := Sg.has_mk (P := P) (w := w) (base := base) (st := Sg.topS 14) (Sg.ok_is_gap T H_is_from_to F2) F2 (He.glo_ok X G (c.fact 2 (f := .glo "is_gap") rfl)) (F2.bindsN fun _ _ _ _ _ _ us hl => match us, hl with | [_], _ => rfl)
  have H_letters_of := Sg.has_mk (P := P) (w := w) (base := base) (st := Sg.topS 15) (Sg.ok_letters_of T  F3) F3 (He.glo_ok X G (c.fact 3 (f := .glo "letters_of") rfl)) (F3.bindsN fun _ _ _ _ _ _ us hl => match us, hl with | [_], _ => rfl)
  have H_place_of := Sg.has_mk (P := P) (w := w) (base := base) (st := Sg.topS 16) (Sg.ok_place_of T  F4) F4 (He.glo_ok X G (c.fact 4 (f := .glo "place_of") rfl)) (F4.bindsN fun _ _ _ _ _ _ us hl => match us, hl with | [_, _], _ => rfl)
  have H_need_letter := Sg.has_mk (P := P) (w := w) (base := base) (st := Sg.topS 17) (Sg.ok_need_letter T H_place_of F5) F5 (He.glo_ok X G (c.fact 5 (f := .glo "need_letter") rfl)) (F5.bindsN fun _ _ _ _ _ _ us hl => match us, hl with | [_, _], _ => rfl)
  have H_gap_in := Sg.has_mk (P := P) (w := w) (base := base) (st := Sg.topS 18) (Sg.ok_gap_in T  F6) F6 (He.glo_ok X G (c.fact 6 (f := .glo "gap_in") rfl)) (F6.bindsN fun _ _ _ _ _ _ us hl => match us, hl with | [_, _, _], _ => rfl)
  have H_gap_of := Sg.has_mk (P := P) (w := w) (base := base) (st := Sg.topS 19) (Sg.ok_gap_of T H_need_letter H_gap_in F7) F7 (He.glo_ok X G (c.fact 7 (f := .glo "gap_of") rfl)) (F7.bindsN fun _ _ _ _ _ _ us hl => match us, hl with | [_, _, _, _], _ => rfl)
  have H_rows_of := Sg.has_mk (P := P) (w := w) (base := base) (st := Sg.topS 20) (Sg.ok_rows_of T H_letters_of H_gap_in F8) F8 (He.glo_ok X G (c.fact 8 (f := .glo "rows_of") rfl)) (F8.bindsN fun _ _ _ _ _ _ us hl => match us, hl with | [_, _], _ => rfl)
  have H_from_rows := Sg.has_mk (P := P) (w := w) (base := base) (st := Sg.topS 21) (Sg.ok_from_rows T H_letters_of F9) F9 (He.glo_ok X G (c.fact 9 (f := .glo "from_rows") rfl)) (F9.bindsN fun _ _ _ _ _ _ us hl => match us, hl with | [_, _], _ => rfl)
  have H_is_sign := Sg.has_mk (P := P) (w := w) (base := base) (st := Sg.topS 23) (Sg.ok_is_sign T H_place_of F10) F10 (He.glo_ok X G (c.fact 10 (f := .glo "is_sign") rfl)) (F10.bindsN fun _ _ _ _ _ _ us hl => match us, hl with | [_, _], _ => rfl)
  have H_is_text := Sg.has_mk (P := P) (w := w) (base := base) (st := Sg.topS 24) (Sg.ok_is_text T H_is_sign F11) F11 (He.glo_ok X G (c.fact 11 (f := .glo "is_text") rfl)) (F11.bindsN fun _ _ _ _ _ _ us hl => match us, hl with | [_, _], _ => rfl)
  have H_need_text := Sg.has_mk (P := P) (w := w) (base := base) (st := Sg.topS 25) (Sg.ok_need_text T H_is_text F12) F12 (He.glo_ok X G (c.fact 12 (f := .glo "need_text") rfl)) (F12.bindsN fun _ _ _ _ _ _ us hl => match us, hl with | [_, _], _ => rfl)
  have H_sign_width := Sg.has_mk (P := P) (w := w) (base := base) (st := Sg.topS 26) (Sg.ok_sign_width T H_place_of F13) F13 (He.glo_ok X G (c.fact 13 (f := .glo "sign_width") rfl)) (F13.bindsN fun _ _ _ _ _ _ us hl => match us, hl with | [_, _], _ => rfl)
  have H_between := Sg.has_mk (P := P) (w := w) (base := base) (st := Sg.topS 27) (Sg.ok_between T H_gap_in F14) F14 (He.glo_ok X G (c.fact 14 (f := .glo "between") rfl)) (F14.bindsN fun _ _ _ _ _ _ us hl => match us, hl with | [_, _, _], _ => rfl)
  have H_begins_in := Sg.has_mk (P := P) (w := w) (base := base) (st := Sg.topS 28) (Sg.ok_begins_in T H_sign_width H_between F15) F15 (He.glo_ok X G (c.fact 15 (f := .glo "begins_in") rfl)) (F15.bindsN fun _ _ _ _ _ _ us hl => match us, hl with | [_, _, _], _ => rfl)
  have H_begins := Sg.has_mk (P := P) (w := w) (base := base) (st := Sg.topS 29) (Sg.ok_begins T H_need_text H_begins_in F16) F16 (He.glo_ok X G (c.fact 16 (f := .glo "begins") rfl)) (F16.bindsN fun _ _ _ _ _ _ us hl => match us, hl with | [_, _, _], _ => rfl)
  have H_wide_in := Sg.has_mk (P := P) (w := w) (base := base) (st := Sg.topS 30) (Sg.ok_wide_in T H_sign_width H_begins_in F17) F17 (He.glo_ok X G (c.fact 17 (f := .glo "wide_in") rfl)) (F17.bindsN fun _ _ _ _ _ _ us hl => match us, hl with | [_, _, _], _ => rfl)
  have H_wide := Sg.has_mk (P := P) (w := w) (base := base) (st := Sg.topS 31) (Sg.ok_wide T H_need_text H_wide_in F18) F18 (He.glo_ok X G (c.fact 18 (f := .glo "wide") rfl)) (F18.bindsN fun _ _ _ _ _ _ us hl => match us, hl with | [_, _, _], _ => rfl)
  have H_need_whole := Sg.has_mk (P := P) (w := w) (base := base) (st := Sg.topS 32) (Sg.ok_need_whole T  F19) F19 (He.glo_ok X G (c.fact 19 (f := .glo "need_whole") rfl)) (F19.bindsN fun _ _ _ _ _ _ us hl => match us, hl with | [_], _ => rfl)
  have H_sign_at := Sg.has_mk (P := P) (w := w) (base := base) (st := Sg.topS 33) (Sg.ok_sign_at T H_need_text H_need_whole H_begins_in H_sign_width F20) F20 (He.glo_ok X G (c.fact 20 (f := .glo "sign_at") rfl)) (F20.bindsN fun _ _ _ _ _ _ us hl => match us, hl with | [_, _, _, _], _ => rfl)
  have H_need_fresh := Sg.has_mk (P := P) (w := w) (base := base) (st := Sg.topS 35) (Sg.ok_need_fresh T H_is_letter H_place_of F21) F21 (He.glo_ok X G (c.fact 21 (f := .glo "need_fresh") rfl)) (F21.bindsN fun _ _ _ _ _ _ us hl => match us, hl with | [_, _], _ => rfl)
  have H_need_room := Sg.has_mk (P := P) (w := w) (base := base) (st := Sg.topS 36) (Sg.ok_need_room T  F22) F22 (He.glo_ok X G (c.fact 22 (f := .glo "need_room") rfl)) (F22.bindsN fun _ _ _ _ _ _ us hl => match us, hl with | [_], _ => rfl)
  have H_with_like := Sg.has_mk (P := P) (w := w) (base := base) (st := Sg.topS 37) (Sg.ok_with_like T H_need_fresh H_need_letter H_need_room H_letters_of H_gap_in H_from_rows F23) F23 (He.glo_ok X G (c.fact 23 (f := .glo "with_like") rfl)) (F23.bindsN fun _ _ _ _ _ _ us hl => match us, hl with | [_, _, _, _], _ => rfl)
  have H_letters_of_X := Sg.has_mk (P := P) (w := w) (base := base) (st := Sg.topS 15) (Sg.ok_letters_X T  F3) F3 (He.glo_ok X G (c.fact 3 (f := .glo "letters_of") rfl)) (F3.bindsN fun _ _ _ _ _ _ us hl => match us, hl with | [_], _ => rfl)
  have H_with_gap := Sg.has_mk (P := P) (w := w) (base := base) (st := Sg.topS 38) (Sg.ok_with_gap T H_need_letter H_is_gap H_letters_of_X H_gap_in H_from_rows F24) F24 (He.glo_ok X G (c.fact 24 (f := .glo "with_gap") rfl)) (F24.bindsN fun _ _ _ _ _ _ us hl => match us, hl with | [_, _, _, _, _], _ => rfl)
  have H_is_moved := Sg.has_mk (P := P) (w := w) (base := base) (st := Sg.topS 39) (Sg.ok_is_moved T H_between F25) F25 (He.glo_ok X G (c.fact 25 (f := .glo "is_moved") rfl)) (F25.bindsN fun _ _ _ _ _ _ us hl => match us, hl with | [_, _, _], _ => rfl)
  have H_moved_lines := Sg.has_mk (P := P) (w := w) (base := base) (st := Sg.topS 40) (Sg.ok_moved_lines T H_need_text H_is_moved F26) F26 (He.glo_ok X G (c.fact 26 (f := .glo "moved_lines") rfl)) (F26.bindsN fun _ _ _ _ _ _ us hl => match us, hl with | [_, _, _, _], _ => rfl)
  have H_words_of := Sg.has_mk (P := P) (w := w) (base := base) (st := Sg.topS 43) (Sg.ok_words_of T H_need_text F27) F27 (He.glo_ok X G (c.fact 27 (f := .glo "words_of") rfl)) (F27.bindsN fun _ _ _ _ _ _ us hl => match us, hl with | [_, _], _ => rfl)
  have H_line_of := Sg.has_mk (P := P) (w := w) (base := base) (st := Sg.topS 44) (Sg.ok_line_of T  F28) F28 (He.glo_ok X G (c.fact 28 (f := .glo "line_of") rfl)) (F28.bindsN fun _ _ _ _ _ _ us hl => match us, hl with | [_, _, _], _ => rfl)
  have H_room_of := Sg.has_mk (P := P) (w := w) (base := base) (st := Sg.topS 45) (Sg.ok_room_of T H_wide_in F29) F29 (He.glo_ok X G (c.fact 29 (f := .glo "room_of") rfl)) (F29.bindsN fun _ _ _ _ _ _ us hl => match us, hl with | [_, _, _, _], _ => rfl)
  have H_need_wide := Sg.has_mk (P := P) (w := w) (base := base) (st := Sg.topS 46) (Sg.ok_need_wide T H_is_from_to F30) F30 (He.glo_ok X G (c.fact 30 (f := .glo "need_wide") rfl)) (F30.bindsN fun _ _ _ _ _ _ us hl => match us, hl with | [_], _ => rfl)
  have H_need_words := Sg.has_mk (P := P) (w := w) (base := base) (st := Sg.topS 47) (Sg.ok_need_words T H_words_of H_need_wide H_room_of F31) F31 (He.glo_ok X G (c.fact 31 (f := .glo "need_words") rfl)) (F31.bindsN fun _ _ _ _ _ _ us hl => match us, hl with | [_, _, _, _], _ => rfl)
  have H_filled := Sg.has_mk (P := P) (w := w) (base := base) (st := Sg.topS 48) (Sg.ok_filled T H_need_words H_room_of F32) F32 (He.glo_ok X G (c.fact 32 (f := .glo "filled") rfl)) (F32.bindsN fun _ _ _ _ _ _ us hl => match us, hl with | [_, _, _, _], _ => rfl)
  have H_cost_in := Sg.has_mk (P := P) (w := w) (base := base) (st := Sg.topS 49) (Sg.ok_cost_in T H_room_of H_line_of F33) F33 (He.glo_ok X G (c.fact 33 (f := .glo "cost_in") rfl)) (F33.bindsN fun _ _ _ _ _ _ us hl => match us, hl with | [_, _, _, _, _], _ => rfl)
  have H_prices_of := Sg.has_mk (P := P) (w := w) (base := base) (st := Sg.topS 50) (Sg.ok_prices_of T H_cost_in F34) F34 (He.glo_ok X G (c.fact 34 (f := .glo "prices_of") rfl)) (F34.bindsN fun _ _ _ _ _ _ us hl => match us, hl with | [_, _, _, _], _ => rfl)
  have H_evened := Sg.has_mk (P := P) (w := w) (base := base) (st := Sg.topS 51) (Sg.ok_evened T H_need_words H_prices_of H_cost_in H_line_of F35) F35 (He.glo_ok X G (c.fact 35 (f := .glo "evened") rfl)) (F35.bindsN fun _ _ _ _ _ _ us hl => match us, hl with | [_, _, _, _], _ => rfl)
  have H_shows_even := Sg.has_mk (P := P) (w := w) (base := base) (st := Sg.topS 52) (Sg.ok_shows_even T H_need_words H_prices_of F36) F36 (He.glo_ok X G (c.fact 36 (f := .glo "shows_even") rfl)) (F36.bindsN fun _ _ _ _ _ _ us hl => match us, hl with | [_, _, _, _], _ => rfl)
  have H_spread := Sg.has_mk (P := P) (w := w) (base := base) (st := Sg.topS 53) (Sg.ok_spread T H_words_of H_need_wide H_room_of F37) F37 (He.glo_ok X G (c.fact 37 (f := .glo "spread") rfl)) (F37.bindsN fun _ _ _ _ _ _ us hl => match us, hl with | [_, _, _, _], _ => rfl)
  have H_grouped := Sg.has_mk (P := P) (w := w) (base := base) (st := Sg.topS 55) (Sg.ok_grouped T  F38) F38 (He.glo_ok X G (c.fact 38 (f := .glo "grouped") rfl)) (F38.bindsN fun _ _ _ _ _ _ us hl => match us, hl with | [_, _], _ => rfl)
  have H_left_parting := Sg.has_mk (P := P) (w := w) (base := base) (st := Sg.topS 56) (Sg.ok_left_parting T H_grouped H_letters_of H_rows_of F39) F39 (He.glo_ok X G (c.fact 39 (f := .glo "left_parting") rfl)) (F39.bindsN fun _ _ _ _ _ _ us hl => match us, hl with | [_, _], _ => rfl)
  have H_parting_letter := Sg.has_mk (P := P) (w := w) (base := base) (st := Sg.topS 57) (Sg.ok_parting T H_letters_of H_gap_in F40) F40 (He.glo_ok X G (c.fact 40 (f := .glo "parting_letter") rfl)) (F40.bindsN fun _ _ _ _ _ _ us hl => match us, hl with | [_, _, _, _], _ => rfl)
  have H_twos := Sg.has_mk (P := P) (w := w) (base := base) (st := Sg.topS 58) (Sg.ok_twos T  F41) F41 (He.glo_ok X G (c.fact 41 (f := .glo "twos") rfl)) (F41.bindsN fun _ _ _ _ _ _ us hl => match us, hl with | [_], _ => rfl)
  have H_shows_lefts := Sg.has_mk (P := P) (w := w) (base := base) (st := Sg.topS 59) (Sg.ok_shows_lefts T H_left_parting H_parting_letter H_twos F42) F42 (He.glo_ok X G (c.fact 42 (f := .glo "shows_lefts") rfl)) (F42.bindsN fun _ _ _ _ _ _ us hl => match us, hl with | [_, _], _ => rfl)
  have H_choices := Sg.has_mk (P := P) (w := w) (base := base) (st := Sg.topS 60) (Sg.ok_choices T  F43) F43 (He.glo_ok X G (c.fact 43 (f := .glo "choices") rfl)) (F43.bindsN fun _ _ _ _ _ _ us hl => match us, hl with | [_, _], _ => rfl)
  have H_parters := Sg.has_mk (P := P) (w := w) (base := base) (st := Sg.topS 61) (Sg.ok_parters T H_letters_of H_left_parting H_choices H_gap_in F44) F44 (He.glo_ok X G (c.fact 44 (f := .glo "parters") rfl)) (F44.bindsN fun _ _ _ _ _ _ us hl => match us, hl with | [_, _], _ => rfl)
  have H__law_box := Sg.has_mk (P := P) (w := w) (base := base) (st := Sg.topS 63) (Sg.ok_box T  F45) F45 (He.glo_ok X G (c.fact 45 (f := .glo "_law_box") rfl)) (F45.bindsN fun _ _ _ _ _ _ us hl => match us, hl with | [_, _], _ => rfl)
  have H__law_take := Sg.has_mk (P := P) (w := w) (base := base) (st := Sg.topS 64) (Sg.ok_take T  F46) F46 (He.glo_ok X G (c.fact 46 (f := .glo "_law_take") rfl)) (F46.bindsN fun _ _ _ _ _ _ us hl => match us, hl with | [_, _], _ => rfl)
  have H__law_face := Sg.has_mk (P := P) (w := w) (base := base) (st := Sg.topS 65) (Sg.ok_face T H__law_take F47) F47 (He.glo_ok X G (c.fact 47 (f := .glo "_law_face") rfl)) (F47.bindsN fun _ _ _ _ _ _ us hl => match us, hl with | [_, _, _], _ => rfl)
  have H__law_letters := Sg.has_mk (P := P) (w := w) (base := base) (st := Sg.topS 66) (Sg.ok_letters T  F48) F48 (He.glo_ok X G (c.fact 48 (f := .glo "_law_letters") rfl)) (F48.bindsN fun _ _ _ _ _ _ us hl => match us, hl with | [_], _ => rfl)
  have H__law_rows := Sg.has_mk (P := P) (w := w) (base := base) (st := Sg.topS 67) (Sg.ok_rows T H__law_take F49) F49 (He.glo_ok X G (c.fact 49 (f := .glo "_law_rows") rfl)) (F49.bindsN fun _ _ _ _ _ _ us hl => match us, hl with | [_, _], _ => rfl)
  have H__law_list := Sg.has_mk (P := P) (w := w) (base := base) (st := Sg.topS 68) (Sg.ok_list T H__law_letters F50) F50 (He.glo_ok X G (c.fact 50 (f := .glo "_law_list") rfl)) (F50.bindsN fun _ _ _ _ _ _ us hl => match us, hl with | [_, _], _ => rfl)
  have H__law_pairs := Sg.has_mk (P := P) (w := w) (base := base) (st := Sg.topS 69) (Sg.ok_pairs T H__law_list H__law_rows F51) F51 (He.glo_ok X G (c.fact 51 (f := .glo "_law_pairs") rfl)) (F51.bindsN fun _ _ _ _ _ _ us hl => match us, hl with | [_, _], _ => rfl)
  have H__law_fresh := Sg.has_mk (P := P) (w := w) (base := base) (st := Sg.topS 70) (Sg.ok_fresh T H__law_letters H__law_take F52) F52 (He.glo_ok X G (c.fact 52 (f := .glo "_law_fresh") rfl)) (F52.bindsN fun _ _ _ _ _ _ us hl => match us, hl with | [_, _], _ => rfl)
  have H__law_word := Sg.has_mk (P := P) (w := w) (base := base) (st := Sg.topS 71) (Sg.ok_word T H__law_take F53) F53 (He.glo_ok X G (c.fact 53 (f := .glo "_law_word") rfl)) (F53.bindsN fun _ _ _ _ _ _ us hl => match us, hl with | [_, _], _ => rfl)
  have H__law_swapped := Sg.has_mk (P := P) (w := w) (base := base) (st := Sg.topS 72) (Sg.ok_swapped T H__law_take F54) F54 (He.glo_ok X G (c.fact 54 (f := .glo "_law_swapped") rfl)) (F54.bindsN fun _ _ _ _ _ _ us hl => match us, hl with | [_, _, _, _], _ => rfl)
  have H__law_same_lines := Sg.has_mk (P := P) (w := w) (base := base) (st := Sg.topS 73) (Sg.ok_same T  F55) F55 (He.glo_ok X G (c.fact 55 (f := .glo "_law_same_lines") rfl)) (F55.bindsN fun _ _ _ _ _ _ us hl => match us, hl with | [_, _, _], _ => rfl)
  have H__law_lines_right := Sg.has_mk (P := P) (w := w) (base := base) (st := Sg.topS 74) (Sg.ok_lines_right T H_evened H_filled H_shows_even H_spread H__law_same_lines F56) F56 (He.glo_ok X G (c.fact 56 (f := .glo "_law_lines_right") rfl)) (F56.bindsN fun _ _ _ _ _ _ us hl => match us, hl with | [_, _, _, _], _ => rfl)
  exact Sg.ok_law T Sg.turn_ok H__law_box H__law_face H__law_letters H__law_pairs H__law_fresh H__law_take H_with_like H__law_word H__law_swapped H_begins H_wide H_sign_at H__law_lines_right H_parters H_shows_lefts H_gap_of H_with_gap H_moved_lines F57
end SgHead
open PySem PySem.W PySem.Calls PyProof.Rows
theorem PySem.Challenge.cw_stampgaps_k69_whole_likes_in_lines_holds : PySem.Challenge.rw_stampgaps_k69_whole_likes_in_lines.Holds := by
  w_on; o_law
  refine HandSHeadRun.head_any (r := OpenLaw.row PySem.Challenge.rw_stampgaps_k69_whole_likes_in_lines) (q := view (OpenLaw.row PySem.Challenge.rw_stampgaps_k69_whole_likes_in_lines).prog [75]) (H := SgHead.hk) (ob := SgHead.ob) (M := 20000) (loose := SgHead.names) (d := HandSHeadRun.topDef (OpenLaw.row PySem.Challenge.rw_stampgaps_k69_whole_likes_in_lines).prog 75) (kwd := []) SgHead.ob_eq
    (by kernel_rfl) (fun s => by kernel_rfl) SgHead.run (by kernel_rfl) (by kernel_rfl) (by kernel_rfl) (by rfl) (by first | assumption | decide +kernel) (by decide +kernel) ⟨rfl, rfl, rfl, rfl, rfl, by decide +kernel⟩ ?hw ?hc
  case hw => w_witness2
  case hc =>
    refine L2.walk_ofE (l := PySem.Challenge.rw_stampgaps_k69_whole_likes_in_lines) (n := 63) (k := 10) (x := "_law_script") (CX := L2.CX0) rfl (by decide) (by kernel_rfl) ⟨rfl, by decide, by decide⟩ ?F (fun _ _ _ _ z => z)
    intro w mg fa h Y G hmg0
    obtain ⟨K, KX, c⟩ := Y
    have hmg : mg ("law" : PySem.Str) = some (.ref fa) := by
      have e : (HandSHeadRun.topDef (OpenLaw.row PySem.Challenge.rw_stampgaps_k69_whole_likes_in_lines).prog 75).name = ("law" : PySem.Str) := by kernel_rfl
      rw [← e]
      exact hmg0
    obtain ⟨fd, hb, hF⟩ := SgHead.facts (P := (PySem.Challenge.rw_stampgaps_k69_whole_likes_in_lines).prog) (w := w) KX G hmg c
    exact ⟨K, fd, Sg.spP K Sg.R_law, KX, hb, fun H a ns hl _ hS => ⟨H, [.list (ns.map .int)], .bool true, fun _ _ e => e, .cons (.lst hS (Sg.dpa_ints ns)) .nil, ⟨ns, Nat.le_trans hl (by decide), rfl, rfl⟩, fun v S' H' _ r => by cases r; rfl⟩, hF⟩
