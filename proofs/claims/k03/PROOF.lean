import PyProof.Rows.All
import Wide.All
import OpenK.AllK
import Wide.FinOn
import HandS.ForMost
import HandS.Zip
import HandS.TupAny
import HandS.TupMul
import HandS.IsInst
import HandS.Defaults
import HandS.Conv
import HandS.Deep
import KE.KDictKeyed
import KE.KTupSum
import KE.GoesEnum
import KE.GoesMore
import HandS.TupLe
import HandS.Exc
import HandS.TryOnly
import HandS.ExcOwn
import HandS.ExcIs
import HandS.HeadHook1
import HandS.HeadHook2
import KE.KDictZip
import HandS.SortRule
import HandS.ExcValue
import KE.KIndexOf
import HandS.More
import HandS.Strs
import HandS.SetFor
import HandS.Style
import HandS.WordsDict
import HandS.Text
import HandS.Comp
import PySem.Challenge.RW_truebid_k03_whole_read
import PyProof.Rows.StrFirst
import KE.IntTextLaws
import KE.KStateDown
import Lean
import HandS.Head0
import HandS.Head1
import HandS.Head2
import HandS.HeadEnd
set_option Elab.async false
set_option linter.all false
set_option maxRecDepth 100000
set_option maxHeartbeats 4000000
namespace Bid
open PySem PySem.Spec PyProof.Rows L2
abbrev D := PyData
abbrev Frg := PySem.W.Frag
theorem same_rd {H H' : Hp} {a : Addr} {u : HO} (e : Same H H') (h : Rd H a u) : Rd H' a u := by
  rcases h with h | ⟨o, h⟩
  · exact Or.inl (e a _ h)
  · exact Or.inr ⟨o, e a _ h⟩
theorem same_l {K : Frg} {H H' : Hp} {a : Addr} {xs : List V} (e : Same H H') (h : SqL K H a xs) : SqL K H' a xs := by
  rcases h with h | h
  · exact Or.inl (same_rd e h)
  · exact Or.inr h
theorem same_t {K : Frg} {H H' : Hp} {a : Addr} {xs : List V} (e : Same H H') (h : SqT K H a xs) : SqT K H' a xs := by
  rcases h with h | h
  · exact Or.inl (same_rd e h)
  · exact Or.inr h
theorem same_upd {H : Hp} {p : Addr} {o : HO} (h : H p = none) : Same H (upd H p o) := fun b x e => by
  rw [upd_ne (ne_of_none e h)]
  exact e
mutual
theorem dp_mono {K : Frg} {H H' : Hp} (e : Same H H') : ∀ (d : D) (v : V), Dp K H v d → Dp K H' v d
  | .none, _, h => by cases h; exact .non
  | .bool b, _, h => by cases h; exact .bl b
  | .int i, _, h => by cases h; exact .int i
  | .str x, _, h => by cases h; exact .str x
  | .list ds, _, h => by
    cases h with
    | lst hs ha => exact .lst (same_l e hs) (dpAll_mono e ds _ ha)
  | .tuple ds, _, h => by
    cases h with
    | tup hs ha => exact .tup (same_t e hs) (dpAll_mono e ds _ ha)
  | .dict _, _, h => by cases h
theorem dpAll_mono {K : Frg} {H H' : Hp} (e : Same H H') : ∀ (ds : List D) (vs : List V), DpAll K H vs ds → DpAll K H' vs ds
  | [], _, h => by cases h; exact .nil
  | d :: ds, _, h => by
    cases h with
    | cons h1 h2 => exact .cons (dp_mono e d _ h1) (dpAll_mono e ds _ h2)
end
theorem dpl_length {K : Frg} {H : Hp} : ∀ {vs : List V} {ds : List D}, DpAll K H vs ds → vs.length = ds.length
  | _, _, .nil => rfl
  | _, _, .cons _ t => congrArg (· + 1) (dpl_length t)
theorem dpl_get {K : Frg} {H : Hp} : ∀ {vs : List V} {ds : List D} {i : Nat} {d : D}, DpAll K H vs ds → ds[i]? = some d → ∃ v, vs[i]? = some v ∧ Dp K H v d
  | _, _, _, _, .nil, e => by simp at e
  | _, _, 0, _, .cons r _, e => by simp at e; subst e; exact ⟨_, rfl, r⟩
  | _, _, i + 1, d, .cons _ t, e => by
    obtain ⟨v, h1, h2⟩ := dpl_get (i := i) t (by simpa using e)
    exact ⟨v, by simpa using h1, h2⟩
theorem dpl_app {K : Frg} {H : Hp} : ∀ {vs ws : List V} {ds es : List D}, DpAll K H vs ds → DpAll K H ws es → DpAll K H (vs ++ ws) (ds ++ es)
  | _, _, _, _, .nil, s => s
  | _, _, _, _, .cons r t, s => .cons r (dpl_app t s)
theorem dpl_take {K : Frg} {H : Hp} : ∀ {vs : List V} {ds : List D} (n : Nat), DpAll K H vs ds → DpAll K H (vs.take n) (ds.take n)
  | _, _, 0, _ => .nil
  | _, _, _ + 1, .nil => .nil
  | _, _, n + 1, .cons r t => .cons r (dpl_take n t)
theorem dpl_drop {K : Frg} {H : Hp} : ∀ {vs : List V} {ds : List D} (n : Nat), DpAll K H vs ds → DpAll K H (vs.drop n) (ds.drop n)
  | _, _, 0, r => r
  | _, _, _ + 1, .nil => .nil
  | _, _, n + 1, .cons _ t => dpl_drop n t
theorem dpl_set {K : Frg} {H : Hp} {v : V} {d : D} (r : Dp K H v d) : ∀ {vs : List V} {ds : List D} (i : Nat), DpAll K H vs ds → DpAll K H (vs.set i v) (ds.set i d)
  | _, _, _, .nil => .nil
  | _, _, 0, .cons _ t => .cons r t
  | _, _, i + 1, .cons q t => .cons q (dpl_set r i t)

inductive Sl where
  | d (x : D)
  | own (a : Addr)
  | pt (x : D)
  | fd (kvs : List (Int × D))
  | tw (kvs : List (Int × D)) (x : D)
/-- a dict that nobody changes any more -/
def FdR (K : Frg) (B : Hp) (v : V) (kvs : List (Int × D)) : Prop := ∃ a od vs, v = .ref a ∧ B a = some (.frz od (.dK vs)) ∧ Paired (fun (p : Key × V) (q : Int × D) => p.1 = Sum.inl q.1 ∧ Dp K B p.2 q.2) vs kvs
theorem FdR.mono {K : Frg} {H H' : Hp} (e : Same H H') {v : V} {kvs : List (Int × D)} : FdR K H v kvs → FdR K H' v kvs
  | ⟨a, od, vs, h1, h2, h3⟩ => ⟨a, od, vs, h1, e a _ h2, Paired.mapP h3 fun p q h => ⟨h.1, dp_mono e _ _ h.2⟩⟩
/-- a plain tuple: an object without a dict of its own -/
def Pt (B : Hp) (v : V) : Prop := ∃ a o u, v = .ref a ∧ B a = some (.frz o u) ∧ o.cls = .type "tuple" ∧ o.dict = none
abbrev Ro := List (Option Sl)
def SlR (K : Frg) (B : Hp) (v : V) : Sl → Prop
  | .d x => Dp K B v x
  | .own a => v = .ref a
  | .pt x => Dp K B v x ∧ Pt B v
  | .fd kvs => FdR K B v kvs
  | .tw kvs x => ∃ t v1 v2, v = .ref t ∧ SqT K B t [v1, v2] ∧ FdR K B v1 kvs ∧ Dp K B v2 x
theorem SlR.mono {K : Frg} {H H' : Hp} (e : Same H H') {v : V} : ∀ {s : Sl}, SlR K H v s → SlR K H' v s
  | .d x, h => dp_mono e x v h
  | .own _, h => h
  | .pt x, ⟨h, a, o, u, q1, q2, q3⟩ => ⟨dp_mono e x v h, a, o, u, q1, e a _ q2, q3⟩
  | .fd _, h => FdR.mono e h
  | .tw _ x, ⟨t, v1, v2, h1, h2, h3, h4⟩ => ⟨t, v1, v2, h1, same_t e h2, FdR.mono e h3, dp_mono e x v2 h4⟩
structure Env (K : Frg) (B : Hp) (σ : L2.St) (ρ : Ro) : Prop where
  len : ρ.length = σ.length
  at_ : ∀ (i : Nat) (s : Sl), ρ[i]? = some (some s) → ∃ v, σ[i]? = some (some v) ∧ SlR K B v s
theorem Env.mono {K : Frg} {H H' : Hp} {σ : L2.St} {ρ : Ro} (e : Same H H') (h : Env K H σ ρ) : Env K H' σ ρ :=
  ⟨h.len, fun i s q => let ⟨v, a, b⟩ := h.at_ i s q; ⟨v, a, b.mono e⟩⟩
theorem Env.set {K : Frg} {H : Hp} {σ : L2.St} {ρ : Ro} {v : V} {s : Sl} (i : Nat) (h : Env K H σ ρ) (r : SlR K H v s) : Env K H (σ.set i (some v)) (ρ.set i (some s)) := by
  refine ⟨by rw [List.length_set, List.length_set]; exact h.len, fun j t q => ?_⟩
  by_cases e : i = j
  · subst e
    by_cases hl : i < ρ.length
    · rw [List.getElem?_set_self hl] at q
      cases q
      exact ⟨v, List.getElem?_set_self (by rw [← h.len]; exact hl), r⟩
    · rw [List.getElem?_eq_none (by rw [List.length_set]; omega)] at q
      cases q
  · rw [List.getElem?_set_ne e] at q ⊢
    exact h.at_ j t q
theorem Env.unset {K : Frg} {H : Hp} {σ : L2.St} {ρ : Ro} (i : Nat) (h : Env K H σ ρ) : Env K H (σ.set i none) (ρ.set i none) := by
  refine ⟨by rw [List.length_set, List.length_set]; exact h.len, fun j t q => ?_⟩
  by_cases e : i = j
  · subst e
    by_cases hl : i < ρ.length
    · rw [List.getElem?_set_self hl] at q
      cases q
    · rw [List.getElem?_eq_none (by rw [List.length_set]; omega)] at q
      cases q
  · rw [List.getElem?_set_ne e] at q ⊢
    exact h.at_ j t q

inductive OC where
  | lst (ds : List D)
  | dK (kvs : List (Int × D))
  | memo (kvs : List ((Int × List Int) × D))
abbrev Ow := List (Addr × OC)
def nkey (k : Int × List Int) : NestedKey := .tup [.num k.1, .tup (k.2.map .num)]
/-- the key as a datum -/
def kd (k : Int × List Int) : D := .tuple [.int k.1, .tuple (k.2.map .int)]
/-- one entry of a dict keyed by (int, tuple of ints) -/
structure MemE (P : Program) (w : World) (K : Frg) (B : Hp) (kv : (Int × List Int) × D) (x : NestedKey × Addr × Value) : Prop where
  key : x.1 = nkey kv.1
  tup : Dp K B (.ref x.2.1) (kd kv.1)
  val : ∃ v, RelV v x.2.2 ∧ Dp K B v kv.2
def MemC (P : Program) (w : World) (K : Frg) (B H : Hp) (a : Addr) (kvs : List ((Int × List Int) × D)) : Prop :=
  ∃ (o : Obj) (es : Array DictEntry) (ep : Nat) (xs : List (NestedKey × Addr × Value)), H a = some (.ext fun h => h.get? a = some o) ∧ (a == sysModules) = false ∧ kvs.length ≤ sizeLine ∧
    o.ExactDict ∧ o.data = .dict es ep ∧ es.toList = xs.map (entryOfKey (nestedKind P w)) ∧ (xs.map (·.1)).Nodup ∧ Paired (MemE P w K B) kvs xs
def Cont (P : Program) (w : World) (K : Frg) (B H : Hp) (a : Addr) : OC → Prop
  | .lst ds => ∃ xs, H a = some (.lst xs) ∧ DpAll K B xs ds
  | .dK kvs => ∃ vs, H a = some (.dK vs) ∧ Paired (fun (p : Key × V) (q : Int × D) => p.1 = Sum.inl q.1 ∧ Dp K B p.2 q.2) vs kvs
  | .memo kvs => MemC P w K B H a kvs
theorem MemE.mono {P : Program} {w : World} {K : Frg} {B B' : Hp} {kv : (Int × List Int) × D} {x : NestedKey × Addr × Value} (e : Same B B') (m : MemE P w K B kv x) : MemE P w K B' kv x :=
  ⟨m.key, dp_mono e _ _ m.tup, let ⟨v, a, b⟩ := m.val; ⟨v, a, dp_mono e _ _ b⟩⟩
theorem Cont.there {P : Program} {w : World} {K : Frg} {B H : Hp} {a : Addr} : ∀ {c : OC}, Cont P w K B H a c → ∃ o, H a = some o
  | .lst _, ⟨_, h, _⟩ => ⟨_, h⟩
  | .dK _, ⟨_, h, _⟩ => ⟨_, h⟩
  | .memo _, ⟨_, _, _, _, h, _⟩ => ⟨_, h⟩
theorem Cont.mono {P : Program} {w : World} {K : Frg} {B B' H H' : Hp} {a : Addr} (e : Same B B') (q : ∀ o, H a = some o → H' a = some o) : ∀ {c : OC}, Cont P w K B H a c → Cont P w K B' H' a c
  | .lst _, ⟨xs, h, r⟩ => ⟨xs, q _ h, dpAll_mono e _ _ r⟩
  | .dK _, ⟨vs, h, r⟩ => ⟨vs, q _ h, Paired.mapP r fun p x z => ⟨z.1, dp_mono e _ _ z.2⟩⟩
  | .memo _, ⟨o, es, ep, xs, h, a, b, c, d, f, g, r⟩ => ⟨o, es, ep, xs, q _ h, a, b, c, d, f, g, Paired.mapP r fun p x z => z.mono e⟩

structure Gd where
  M : List Addr
  B : Hp
  H : Hp
structure SS (P : Program) (w : World) (K : Frg) (G : Gd) (ρ : Ro) (O : Ow) (B : Hp) (σ : L2.St) (H : Hp) : Prop where
  bh : Same B H
  bb : Same G.B B
  hh : ∀ x o, x ∉ G.M → G.H x = some o → H x = some o
  there : ∀ x o, G.H x = some o → ∃ o', H x = some o'
  ag : ∀ x o, G.H x = some o → B x = G.B x
  env : Env K B σ ρ
  own : ∀ p ∈ O, B p.1 = none ∧ Cont P w K B H p.1 p.2
  nd : (O.map (·.1)).Nodup
  mo : ∀ p ∈ O, p.1 ∈ G.M ∨ G.H p.1 = none
section
variable {P : Program} {w : World} {K : Frg} {G : Gd} {ρ ρ' : Ro} {O : Ow} {B H : Hp} {σ σ' : L2.St}
/-- other slots -/
theorem SS.slots (s : SS P w K G ρ O B σ H) (e : Env K B σ' ρ') : SS P w K G ρ' O B σ' H := ⟨s.bh, s.bb, s.hh, s.there, s.ag, e, s.own, s.nd, s.mo⟩
theorem SS.set {v : V} {x : Sl} (i : Nat) (s : SS P w K G ρ O B σ H) (r : SlR K B v x) : SS P w K G (ρ.set i (some x)) O B (σ.set i (some v)) H := s.slots (s.env.set i r)
theorem SS.setd {v : V} {x : D} (i : Nat) (s : SS P w K G ρ O B σ H) (r : Dp K B v x) : SS P w K G (ρ.set i (some (.d x))) O B (σ.set i (some v)) H := s.set i (x := .d x) r
theorem SS.fresh_b (s : SS P w K G ρ O B σ H) {p : Addr} (h : H p = none) : B p = none := by
  cases e : B p with
  | none => rfl
  | some o =>
    have := s.bh p o e
    rw [h] at this
    cases this
theorem SS.fresh_h (s : SS P w K G ρ O B σ H) {p : Addr} (h : H p = none) : G.H p = none := by
  cases e : G.H p with
  | none => rfl
  | some o =>
    obtain ⟨o', q⟩ := s.there p o e
    rw [h] at q
    cases q
theorem SS.ne_own (s : SS P w K G ρ O B σ H) {p : Addr} (h : H p = none) {q : Addr × OC} (hq : q ∈ O) : q.1 ≠ p := by
  obtain ⟨o, e⟩ := (s.own q hq).2.there
  exact ne_of_none e h
/-- a new object, frozen -/
theorem SS.laid {p : Addr} {o : HO} (s : SS P w K G ρ O B σ H) (h : H p = none) : SS P w K G ρ O (upd B p o) σ (upd H p o) := by
  have hb := s.fresh_b h
  refine ⟨fun a u e => ?_, fun a u e => same_upd hb a u (s.bb a u e), fun a u m e => same_upd h a u (s.hh a u m e), fun a u e => ?_, fun a u e => ?_, s.env.mono (same_upd hb), fun q hq => ?_, s.nd, s.mo⟩
  · by_cases ha : a = p
    · subst ha
      rw [upd_same] at e ⊢
      exact e
    · rw [upd_ne ha] at e ⊢
      exact s.bh a u e
  · obtain ⟨o', e'⟩ := s.there a u e
    exact ⟨o', same_upd h a o' e'⟩
  · rw [upd_ne (ne_of_none e (s.fresh_h h))]
    exact s.ag a u e
  · have ne := s.ne_own h hq
    obtain ⟨h1, h2⟩ := s.own q hq
    refine ⟨by rw [upd_ne ne]; exact h1, h2.mono (same_upd hb) fun u e => ?_⟩
    rw [upd_ne ne]
    exact e
/-- a new object, owned -/
theorem SS.owned {p : Addr} {o : HO} {c : OC} (s : SS P w K G ρ O B σ H) (h : H p = none) (k : Cont P w K B (upd H p o) p c) : SS P w K G ρ ((p, c) :: O) B σ (upd H p o) := by
  have hb := s.fresh_b h
  refine ⟨fun a u e => same_upd h a u (s.bh a u e), s.bb, fun a u m e => same_upd h a u (s.hh a u m e), fun a u e => ?_, s.ag, s.env, fun q hq => ?_, ?_, fun q hq => ?_⟩
  · obtain ⟨o', e'⟩ := s.there a u e
    exact ⟨o', same_upd h a o' e'⟩
  · rcases List.mem_cons.mp hq with e | hq
    · subst e
      exact ⟨hb, k⟩
    · have ne := s.ne_own h hq
      obtain ⟨h1, h2⟩ := s.own q hq
      exact ⟨h1, h2.mono (Same.refl B) fun u e => by rw [upd_ne ne]; exact e⟩
  · rw [List.map_cons, List.nodup_cons]
    refine ⟨fun hm => ?_, s.nd⟩
    obtain ⟨q, hq, e⟩ := List.mem_map.mp hm
    exact s.ne_own h hq e
  · rcases List.mem_cons.mp hq with e | hq
    · subst e
      exact .inr (s.fresh_h h)
    · exact s.mo q hq
end
/-- the owned object at a, changed -/
def setO (O : Ow) (a : Addr) (c : OC) : Ow := O.map fun p => if p.1 = a then (a, c) else p
theorem setO_fst (O : Ow) (a : Addr) (c : OC) : (setO O a c).map (·.1) = O.map (·.1) := by
  unfold setO
  rw [List.map_map]
  refine List.map_congr_left fun p _ => ?_
  by_cases e : p.1 = a
  · show (if p.1 = a then (a, c) else p).1 = p.1
    rw [if_pos e]
    exact e.symm
  · show (if p.1 = a then (a, c) else p).1 = p.1
    rw [if_neg e]
theorem mem_setO {O : Ow} {a : Addr} {c : OC} {q : Addr × OC} (h : q ∈ setO O a c) : (q.1 = a ∧ q.2 = c ∧ a ∈ O.map (·.1)) ∨ (q.1 ≠ a ∧ q ∈ O) := by
  obtain ⟨p, hp, e⟩ := List.mem_map.mp h
  by_cases k : p.1 = a
  · rw [if_pos k] at e
    subst e
    exact .inl ⟨rfl, rfl, List.mem_map.mpr ⟨p, hp, k⟩⟩
  · rw [if_neg k] at e
    subst e
    exact .inr ⟨k, hp⟩
section
variable {P : Program} {w : World} {K : Frg} {G : Gd} {ρ ρ' : Ro} {O : Ow} {B H : Hp} {σ σ' : L2.St}
theorem SS.wrote {a : Addr} {o : HO} {c c0 : OC} (s : SS P w K G ρ O B σ H) (hm : (a, c0) ∈ O) (k : Cont P w K B (upd H a o) a c) : SS P w K G ρ (setO O a c) B σ (upd H a o) := by
  have hb : B a = none := (s.own _ hm).1
  refine ⟨fun x u e => ?_, s.bb, fun x u m e => ?_, fun x u e => ?_, s.ag, s.env, fun q hq => ?_, by rw [setO_fst]; exact s.nd, fun q hq => ?_⟩
  · rw [upd_ne (ne_of_none e hb)]
    exact s.bh x u e
  · by_cases ha : x = a
    · subst ha
      rcases s.mo _ hm with z | z
      · exact absurd z m
      · rw [e] at z
        cases z
    · rw [upd_ne ha]
      exact s.hh x u m e
  · by_cases ha : x = a
    · subst ha
      exact ⟨o, upd_same⟩
    · rw [upd_ne ha]
      exact s.there x u e
  · rcases mem_setO hq with ⟨e1, e2, _⟩ | ⟨ne, hq⟩
    · rw [e1, e2]
      exact ⟨hb, k⟩
    · obtain ⟨h1, h2⟩ := s.own q hq
      exact ⟨h1, h2.mono (Same.refl B) fun u e => by rw [upd_ne ne]; exact e⟩
  · rcases mem_setO hq with ⟨e1, _, _⟩ | ⟨_, hq⟩
    · rw [e1]
      exact s.mo _ hm
    · exact s.mo q hq
end
end Bid

namespace Bid
open PySem PySem.Spec PyProof.Rows L2
section
variable {X : Cx}
theorem PEw {e : Expr} {t t' : TE} (h : PE X e t) (w : ∀ σ H Q, t' σ H Q → t σ H Q) : PE X e t' := ⟨fun pins s σ H Q I q => h.run pins s σ H Q I (w σ H Q q)⟩
theorem PTw {e : Expr} {t t' : TT} (h : PT X e t) (w : ∀ σ H Q, t' σ H Q → t σ H Q) : PT X e t' := ⟨fun pins s σ H Q I q => h.run pins s σ H Q I (w σ H Q q)⟩
theorem PWw {e : Expr} {t t' : TT} (h : PW X e t) (w : ∀ σ H Q, t' σ H Q → t σ H Q) : PW X e t' := ⟨fun wh pins s σ H Q I q => h.run wh pins s σ H Q I (w σ H Q q)⟩
theorem PAw {e : List Expr} {t t' : TA} (h : PA X e t) (w : ∀ σ H Q, t' σ H Q → t σ H Q) : PA X e t' := ⟨fun p pins s σ H Q I q => h.run p pins s σ H Q I (w σ H Q q)⟩
theorem PIw {tg e : Expr} {t t' : TI} (h : PI X tg e t) (w : ∀ σ H Q, t' σ H Q → t σ H Q) : PI X tg e t' := ⟨fun pins s σ H Q I q => h.run pins s σ H Q I (w σ H Q q)⟩
theorem POw {e : Option Expr} {t t' : TO} (h : PO X e t) (w : ∀ σ H Q, t' σ H Q → t σ H Q) : PO X e t' := ⟨fun pins s σ H Q I q => h.run pins s σ H Q I (w σ H Q q)⟩
theorem PSw {e : Stmt} {t t' : TS} (h : PS X e t) (w : ∀ D σ H, t' D σ H → t D σ H) : PS X e t' := ⟨fun pins s σ H D I q => h.run pins s σ H D I (w D σ H q)⟩
theorem PSsw {e : List Stmt} {t t' : TS} (h : PSs X e t) (w : ∀ D σ H, t' D σ H → t D σ H) : PSs X e t' := ⟨fun pins s σ H D I q => h.run pins s σ H D I (w D σ H q)⟩
end
section
variable (P : Program) (w : World) (K : Frg) (G : Gd)
def tE (ρ : Ro) (O O' : Ow) (d : D) : TE := fun σ H Q => ∃ B, SS P w K G ρ O B σ H ∧ ∀ v B' H', SS P w K G ρ O' B' σ H' → Same B B' → Dp K B' v d → Q v H'
def tT (ρ : Ro) (O O' : Ow) (b : Bool) : TT := fun σ H Q => ∃ B, SS P w K G ρ O B σ H ∧ ∀ B' H', SS P w K G ρ O' B' σ H' → Same B B' → Q b H'
def tA (ρ : Ro) (O O' : Ow) (ss : List Sl) : TA := fun σ H Q => ∃ B, SS P w K G ρ O B σ H ∧ ∀ vs B' H', SS P w K G ρ O' B' σ H' → Same B B' → Paired (SlR K B') vs ss → Q vs H'
def tP (ρ : Ro) (O O' : Ow) (o : Option Int) : TO := fun σ H Q => ∃ B, SS P w K G ρ O B σ H ∧ ∀ B' H', SS P w K G ρ O' B' σ H' → Same B B' → Q o H'
/-- J walks ds -/
structure Wk (J : It) (B1 : Hp) (ds : List D) : Prop where
  go : ∀ (i : Nat) H, i < ds.length → Same B1 H → J.go i H
  stop : ∀ H, Same B1 H → J.stop ds.length H
  yld : ∀ (i : Nat) (d : D) (B H : Hp) x H', ds[i]? = some d → Same B1 B → Same B H → J.yld i H x H' → ∃ B', Dp K B' x d ∧ ((B' = B ∧ H' = H) ∨ ∃ p o, H p = none ∧ B' = upd B p o ∧ H' = upd H p o)
def tI (ρ : Ro) (O O' : Ow) (ds : List D) : TI := fun σ H R => ∃ B, SS P w K G ρ O B σ H ∧ ∀ J B' H', SS P w K G ρ O' B' σ H' → Same B B' → Wk K J B' ds → R J H'
end
abbrev DE (X : Cx) (G : Gd) (ρ : Ro) (O : Ow) (e : Expr) (O' : Ow) (d : D) : Prop := PE X e (tE X.prog X.w X.K G ρ O O' d)
abbrev DT (X : Cx) (G : Gd) (ρ : Ro) (O : Ow) (e : Expr) (O' : Ow) (b : Bool) : Prop := PT X e (tT X.prog X.w X.K G ρ O O' b)
abbrev DW (X : Cx) (G : Gd) (ρ : Ro) (O : Ow) (e : Expr) (O' : Ow) (b : Bool) : Prop := PW X e (tT X.prog X.w X.K G ρ O O' b)
abbrev DA (X : Cx) (G : Gd) (ρ : Ro) (O : Ow) (es : List Expr) (O' : Ow) (ss : List Sl) : Prop := PA X es (tA X.prog X.w X.K G ρ O O' ss)
abbrev DP (X : Cx) (G : Gd) (ρ : Ro) (O : Ow) (e : Option Expr) (O' : Ow) (o : Option Int) : Prop := PO X e (tP X.prog X.w X.K G ρ O O' o)
abbrev DI (X : Cx) (G : Gd) (ρ : Ro) (O : Ow) (tg e : Expr) (O' : Ow) (ds : List D) : Prop := PI X tg e (tI X.prog X.w X.K G ρ O O' ds)

section
variable {X : Cx} {G : Gd} {ρ : Ro} {O O1 O2 O3 : Ow} {e a b c : Expr} {d da db dc : D} {pos : Pos}
/-- another way to say the value -/
theorem de_is {d' : D} (h : DE X G ρ O e O1 d) (q : d = d') : DE X G ρ O e O1 d' := q ▸ h
theorem dt_is {k k' : Bool} (h : DT X G ρ O e O1 k) (q : k = k') : DT X G ρ O e O1 k' := q ▸ h
theorem de_var (i : Nat) {x : Str} (hr : ρ[i]? = some (some (.d d)) := by rfl) (hN : X.N[i]? = some x := by rfl) (hv : Vis X.env.scope x := by first | exact Or.inl rfl | exact Or.inr (Or.inl rfl) | exact Or.inr (Or.inr rfl))
    (hd : (x == ("__debug__" : Str)) = false := by decide) (hcd : (x == ("__classdict__" : Str)) = false := by decide) : DE X G ρ O (.Name x pos) O d := PEw (pe_var hN hv hd hcd) fun σ H Q ⟨B, s, k⟩ => by
  obtain ⟨v, h1, h2⟩ := s.env.at_ i _ hr
  exact ⟨v, h1, k v B H s (Same.refl B) h2⟩
theorem de_int {i : Int} {j} : DE X G ρ O (.Constant (.int i) j pos) O (.int i) := PEw pe_int fun σ H Q ⟨B, s, k⟩ => k _ B H s (Same.refl B) (.int i)
theorem de_bl {i : Bool} {j} : DE X G ρ O (.Constant (.bool i) j pos) O (.bool i) := PEw pe_bl fun σ H Q ⟨B, s, k⟩ => k _ B H s (Same.refl B) (.bl i)
theorem de_non {j} : DE X G ρ O (.Constant .none j pos) O .none := PEw pe_non fun σ H Q ⟨B, s, k⟩ => k _ B H s (Same.refl B) .non
theorem de_str {x : Str} {j} : DE X G ρ O (.Constant (.str x) j pos) O (.str x) := PEw pe_str fun σ H Q ⟨B, s, k⟩ => k _ B H s (Same.refl B) (.str x)
/-- a constant of the module -/
theorem de_gint {x : Str} {i : Int} {t : Tok} (hm : X.mg x = some (.int i t)) (hg : Gl X x := by rfl) (hd : (x == ("__debug__" : Str)) = false := by decide) : DE X G ρ O (.Name x pos) O (.int i) :=
  PEw (pe_glob (v := .int i) hg hm ⟨_, rfl⟩ hd) fun σ H Q ⟨B, s, k⟩ => k _ B H s (Same.refl B) (.int i)
theorem de_gstr {x z : Str} {t : Tok} (hm : X.mg x = some (.str z t)) (hg : Gl X x := by rfl) (hd : (x == ("__debug__" : Str)) = false := by decide) : DE X G ρ O (.Name x pos) O (.str z) :=
  PEw (pe_glob (v := .str z) hg hm ⟨_, rfl⟩ hd) fun σ H Q ⟨B, s, k⟩ => k _ B H s (Same.refl B) (.str z)

/-- r, upon values of da and db, gives one of d -/
def RD (X : Cx) (r : R2) (da db d : D) : Prop := ∀ (G : Gd) (ρ : Ro) (O : Ow) (B : Hp) (σ : L2.St) (H : Hp) (x y : V) (Q : VK), SS X.prog X.w X.K G ρ O B σ H → Dp X.K B x da → Dp X.K B y db →
  (∀ v B' H', SS X.prog X.w X.K G ρ O B' σ H' → Same B B' → Dp X.K B' v d → Q v H') → r x y H Q
theorem tOp_of {r : R2} (hr : RD X r da db d) : ∀ σ H Q, tE X.prog X.w X.K G ρ O O2 d σ H Q → tOp r (tE X.prog X.w X.K G ρ O O1 da) (tE X.prog X.w X.K G ρ O1 O2 db) σ H Q := fun σ H Q ⟨B, s, k⟩ =>
  ⟨B, s, fun x B1 H1 s1 e1 h1 => ⟨B1, s1, fun y B2 H2 s2 e2 h2 => hr G ρ O2 B2 σ H2 x y Q s2 (dp_mono e2 _ _ h1) h2 fun v B3 H3 s3 e3 h3 => k v B3 H3 s3 ((e1.trans e2).trans e3) h3⟩⟩
theorem de_op {op : Operator} {r : R2} (ho : OpR X (binaryOp op) r) (ha : DE X G ρ O a O1 da) (hb : DE X G ρ O1 b O2 db) (hr : RD X r da db d) : DE X G ρ O (.BinOp a op b pos) O2 d := PEw (pe_op ho ha hb) (tOp_of hr)
theorem de_cmp {op : CmpOp} {r : R2} (ho : OpR X (compareOp op) r) (ha : DE X G ρ O a O1 da) (hb : DE X G ρ O1 b O2 db) (hr : RD X r da db d) (hm : behindInMarks op b = false) : DE X G ρ O (.Compare a [op] [b] pos) O2 d := PEw (pe_cmpR ho ha hb hm) (tOp_of hr)
theorem dt_cmp {op : CmpOp} {r : R2} {k : Bool} (ho : OpR X (compareOp op) r) (ha : DE X G ρ O a O1 da) (hb : DE X G ρ O1 b O2 db) (hr : RD X r da db (.bool k)) (hm : behindInMarks op b = false) : DT X G ρ O (.Compare a [op] [b] pos) O2 k :=
  PTw (pt_cmpR ho ha hb hm) fun σ H Q ⟨B, s, q⟩ => tOp_of hr σ H _ ⟨B, s, fun v B' H' s' e h => by cases h; exact ⟨k, rfl, q B' H' s' e⟩⟩
theorem rd_I0 {g : Int → Int → V} {i j : Int} (h : ∀ B, Dp X.K B (g i j) d) : RD X (rI0 g) (.int i) (.int j) d := fun G ρ O B σ H x y Q s hx hy k => by
  cases hx; cases hy
  exact ⟨i, j, rfl, rfl, k _ B H s (Same.refl B) (h B)⟩
theorem rd_I {C : Int → Int → Prop} {g : Int → Int → V} {i j : Int} (hc : C i j) (h : ∀ B, Dp X.K B (g i j) d) : RD X (rI C g) (.int i) (.int j) d := fun G ρ O B σ H x y Q s hx hy k => by
  cases hx; cases hy
  exact ⟨i, j, rfl, rfl, hc, k _ B H s (Same.refl B) (h B)⟩
theorem de_add {i j : Int} (ha : DE X G ρ O a O1 (.int i)) (hb : DE X G ρ O1 b O2 (.int j)) : DE X G ρ O (.BinOp a .Add b pos) O2 (.int (i + j)) := de_op op_add ha hb (rd_I0 fun _ => .int _)
theorem de_sub {i j : Int} (ha : DE X G ρ O a O1 (.int i)) (hb : DE X G ρ O1 b O2 (.int j)) : DE X G ρ O (.BinOp a .Sub b pos) O2 (.int (i - j)) := de_op op_sub ha hb (rd_I0 fun _ => .int _)
theorem de_mul {i j : Int} (hc : CMul i j) (ha : DE X G ρ O a O1 (.int i)) (hb : DE X G ρ O1 b O2 (.int j)) : DE X G ρ O (.BinOp a .Mult b pos) O2 (.int (i * j)) := de_op op_mul ha hb (rd_I hc fun _ => .int _)
theorem de_div {i j : Int} (hc : CDiv i j) (ha : DE X G ρ O a O1 (.int i)) (hb : DE X G ρ O1 b O2 (.int j)) : DE X G ρ O (.BinOp a .FloorDiv b pos) O2 (.int (i / j)) := de_op op_fdiv ha hb (rd_I hc fun _ => .int _)
theorem de_mod {i j : Int} (hc : 0 < j) (ha : DE X G ρ O a O1 (.int i)) (hb : DE X G ρ O1 b O2 (.int j)) : DE X G ρ O (.BinOp a .Mod b pos) O2 (.int (i % j)) := de_op op_mod ha hb (rd_I hc fun _ => .int _)
theorem de_neg {i : Int} (ha : DE X G ρ O a O1 (.int i)) : DE X G ρ O (.UnaryOp .USub a pos) O1 (.int (-i)) := PEw (pe_un un_neg ha) fun σ H Q ⟨B, s, k⟩ => ⟨B, s, fun x B1 H1 s1 e1 h1 => by
  cases h1
  exact ⟨i, rfl, k _ B1 H1 s1 e1 (.int _)⟩⟩
theorem dt_lt {i j : Int} (ha : DE X G ρ O a O1 (.int i)) (hb : DE X G ρ O1 b O2 (.int j)) : DT X G ρ O (.Compare a [.Lt] [b] pos) O2 (decide (i < j)) := dt_cmp op_lt ha hb (rd_I0 fun _ => .bl _) (nomark _)
theorem dt_gt {i j : Int} (ha : DE X G ρ O a O1 (.int i)) (hb : DE X G ρ O1 b O2 (.int j)) : DT X G ρ O (.Compare a [.Gt] [b] pos) O2 (decide (j < i)) := dt_cmp op_gt ha hb (rd_I0 fun _ => .bl _) (nomark _)
theorem dt_le {i j : Int} (ha : DE X G ρ O a O1 (.int i)) (hb : DE X G ρ O1 b O2 (.int j)) : DT X G ρ O (.Compare a [.LtE] [b] pos) O2 (decide (i ≤ j)) := dt_cmp op_le ha hb (rd_I0 fun _ => .bl _) (nomark _)
theorem de_lt {i j : Int} (ha : DE X G ρ O a O1 (.int i)) (hb : DE X G ρ O1 b O2 (.int j)) : DE X G ρ O (.Compare a [.Lt] [b] pos) O2 (.bool (decide (i < j))) := de_cmp op_lt ha hb (rd_I0 fun _ => .bl _) (nomark _)
theorem de_gt {i j : Int} (ha : DE X G ρ O a O1 (.int i)) (hb : DE X G ρ O1 b O2 (.int j)) : DE X G ρ O (.Compare a [.Gt] [b] pos) O2 (.bool (decide (j < i))) := de_cmp op_gt ha hb (rd_I0 fun _ => .bl _) (nomark _)
theorem de_le {i j : Int} (ha : DE X G ρ O a O1 (.int i)) (hb : DE X G ρ O1 b O2 (.int j)) : DE X G ρ O (.Compare a [.LtE] [b] pos) O2 (.bool (decide (i ≤ j))) := de_cmp op_le ha hb (rd_I0 fun _ => .bl _) (nomark _)
theorem rd_eqD (hd : SeqAt.shaped da = true) (he : SeqAt.shaped db = true) : RD X (rEqD X.K) da db (.bool (PyData.eqv da db)) := fun G ρ O B σ H x y Q s hx hy k =>
  ⟨da, db, dp_mono s.bh _ _ hx, dp_mono s.bh _ _ hy, hd, he, k _ B H s (Same.refl B) (.bl _)⟩
theorem rd_neD (hd : SeqAt.shaped da = true) (he : SeqAt.shaped db = true) : RD X (rNeD X.K) da db (.bool (!PyData.eqv da db)) := fun G ρ O B σ H x y Q s hx hy k =>
  ⟨da, db, dp_mono s.bh _ _ hx, dp_mono s.bh _ _ hy, hd, he, k _ B H s (Same.refl B) (.bl _)⟩
theorem dt_eq {k : Nat} (hr : Room k X.A) (hd : SeqAt.shaped da = true) (he : SeqAt.shaped db = true) (ha : DE X G ρ O a O1 da) (hb : DE X G ρ O1 b O2 db) : DT X G ρ O (.Compare a [.Eq] [b] pos) O2 (PyData.eqv da db) := dt_cmp (op_eqD hr.units) ha hb (rd_eqD hd he) (nomark _)
theorem dt_ne {k : Nat} (hr : Room k X.A) (hd : SeqAt.shaped da = true) (he : SeqAt.shaped db = true) (ha : DE X G ρ O a O1 da) (hb : DE X G ρ O1 b O2 db) : DT X G ρ O (.Compare a [.NotEq] [b] pos) O2 (!PyData.eqv da db) := dt_cmp (op_neD hr.units) ha hb (rd_neD hd he) (nomark _)
theorem de_eq {k : Nat} (hr : Room k X.A) (hd : SeqAt.shaped da = true) (he : SeqAt.shaped db = true) (ha : DE X G ρ O a O1 da) (hb : DE X G ρ O1 b O2 db) : DE X G ρ O (.Compare a [.Eq] [b] pos) O2 (.bool (PyData.eqv da db)) := de_cmp (op_eqD hr.units) ha hb (rd_eqD hd he) (nomark _)
theorem de_ne {k : Nat} (hr : Room k X.A) (hd : SeqAt.shaped da = true) (he : SeqAt.shaped db = true) (ha : DE X G ρ O a O1 da) (hb : DE X G ρ O1 b O2 db) : DE X G ρ O (.Compare a [.NotEq] [b] pos) O2 (.bool (!PyData.eqv da db)) := de_cmp (op_neD hr.units) ha hb (rd_neD hd he) (nomark _)
/-- ints -/
theorem eqv_int (i j : Int) : PyData.eqv (.int i) (.int j) = decide (i = j) := by rw [PyData.eqv]; exact Bool.beq_eq_decide_eq i j
theorem dt_eqI {i j : Int} (ha : DE X G ρ O a O1 (.int i)) (hb : DE X G ρ O1 b O2 (.int j)) : DT X G ρ O (.Compare a [.Eq] [b] pos) O2 (decide (i = j)) := dt_cmp op_eq ha hb (fun G ρ O B σ H x y Q s hx hy k => by
  cases hx; cases hy
  refine ⟨rfl, ?_⟩
  have e : decide (V.int i = V.int j) = decide (i = j) := by rw [dec_int]; exact Bool.beq_eq_decide_eq i j
  rw [e]
  exact k _ B H s (Same.refl B) (.bl _)) (nomark _)
theorem dt_neI {i j : Int} (ha : DE X G ρ O a O1 (.int i)) (hb : DE X G ρ O1 b O2 (.int j)) : DT X G ρ O (.Compare a [.NotEq] [b] pos) O2 (!decide (i = j)) := dt_cmp op_ne ha hb (fun G ρ O B σ H x y Q s hx hy k => by
  cases hx; cases hy
  refine ⟨rfl, ?_⟩
  have e : decide (V.int i = V.int j) = decide (i = j) := by rw [dec_int]; exact Bool.beq_eq_decide_eq i j
  rw [e]
  exact k _ B H s (Same.refl B) (.bl _)) (nomark _)
theorem de_eqI {i j : Int} (ha : DE X G ρ O a O1 (.int i)) (hb : DE X G ρ O1 b O2 (.int j)) : DE X G ρ O (.Compare a [.Eq] [b] pos) O2 (.bool (decide (i = j))) := de_cmp op_eq ha hb (fun G ρ O B σ H x y Q s hx hy k => by
  cases hx; cases hy
  refine ⟨rfl, ?_⟩
  have e : decide (V.int i = V.int j) = decide (i = j) := by rw [dec_int]; exact Bool.beq_eq_decide_eq i j
  rw [e]
  exact k _ B H s (Same.refl B) (.bl _)) (nomark _)
theorem de_neI {i j : Int} (ha : DE X G ρ O a O1 (.int i)) (hb : DE X G ρ O1 b O2 (.int j)) : DE X G ρ O (.Compare a [.NotEq] [b] pos) O2 (.bool (!decide (i = j))) := de_cmp op_ne ha hb (fun G ρ O B σ H x y Q s hx hy k => by
  cases hx; cases hy
  refine ⟨rfl, ?_⟩
  have e : decide (V.int i = V.int j) = decide (i = j) := by rw [dec_int]; exact Bool.beq_eq_decide_eq i j
  rw [e]
  exact k _ B H s (Same.refl B) (.bl _)) (nomark _)
/-- x is None -/
def isNone : D → Bool
  | .none => true
  | _ => false
theorem isNone_dp {K : Frg} {B : Hp} {v : V} {d : D} (h : Dp K B v d) : decide (v = .non) = isNone d := by cases h <;> rfl
theorem rd_isN : RD X (fun x y H Q => y = .non ∧ Q (.bl (decide (x = .non))) H) da .none (.bool (isNone da)) := fun G ρ O B σ H x y Q s hx hy k => by
  cases hy
  exact ⟨rfl, by rw [isNone_dp hx]; exact k _ B H s (Same.refl B) (.bl _)⟩
theorem rd_notN : RD X (fun x y H Q => y = .non ∧ Q (.bl (!decide (x = .non))) H) da .none (.bool (!isNone da)) := fun G ρ O B σ H x y Q s hx hy k => by
  cases hy
  exact ⟨rfl, by rw [isNone_dp hx]; exact k _ B H s (Same.refl B) (.bl _)⟩
theorem dt_isN {j p2} (ha : DE X G ρ O a O1 da) : DT X G ρ O (.Compare a [.Is] [.Constant .none j p2] pos) O1 (isNone da) := dt_cmp op_isN ha de_non rd_isN (nomark _)
theorem dt_notN {j p2} (ha : DE X G ρ O a O1 da) : DT X G ρ O (.Compare a [.IsNot] [.Constant .none j p2] pos) O1 (!isNone da) := dt_cmp op_notN ha de_non rd_notN (nomark _)
theorem de_isN {j p2} (ha : DE X G ρ O a O1 da) : DE X G ρ O (.Compare a [.Is] [.Constant .none j p2] pos) O1 (.bool (isNone da)) := de_cmp op_isN ha de_non rd_isN (nomark _)
theorem de_notN {j p2} (ha : DE X G ρ O a O1 da) : DE X G ρ O (.Compare a [.IsNot] [.Constant .none j p2] pos) O1 (.bool (!isNone da)) := de_cmp op_notN ha de_non rd_notN (nomark _)
/-- x in xs, flat things -/
def flatD : D → Bool
  | .list _ => false
  | .tuple _ => false
  | .dict _ => false
  | _ => true
theorem flat_dp {K : Frg} {B : Hp} {v : V} {d : D} (h : Dp K B v d) (f : flatD d = true) : flatV v = true := by
  cases h <;> first | rfl | cases f
theorem flat_all {K : Frg} {B : Hp} : ∀ {vs : List V} {ds : List D}, DpAll K B vs ds → ds.all flatD = true → vs.all flatV = true
  | _, _, .nil, _ => rfl
  | _, _, .cons h t, f => by
    rw [List.all_cons, Bool.and_eq_true] at f
    rw [List.all_cons, flat_dp h f.1, flat_all t f.2]
    rfl
theorem eqV_dp {K : Frg} {B : Hp} {v u : V} {d d' : D} (h : Dp K B v d) (h' : Dp K B u d') (f : flatD d = true) (f' : flatD d' = true) : eqV v u = PyData.eqv d d' := by
  cases h <;> cases h' <;> first | (cases f; done) | (cases f'; done) | (rw [PyData.eqv]; rfl) | (simp [PyData.eqv, eqV]; done) | skip
def inD (x : D) (xs : List D) : Bool := xs.any fun y => PyData.eqv y x
theorem inD_dp {K : Frg} {B : Hp} {v : V} {d : D} (h : Dp K B v d) (f : flatD d = true) : ∀ {vs : List V} {ds : List D}, DpAll K B vs ds → ds.all flatD = true → inV v vs = inD d ds
  | _, _, .nil, _ => rfl
  | _, _, .cons h1 t, g => by
    rw [List.all_cons, Bool.and_eq_true] at g
    unfold inV inD
    rw [List.any_cons, List.any_cons, eqV_dp h1 h g.1 f]
    exact congrArg _ (inD_dp h f t g.2)
end
end Bid

namespace Bid
open PySem PySem.Spec PyProof.Rows L2
section
variable {X : Cx} {G : Gd} {ρ : Ro} {O O1 O2 O3 : Ow} {e a b c : Expr} {d da db dc : D} {pos : Pos}
theorem dt_val {k : Bool} (h : DE X G ρ O e O1 (.bool k)) (he : ∀ whole, isTrue e X.env whole = (do let v ← whole; standAt e.pos; holding [v] (truthy v)) := by intro _; rfl) : DT X G ρ O e O1 k :=
  PTw (pt_val h he) fun σ H Q ⟨B, s, q⟩ => ⟨B, s, fun v B1 H1 s1 e1 h1 => by cases h1; exact ⟨k, rfl, q B1 H1 s1 e1⟩⟩
theorem dt_not {k : Bool} (h : DT X G ρ O a O1 k) : DT X G ρ O (.UnaryOp .Not a pos) O1 (!k) := PTw (pt_not h) fun σ H Q ⟨B, s, q⟩ => ⟨B, s, q⟩
theorem de_not {k : Bool} (h : DE X G ρ O a O1 (.bool k)) : DE X G ρ O (.UnaryOp .Not a pos) O1 (.bool (!k)) := PEw (pe_not h) fun σ H Q ⟨B, s, q⟩ => ⟨B, s, fun v B1 H1 s1 e1 h1 => by
  cases h1
  exact ⟨k, rfl, q _ B1 H1 s1 e1 (.bl _)⟩⟩
theorem dw_and1 {k : Bool} (h : DT X G ρ O a O1 k) : DW X G ρ O (.BoolOp .And [a] pos) O1 k := pw_and1 h
theorem dw_or1 {k : Bool} (h : DT X G ρ O a O1 k) : DW X G ρ O (.BoolOp .Or [a] pos) O1 k := pw_or1 h
theorem dt_w {k : Bool} (h : DW X G ρ O e O1 k) : DT X G ρ O e O1 k := h.pt
/-- nothing owned is changed by the later ones -/
theorem dw_and {k l : Bool} {rest : List Expr} (h : DT X G ρ O a O k) (g : k = true → DW X G ρ O (.BoolOp .And (b :: rest) pos) O l) : DW X G ρ O (.BoolOp .And (a :: b :: rest) pos) O (k && l) := by
  cases k with
  | true => exact PWw (pw_and h (g rfl)) fun σ H Q ⟨B, s, q⟩ => ⟨B, s, fun B1 H1 s1 e1 => iteT ⟨B1, s1, fun B2 H2 s2 e2 => q B2 H2 s2 (e1.trans e2)⟩⟩
  | false => exact ⟨fun wh pins s σ H Q I q => by
      refine isTrue_and (thn (h.run pins s σ H (fun c H1 => c = false ∧ Q false H1) I ?_) fun c s1 ⟨H1, I1, e, q1⟩ => ?_)
      · obtain ⟨B, s, q⟩ := q
        exact ⟨B, s, fun B1 H1 s1 e1 => ⟨rfl, q B1 H1 s1 e1⟩⟩
      · subst e
        exact ⟨H1, I1, q1⟩⟩
theorem dw_or {k l : Bool} {rest : List Expr} (h : DT X G ρ O a O k) (g : k = false → DW X G ρ O (.BoolOp .Or (b :: rest) pos) O l) : DW X G ρ O (.BoolOp .Or (a :: b :: rest) pos) O (k || l) := by
  cases k with
  | false => exact PWw (pw_or h (g rfl)) fun σ H Q ⟨B, s, q⟩ => ⟨B, s, fun B1 H1 s1 e1 => iteF ⟨B1, s1, fun B2 H2 s2 e2 => q B2 H2 s2 (e1.trans e2)⟩⟩
  | true => exact ⟨fun wh pins s σ H Q I q => by
      refine isTrue_or (thn (h.run pins s σ H (fun c H1 => c = true ∧ Q true H1) I ?_) fun c s1 ⟨H1, I1, e, q1⟩ => ?_)
      · obtain ⟨B, s, q⟩ := q
        exact ⟨B, s, fun B1 H1 s1 e1 => ⟨rfl, q B1 H1 s1 e1⟩⟩
      · subst e
        exact ⟨H1, I1, q1⟩⟩
theorem dt_and {k l : Bool} {rest : List Expr} (h : DT X G ρ O a O k) (g : k = true → DW X G ρ O (.BoolOp .And (b :: rest) pos) O l) : DT X G ρ O (.BoolOp .And (a :: b :: rest) pos) O (k && l) := (dw_and h g).pt
theorem dt_or {k l : Bool} {rest : List Expr} (h : DT X G ρ O a O k) (g : k = false → DW X G ρ O (.BoolOp .Or (b :: rest) pos) O l) : DT X G ρ O (.BoolOp .Or (a :: b :: rest) pos) O (k || l) := (dw_or h g).pt
/-- or, and where the first's answer is known and the second may change what is owned -/
theorem dt_or_t (h : DT X G ρ O a O1 true) : DT X G ρ O (.BoolOp .Or [a, b] pos) O1 true := PW.pt ⟨fun wh pins s σ H Q I q => by
  refine isTrue_or (thn (h.run pins s σ H (fun c H1 => c = true ∧ Q true H1) I ?_) fun c s1 ⟨H1, I1, e, q1⟩ => ?_)
  · obtain ⟨B, s, q⟩ := q
    exact ⟨B, s, fun B1 H1 s1 e1 => ⟨rfl, q B1 H1 s1 e1⟩⟩
  · subst e
    exact ⟨H1, I1, q1⟩⟩
theorem dt_or_f {l : Bool} (h : DT X G ρ O a O1 false) (g : DT X G ρ O1 b O2 l) : DT X G ρ O (.BoolOp .Or [a, b] pos) O2 l := PW.pt (PWw (pw_or h (pw_or1 g)) fun σ H Q ⟨B, s, q⟩ =>
  ⟨B, s, fun B1 H1 s1 e1 => iteF ⟨B1, s1, fun B2 H2 s2 e2 => q B2 H2 s2 (e1.trans e2)⟩⟩)
theorem dt_and_f (h : DT X G ρ O a O1 false) : DT X G ρ O (.BoolOp .And [a, b] pos) O1 false := PW.pt ⟨fun wh pins s σ H Q I q => by
  refine isTrue_and (thn (h.run pins s σ H (fun c H1 => c = false ∧ Q false H1) I ?_) fun c s1 ⟨H1, I1, e, q1⟩ => ?_)
  · obtain ⟨B, s, q⟩ := q
    exact ⟨B, s, fun B1 H1 s1 e1 => ⟨rfl, q B1 H1 s1 e1⟩⟩
  · subst e
    exact ⟨H1, I1, q1⟩⟩
theorem dt_and_t {l : Bool} (h : DT X G ρ O a O1 true) (g : DT X G ρ O1 b O2 l) : DT X G ρ O (.BoolOp .And [a, b] pos) O2 l := PW.pt (PWw (pw_and h (pw_and1 g)) fun σ H Q ⟨B, s, q⟩ =>
  ⟨B, s, fun B1 H1 s1 e1 => iteT ⟨B1, s1, fun B2 H2 s2 e2 => q B2 H2 s2 (e1.trans e2)⟩⟩)
/-- as values, all truths -/
theorem de_one {op} (h : DE X G ρ O a O1 d) : DE X G ρ O (.BoolOp op [a] pos) O1 d := pe_one h
theorem de_and {k l : Bool} {rest : List Expr} (h : DE X G ρ O a O (.bool k)) (g : k = true → DE X G ρ O (.BoolOp .And (b :: rest) pos) O (.bool l)) : DE X G ρ O (.BoolOp .And (a :: b :: rest) pos) O (.bool (k && l)) := by
  cases k with
  | true => exact PEw (pe_and h (g rfl)) fun σ H Q ⟨B, s, q⟩ => ⟨B, s, fun v B1 H1 s1 e1 h1 => by
      cases h1
      exact ⟨true, rfl, iteT ⟨B1, s1, fun v B2 H2 s2 e2 h2 => q v B2 H2 s2 (e1.trans e2) h2⟩⟩⟩
  | false => exact ⟨fun pins s σ H Q I q => by
      refine BoolOp_and (thn (h.run pins s σ H (fun v H1 => v = .bl false ∧ Q (.bl false) H1) I ?_) fun v s1 ⟨x, H1, I1, r1, e, q1⟩ => ?_)
      · obtain ⟨B, s, q⟩ := q
        exact ⟨B, s, fun v B1 H1 s1 e1 h1 => by cases h1; exact ⟨rfl, q _ B1 H1 s1 e1 (.bl _)⟩⟩
      · subst e
        cases r1
        exact wpAny_truthy_bool ⟨.bl false, H1, I1, rfl, q1⟩⟩
theorem de_or {k l : Bool} {rest : List Expr} (h : DE X G ρ O a O (.bool k)) (g : k = false → DE X G ρ O (.BoolOp .Or (b :: rest) pos) O (.bool l)) : DE X G ρ O (.BoolOp .Or (a :: b :: rest) pos) O (.bool (k || l)) := by
  cases k with
  | false => exact PEw (pe_or h (g rfl)) fun σ H Q ⟨B, s, q⟩ => ⟨B, s, fun v B1 H1 s1 e1 h1 => by
      cases h1
      exact ⟨false, rfl, iteF ⟨B1, s1, fun v B2 H2 s2 e2 h2 => q v B2 H2 s2 (e1.trans e2) h2⟩⟩⟩
  | true => exact ⟨fun pins s σ H Q I q => by
      refine BoolOp_or (thn (h.run pins s σ H (fun v H1 => v = .bl true ∧ Q (.bl true) H1) I ?_) fun v s1 ⟨x, H1, I1, r1, e, q1⟩ => ?_)
      · obtain ⟨B, s, q⟩ := q
        exact ⟨B, s, fun v B1 H1 s1 e1 h1 => by cases h1; exact ⟨rfl, q _ B1 H1 s1 e1 (.bl _)⟩⟩
      · subst e
        cases r1
        exact wpAny_truthy_bool ⟨.bl true, H1, I1, rfl, q1⟩⟩
/-- low <= x <= high -/
theorem tChain_le {i j l : Int} : ∀ σ H Q, tE X.prog X.w X.K G ρ O O (.bool (decide (i ≤ j) && decide (j ≤ l))) σ H Q →
    tChain (rI0 fun i j => .bl (decide (i ≤ j))) (rI0 fun i j => .bl (decide (i ≤ j))) (tE X.prog X.w X.K G ρ O O (.int i)) (tE X.prog X.w X.K G ρ O O (.int j)) (tE X.prog X.w X.K G ρ O O (.int l)) σ H Q := fun σ H Q ⟨B, s, q⟩ =>
  ⟨B, s, fun v1 B1 H1 s1 e1 h1 => ⟨B1, s1, fun v2 B2 H2 s2 e2 h2 => by
    cases h1; cases h2
    refine ⟨i, j, rfl, rfl, decide (i ≤ j), rfl, ?_⟩
    by_cases h : i ≤ j
    · rw [decide_eq_true h, if_pos rfl]
      refine ⟨B2, s2, fun v3 B3 H3 s3 e3 h3 => ?_⟩
      cases h3
      refine ⟨j, l, rfl, rfl, ?_⟩
      refine q _ B3 H3 s3 ((e1.trans e2).trans e3) ?_
      rw [decide_eq_true h, Bool.true_and]
      exact .bl _
    · rw [decide_eq_false h, if_neg Bool.false_ne_true]
      refine q _ B2 H2 s2 (e1.trans e2) ?_
      rw [decide_eq_false h, Bool.false_and]
      exact .bl _⟩⟩
theorem de_chain {i j l : Int} (ha : DE X G ρ O a O (.int i)) (hb : DE X G ρ O b O (.int j)) (hc : DE X G ρ O c O (.int l)) (hm : lastMarks [.LtE, .LtE] [b, c] = false := by with_unfolding_all rfl) :
    DE X G ρ O (.Compare a [.LtE, .LtE] [b, c] pos) O (.bool (decide (i ≤ j) && decide (j ≤ l))) := PEw (pe_chain op_le op_le ha hb hc hm) tChain_le
theorem dt_chain {i j l : Int} (ha : DE X G ρ O a O (.int i)) (hb : DE X G ρ O b O (.int j)) (hc : DE X G ρ O c O (.int l)) (hm : lastMarks [.LtE, .LtE] [b, c] = false := by with_unfolding_all rfl) :
    DT X G ρ O (.Compare a [.LtE, .LtE] [b, c] pos) O (decide (i ≤ j) && decide (j ≤ l)) := PTw (pt_chain op_le op_le ha hb hc hm) fun σ H Q ⟨B, s, q⟩ => tChain_le σ H _ ⟨B, s, fun v B1 H1 s1 e1 h1 => by cases h1; exact ⟨_, rfl, q B1 H1 s1 e1⟩⟩
theorem rd_in {neg : Bool} {ds : List D} (hs : db = .list ds ∨ db = .tuple ds) (h1 : flatD da = true) (h2 : ds.all flatD = true) : RD X (rIn X.K neg) da db (.bool (if neg then !inD da ds else inD da ds)) := fun G ρ O B σ H x y Q s hx hy k => by
  rcases hs with e | e
  · subst e
    cases hy with
    | @lst p xs _ hq ha =>
      refine ⟨p, xs, rfl, .inl (same_l s.bh hq), flat_dp hx h1, flat_all ha h2, ?_⟩
      rw [inD_dp hx h1 ha h2]
      exact k _ B H s (Same.refl B) (.bl _)
  · subst e
    cases hy with
    | @tup p xs _ hq ha =>
      refine ⟨p, xs, rfl, .inr (same_t s.bh hq), flat_dp hx h1, flat_all ha h2, ?_⟩
      rw [inD_dp hx h1 ha h2]
      exact k _ B H s (Same.refl B) (.bl _)
theorem dt_in {ds : List D} (hs : db = .list ds ∨ db = .tuple ds) (h1 : flatD da = true) (h2 : ds.all flatD = true) (ha : DE X G ρ O a O1 da) (hb : DE X G ρ O1 b O2 db) (hm : behindInMarks .In b = false := by rfl) : DT X G ρ O (.Compare a [.In] [b] pos) O2 (inD da ds) :=
  dt_cmp op_in_seq ha hb (rd_in (neg := false) hs h1 h2) hm
theorem dt_notin {ds : List D} (hs : db = .list ds ∨ db = .tuple ds) (h1 : flatD da = true) (h2 : ds.all flatD = true) (ha : DE X G ρ O a O1 da) (hb : DE X G ρ O1 b O2 db) (hm : behindInMarks .NotIn b = false := by rfl) : DT X G ρ O (.Compare a [.NotIn] [b] pos) O2 (!inD da ds) :=
  dt_cmp op_notIn_seq ha hb (rd_in (neg := true) hs h1 h2) hm
theorem da_nil : DA X G ρ O [] O [] := PAw pa_nil fun σ H Q ⟨B, s, k⟩ => k [] B H s (Same.refl B) .nil
theorem da_cons {es : List Expr} {ss : List Sl} (h : DE X G ρ O e O1 d) (g : DA X G ρ O1 es O2 ss) (hs : starEach (e :: es) X.env = (false, eval e X.env) :: starEach es X.env := by rfl) : DA X G ρ O (e :: es) O2 (.d d :: ss) :=
  PAw (pa_cons h g hs) fun σ H Q ⟨B, s, k⟩ => ⟨B, s, fun v B1 H1 s1 e1 h1 => ⟨B1, s1, fun vs B2 H2 s2 e2 r => k (v :: vs) B2 H2 s2 (e1.trans e2) (.cons (show SlR X.K B2 v (.d d) from dp_mono e2 _ _ h1) r)⟩⟩
/-- an owned thing, by its name -/
theorem da_own (i : Nat) {x : Str} {o : Addr} {es : List Expr} {ss : List Sl} (g : DA X G ρ O es O2 ss) (hr : ρ[i]? = some (some (.own o)) := by rfl) (hN : X.N[i]? = some x := by rfl) (hv : Vis X.env.scope x := by first | exact Or.inl rfl | exact Or.inr (Or.inl rfl) | exact Or.inr (Or.inr rfl))
    (hd : (x == ("__debug__" : Str)) = false := by decide) (hcd : (x == ("__classdict__" : Str)) = false := by decide) (hs : starEach (Expr.Name x pos :: es) X.env = (false, eval (.Name x pos) X.env) :: starEach es X.env := by rfl) : DA X G ρ O (.Name x pos :: es) O2 (.own o :: ss) :=
  PAw (pa_cons (pe_var hN hv hd hcd) g hs) fun σ H Q ⟨B, s, k⟩ => by
    obtain ⟨v, h1, h2⟩ := s.env.at_ i _ hr
    exact ⟨v, h1, B, s, fun vs B2 H2 s2 e2 r => k (v :: vs) B2 H2 s2 e2 (.cons h2 r)⟩
theorem slr_all {B : Hp} : ∀ {vs : List V} {ds : List D}, Paired (SlR X.K B) vs (ds.map Sl.d) → DpAll X.K B vs ds
  | _, [], h => by cases h; exact .nil
  | _, d :: ds, h => by
    cases h with
    | cons h1 h2 => exact .cons h1 (slr_all h2)
/-- tuples, lists written out -/
theorem de_tup {es : List Expr} {ds : List D} {k} (h : DA X G ρ O es O1 (ds.map Sl.d)) (hz : ds.length ≤ 100000 := by exact Nat.le_of_ble_eq_true rfl) : DE X G ρ O (.Tuple es k pos) O1 (.tuple ds) := PEw (pe_tup h) fun σ H Q ⟨B, s, q⟩ => ⟨B, s, fun vs B1 H1 s1 e1 r => by
  have r' := slr_all r
  have hl := dpl_length r'
  refine ⟨by rw [sizeLine_eq]; omega, fun p hp => ?_⟩
  exact q _ _ _ (s1.laid hp) (e1.trans (same_upd (s1.fresh_b hp))) (.tup (.inl (.inl upd_same)) (dpAll_mono (same_upd (s1.fresh_b hp)) _ _ r'))⟩
theorem de_lst {es : List Expr} {ds : List D} (h : DA X G ρ O es O1 (ds.map Sl.d)) (hz : ds.length ≤ 100000 := by exact Nat.le_of_ble_eq_true rfl) : DE X G ρ O (.List es pos) O1 (.list ds) := PEw (pe_lst h) fun σ H Q ⟨B, s, q⟩ => ⟨B, s, fun vs B1 H1 s1 e1 r => by
  have r' := slr_all r
  have hl := dpl_length r'
  refine ⟨by rw [sizeLine_eq]; omega, fun p hp => ?_⟩
  exact q _ _ _ (s1.laid hp) (e1.trans (same_upd (s1.fresh_b hp))) (.lst (.inl (.inl upd_same)) (dpAll_mono (same_upd (s1.fresh_b hp)) _ _ r'))⟩
theorem atI_dp {K : Frg} {B : Hp} {xs : List V} {ds : List D} {i : Int} (h : DpAll K B xs ds) (e : atI ds i = some d) : ∃ v, atI xs i = some v ∧ Dp K B v d := by
  unfold atI at e ⊢
  rw [dpl_length h]
  cases q : ixN ds.length i with
  | none => rw [q] at e; cases e
  | some j =>
    rw [q] at e
    exact dpl_get h e
theorem rd_ixT {ds : List D} {i : Int} (h : atI ds i = some d) : RD X (rIx X.K) (.tuple ds) (.int i) d := fun G ρ O B σ H x y Q s hx hy k => by
  cases hy
  cases hx with
  | @tup p xs _ hq ha =>
    obtain ⟨v, e, r⟩ := atI_dp ha h
    exact .inr (.inl ⟨p, xs, i, v, rfl, rfl, same_t s.bh hq, e, k v B H s (Same.refl B) r⟩)
theorem rd_ixL {ds : List D} {i : Int} (h : atI ds i = some d) : RD X (rIx X.K) (.list ds) (.int i) d := fun G ρ O B σ H x y Q s hx hy k => by
  cases hy
  cases hx with
  | @lst p xs _ hq ha =>
    obtain ⟨v, e, r⟩ := atI_dp ha h
    exact .inl ⟨p, xs, i, v, rfl, rfl, same_l s.bh hq, e, k v B H s (Same.refl B) r⟩
theorem rd_ixS {z : Str} {i : Int} {c : Nat} (hz : z.length ≤ sizeLine) (h : atI z.cps.toList i = some c) : RD X (rIx X.K) (.str z) (.int i) (.str ⟨#[c]⟩) := fun G ρ O B σ H x y Q s hx hy k => by
  cases hy
  cases hx
  exact .inr (.inr ⟨z, i, c, rfl, rfl, hz, h, k _ B H s (Same.refl B) (.str _)⟩)
theorem de_ixT {ds : List D} {i : Int} (h : atI ds i = some d) (ha : DE X G ρ O a O1 (.tuple ds)) (hb : DE X G ρ O1 b O2 (.int i)) (hs : PlainIx b := by exact fun _ _ => rfl) : DE X G ρ O (.Subscript a b pos) O2 d := PEw (pe_ix ix_seq ha hb hs) (tOp_of (rd_ixT h))
theorem de_ixL {ds : List D} {i : Int} (h : atI ds i = some d) (ha : DE X G ρ O a O1 (.list ds)) (hb : DE X G ρ O1 b O2 (.int i)) (hs : PlainIx b := by exact fun _ _ => rfl) : DE X G ρ O (.Subscript a b pos) O2 d := PEw (pe_ix ix_seq ha hb hs) (tOp_of (rd_ixL h))
theorem de_ixS {z : Str} {i : Int} {c : Nat} (hz : z.length ≤ sizeLine) (h : atI z.cps.toList i = some c) (ha : DE X G ρ O a O1 (.str z)) (hb : DE X G ρ O1 b O2 (.int i)) (hs : PlainIx b := by exact fun _ _ => rfl) : DE X G ρ O (.Subscript a b pos) O2 (.str ⟨#[c]⟩) :=
  PEw (pe_ix ix_seq ha hb hs) (tOp_of (rd_ixS hz h))
theorem dp_none : DP X G ρ O none O none := POw po_none fun σ H Q ⟨B, s, k⟩ => k B H s (Same.refl B)
theorem dp_some {i : Int} (h : DE X G ρ O e O1 (.int i)) : DP X G ρ O (some e) O1 (some i) := POw (po_some h) fun σ H Q ⟨B, s, k⟩ => ⟨B, s, fun v B1 H1 s1 e1 h1 => by
  cases h1
  exact ⟨i, rfl, k B1 H1 s1 e1⟩⟩
def cutD {α : Type} (ds : List α) (lo hi : Option Int) : List α := (ds.drop (HT.sIx ds.length 0 lo)).take (HT.sIx ds.length ds.length hi - HT.sIx ds.length 0 lo)
theorem cut_dp {K : Frg} {B : Hp} {xs : List V} {ds : List D} {lo hi : Option Int} (h : DpAll K B xs ds) : DpAll K B (cutV xs lo hi) (cutD ds lo hi) := by
  unfold cutV cutD
  rw [dpl_length h]
  exact dpl_take _ (dpl_drop _ h)
theorem cut_whole {α : Type} {ds : List α} {lo hi : Option Int} (h : HT.sIx ds.length 0 lo = 0 ∧ HT.sIx ds.length ds.length hi = ds.length) : cutD ds lo hi = ds := by
  unfold cutD
  rw [h.1, h.2]
  simp
theorem de_cutT {ds : List D} {lo hi : Option Expr} {l h : Option Int} {p2 : Pos} (ha : DE X G ρ O a O1 (.tuple ds)) (hl : DP X G ρ O1 lo O2 l) (hh : DP X G ρ O2 hi O3 h) : DE X G ρ O (.Subscript a (.Slice lo hi none p2) pos) O3 (.tuple (cutD ds l h)) :=
  PEw (pe_slice sl_tupA ha hl hh) fun σ H Q ⟨B, s, k⟩ => ⟨B, s, fun v B1 H1 s1 e1 h1 => ⟨B1, s1, fun B2 H2 s2 e2 => ⟨B2, s2, fun B3 H3 s3 e3 => by
    cases h1 with
    | @tup p xs _ hq hd =>
      have hq3 := same_t (e2.trans e3) hq
      have hd3 := dpAll_mono (e2.trans e3) _ _ hd
      have e13 := (e1.trans e2).trans e3
      have hl := dpl_length hd3
      refine ⟨p, xs, rfl, same_t s3.bh hq3, fun hw => ?_, fun hw q hq0 => ?_⟩
      · rw [hl] at hw
        rw [cut_whole hw] at k
        exact k _ B3 H3 s3 e13 (.tup hq3 hd3)
      · exact k _ _ _ (s3.laid hq0) (e13.trans (same_upd (s3.fresh_b hq0))) (.tup (.inl (.inl upd_same)) (dpAll_mono (same_upd (s3.fresh_b hq0)) _ _ (cut_dp hd3)))⟩⟩⟩
theorem de_cutL {ds : List D} {lo hi : Option Expr} {l h : Option Int} {p2 : Pos} (ha : DE X G ρ O a O1 (.list ds)) (hl : DP X G ρ O1 lo O2 l) (hh : DP X G ρ O2 hi O3 h) : DE X G ρ O (.Subscript a (.Slice lo hi none p2) pos) O3 (.list (cutD ds l h)) :=
  PEw (pe_slice sl_list ha hl hh) fun σ H Q ⟨B, s, k⟩ => ⟨B, s, fun v B1 H1 s1 e1 h1 => ⟨B1, s1, fun B2 H2 s2 e2 => ⟨B2, s2, fun B3 H3 s3 e3 => by
    cases h1 with
    | @lst p xs _ hq hd =>
      have hq3 := same_l (e2.trans e3) hq
      have hd3 := dpAll_mono (e2.trans e3) _ _ hd
      have e13 := (e1.trans e2).trans e3
      refine ⟨p, xs, rfl, same_l s3.bh hq3, fun q hq0 => ?_⟩
      exact k _ _ _ (s3.laid hq0) (e13.trans (same_upd (s3.fresh_b hq0))) (.lst (.inl (.inl upd_same)) (dpAll_mono (same_upd (s3.fresh_b hq0)) _ _ (cut_dp hd3)))⟩⟩⟩
theorem rd_catT {ds es : List D} (hz : ds.length + es.length ≤ 100000) : RD X (rCatA X.K) (.tuple ds) (.tuple es) (.tuple (ds ++ es)) := fun G ρ O B σ H x y Q s hx hy k => by
  cases hx with
  | @tup p xs _ hq hd =>
    cases hy with
    | @tup q ys _ hq2 hd2 =>
      have l1 := dpl_length hd
      have l2 := dpl_length hd2
      refine ⟨p, q, xs, ys, rfl, rfl, same_t s.bh hq, same_t s.bh hq2, by rw [sizeLine_eq]; omega, fun e => ?_, fun _ e => ?_, fun _ _ r hr => ?_⟩
      · subst e
        cases hd
        exact k _ B H s (Same.refl B) (.tup hq2 hd2)
      · subst e
        cases hd2
        rw [List.append_nil] at k
        exact k _ B H s (Same.refl B) (.tup hq hd)
      · exact k _ _ _ (s.laid hr) (same_upd (s.fresh_b hr)) (.tup (.inl (.inl upd_same)) (dpAll_mono (same_upd (s.fresh_b hr)) _ _ (dpl_app hd hd2)))
theorem de_catT {ds es : List D} (ha : DE X G ρ O a O1 (.tuple ds)) (hb : DE X G ρ O1 b O2 (.tuple es)) (hz : ds.length + es.length ≤ 100000) : DE X G ρ O (.BinOp a .Add b pos) O2 (.tuple (ds ++ es)) := de_op op_catA ha hb (rd_catT hz)
end
end Bid

namespace Bid
open PySem PySem.Spec PyProof.Rows L2
/-- what stands behind a call -/
structure Rt (P : Program) (w : World) (K : Frg) (B H : Hp) (M : List Addr) (O' : Ow) (B' H' : Hp) : Prop where
  bh : Same B' H'
  bb : Same B B'
  hh : ∀ x o, x ∉ M → H x = some o → H' x = some o
  there : ∀ x o, H x = some o → ∃ o', H' x = some o'
  ag : ∀ x o, H x = some o → B' x = B x
  own : ∀ p ∈ O', B' p.1 = none ∧ Cont P w K B' H' p.1 p.2
abbrev Rel := List Sl → Ow → D → Ow → Prop
def spR (P : Program) (w : World) (K : Frg) (R : Rel) : Sp := fun vs H Q _ => ∃ B ss O r O', Paired (SlR K B) vs ss ∧ R ss O r O' ∧ Same B H ∧ (∀ p ∈ O, B p.1 = none ∧ Cont P w K B H p.1 p.2) ∧ (O.map (·.1)).Nodup ∧
  ∀ v B' H', Rt P w K B H (O.map (·.1)) O' B' H' → Dp K B' v r → Q v H'
/-- a def that changes nothing -/
def pureR (R : List Sl → D → Prop) : Rel := fun ss O r O' => O = [] ∧ O' = [] ∧ R ss r
abbrev spP (P : Program) (w : World) (K : Frg) (R : List Sl → D → Prop) : Sp := spR P w K (pureR R)
section
variable {P : Program} {w : World} {K : Frg} {G : Gd} {ρ : Ro} {O : Ow} {B H : Hp} {σ : L2.St}
theorem SS.rt {O' : Ow} (s : SS P w K G ρ O B σ H) (h : ∀ p ∈ O', p ∈ O) : Rt P w K G.B G.H G.M O' B H := ⟨s.bh, s.bb, s.hh, s.there, s.ag, fun p hp => s.own p (h p hp)⟩
theorem SS.call {M : List Addr} {O' Oc : Ow} {B' H' : Hp} (s : SS P w K G ρ O B σ H) (r : Rt P w K B H M O' B' H') (hM : ∀ a ∈ M, a ∈ O.map (·.1)) (hf : Oc.map (·.1) = O.map (·.1)) (ho : ∀ p ∈ Oc, p ∈ O' ∨ (p.1 ∉ M ∧ p ∈ O)) :
    SS P w K G ρ Oc B' σ H' := by
  have hmo : ∀ a, a ∈ O.map (·.1) → a ∈ G.M ∨ G.H a = none := fun a ha => by
    obtain ⟨p, hp, e⟩ := List.mem_map.mp ha
    subst e
    exact s.mo p hp
  refine ⟨r.bh, s.bb.trans r.bb, fun x o m e => ?_, fun x o e => ?_, fun x o e => ?_, s.env.mono r.bb, fun p hp => ?_, by rw [hf]; exact s.nd, fun p hp => ?_⟩
  · refine r.hh x o (fun hx => ?_) (s.hh x o m e)
    rcases hmo x (hM x hx) with z | z
    · exact m z
    · rw [e] at z
      cases z
  · obtain ⟨o', e'⟩ := s.there x o e
    exact r.there x o' e'
  · obtain ⟨o', e'⟩ := s.there x o e
    rw [r.ag x o' e', s.ag x o e]
  · rcases ho p hp with q | ⟨q, hq⟩
    · exact r.own p q
    · obtain ⟨h1, h2⟩ := s.own p hq
      obtain ⟨o, e⟩ := h2.there
      refine ⟨by rw [r.ag _ o e]; exact h1, h2.mono r.bb fun u e' => r.hh _ u q e'⟩
  · refine hmo _ ?_
    rw [← hf]
    exact List.mem_map.mpr ⟨p, hp, rfl⟩
end
/-- the def that the module's name x stands for keeps sp, and there is room to call it -/
structure Cal (P : Program) (w : World) (K : Frg) (mg : Str → Option Value) (base : Heap) (A : Around) (x : Str) (sp : Sp) : Prop where
  ex : ∃ (f : Addr) (fd : FuncData) (k : Nat) (ps : List Str), FnOk P w K mg base CX0 k f fd ps sp ∧ Room k A ∧ mg x = some (.ref f) ∧ PySem.W.keepIn K (.ref f) = true ∧ Binds K fd ps []
section
variable {X : Cx} {G : Gd} {ρ : Ro} {O O1 O2 O3 : Ow} {e a b c : Expr} {d da db dc : D} {pos : Pos}
theorem de_callM {x : Str} {R : Rel} {p : Pos} {es : List Expr} {ss : List Sl} {Os O' Oc : Ow} (c : Cal X.prog X.w X.K X.mg X.base X.A x (spR X.prog X.w X.K R)) (ha : DA X G ρ O (e :: es) O1 ss) (hR : R ss Os d O') (hs : ∀ q ∈ Os, q ∈ O1) (hnd : (Os.map (·.1)).Nodup)
    (hf : Oc.map (·.1) = O1.map (·.1)) (ho : ∀ q ∈ Oc, q ∈ O' ∨ (q.1 ∉ Os.map (·.1) ∧ q ∈ O1)) (hg : Gl X x := by rfl) (hdb : (x == ("__debug__" : Str)) = false := by decide)
    (he : starEach (e :: es) X.env = (false, eval e X.env) :: starEach es X.env := by rfl) (hpl : (backTo pos (starEach es X.env)).any (·.1) = false := by rfl) : DE X G ρ O (.Call (.Name x p) (e :: es) [] pos) Oc d := by
  obtain ⟨f, fd, k, ps, F, hr, hm, hk, hb⟩ := c.ex
  refine PEw (pe_call F hr hg hm hk hb .nil pass0 ha hdb he hpl) fun σ H Q ⟨B, s, q⟩ => ⟨B, s, fun vs B1 H1 s1 e1 r => ?_⟩
  show spR X.prog X.w X.K R (vs ++ []) H1 Q E0
  rw [List.append_nil]
  exact ⟨B1, ss, Os, d, O', r, hR, s1.bh, fun p hp => s1.own p (hs p hp), hnd, fun v B' H' rt hd => q v B' H' (s1.call rt (fun a ha => let ⟨p, hp, e⟩ := List.mem_map.mp ha; e ▸ List.mem_map.mpr ⟨p, hs p hp, rfl⟩) hf ho) (e1.trans rt.bb) hd⟩
theorem de_call {x : Str} {R : List Sl → D → Prop} {p : Pos} {es : List Expr} {ss : List Sl} (c : Cal X.prog X.w X.K X.mg X.base X.A x (spP X.prog X.w X.K R)) (ha : DA X G ρ O (e :: es) O1 ss) (hR : R ss d) (hg : Gl X x := by rfl) (hdb : (x == ("__debug__" : Str)) = false := by decide)
    (he : starEach (e :: es) X.env = (false, eval e X.env) :: starEach es X.env := by rfl) (hpl : (backTo pos (starEach es X.env)).any (·.1) = false := by rfl) : DE X G ρ O (.Call (.Name x p) (e :: es) [] pos) O1 d :=
  de_callM (Os := []) (O' := []) c ha ⟨rfl, rfl, hR⟩ (fun _ h => nomatch h) List.nodup_nil rfl (fun q hq => .inr ⟨(fun z => nomatch z), hq⟩) hg hdb he hpl
/-- r upon one value of da gives one of d -/
def RC1 (X : Cx) (r : List V → Hp → VK → Prop) (da d : D) : Prop := ∀ (G : Gd) (ρ : Ro) (O : Ow) (B : Hp) (σ : L2.St) (H : Hp) (x : V) (Q : VK), SS X.prog X.w X.K G ρ O B σ H → Dp X.K B x da →
  (∀ v B' H', SS X.prog X.w X.K G ρ O B' σ H' → Same B B' → Dp X.K B' v d → Q v H') → r [x] H Q
theorem tCB1 {r : List V → Hp → VK → Prop} (h : RC1 X r da d) (na : starEach [a] X.env = (false, eval a X.env) :: starEach [] X.env) (ha : DE X G ρ O a O1 da) :
    ∃ t, PA X [a] t ∧ ∀ σ H Q, tE X.prog X.w X.K G ρ O O1 d σ H Q → tCB r t σ H Q := ⟨_, pa_cons ha pa_nil na, fun σ H Q ⟨B, s, q⟩ => ⟨B, s, fun v B1 H1 s1 e1 h1 => h G ρ O1 B1 σ H1 v Q s1 h1 fun v B' H' s' e' hd => q v B' H' s' (e1.trans e') hd⟩⟩
theorem de_b1 {x : Str} {id : String} {r : List V → Hp → VK → Prop} {p : Pos} (hc : CallR X (.builtin id) r) (h : RC1 X r da d) (hm : X.mg x = none) (hv : bootBuiltins x = some (.builtin id)) (ha : DE X G ρ O a O1 da) (hg : Gl X x := by rfl) (hn : x ≠ "__name__" := by decide) (hdb : (x == ("__debug__" : Str)) = false := by decide)
    (he : starEach [a] X.env = (false, eval a X.env) :: starEach [] X.env := by rfl) (hpl : (backTo pos (starEach [] X.env)).any (·.1) = false := by rfl) : DE X G ρ O (.Call (.Name x p) [a] [] pos) O1 d := by
  obtain ⟨t, ht, w⟩ := tCB1 (G := G) (ρ := ρ) (O := O) (O1 := O1) h he ha
  exact PEw (pe_callB hc hg hm hv ht hn hdb he hpl) w
theorem de_t1 {x : Str} {T : String} {r : List V → Hp → VK → Prop} {p : Pos} (hc : CallR X (.type T) r) (h : RC1 X r da d) (hm : X.mg x = none) (hv : bootBuiltins x = some (.type T)) (ha : DE X G ρ O a O1 da) (hg : Gl X x := by rfl) (hn : x ≠ "__name__" := by decide) (hdb : (x == ("__debug__" : Str)) = false := by decide)
    (he : starEach [a] X.env = (false, eval a X.env) :: starEach [] X.env := by rfl) (hpl : (backTo pos (starEach [] X.env)).any (·.1) = false := by rfl) : DE X G ρ O (.Call (.Name x p) [a] [] pos) O1 d := by
  obtain ⟨t, ht, w⟩ := tCB1 (G := G) (ρ := ρ) (O := O) (O1 := O1) h he ha
  exact PEw (pe_callTy hc hg hm hv ht hn hdb he hpl) w
theorem de_lenT {ds : List D} {p : Pos} (hm : X.mg "len" = none) (ha : DE X G ρ O a O1 (.tuple ds)) (hg : Gl X "len" := by rfl) (he : starEach [a] X.env = (false, eval a X.env) :: starEach [] X.env := by rfl) (hpl : (backTo pos (starEach [] X.env)).any (·.1) = false := by rfl) : DE X G ρ O (.Call (.Name "len" p) [a] [] pos) O1 (.int ds.length) :=
  de_b1 call_len_seq (fun G ρ O B σ H x Q s h k => by
    cases h with
    | @tup p xs _ hq hd => exact ⟨p, xs, rfl, .inr (same_t s.bh hq), by rw [dpl_length hd]; exact k _ B H s (Same.refl B) (.int _)⟩) hm PySem.boot_len ha hg (by decide) (by decide) he hpl
theorem de_lenL {ds : List D} {p : Pos} (hm : X.mg "len" = none) (ha : DE X G ρ O a O1 (.list ds)) (hg : Gl X "len" := by rfl) (he : starEach [a] X.env = (false, eval a X.env) :: starEach [] X.env := by rfl) (hpl : (backTo pos (starEach [] X.env)).any (·.1) = false := by rfl) : DE X G ρ O (.Call (.Name "len" p) [a] [] pos) O1 (.int ds.length) :=
  de_b1 call_len_seq (fun G ρ O B σ H x Q s h k => by
    cases h with
    | @lst p xs _ hq hd => exact ⟨p, xs, rfl, .inl (same_l s.bh hq), by rw [dpl_length hd]; exact k _ B H s (Same.refl B) (.int _)⟩) hm PySem.boot_len ha hg (by decide) (by decide) he hpl
theorem de_lenS {z : Str} {p : Pos} (hz : z.length ≤ sizeLine) (hm : X.mg "len" = none) (ha : DE X G ρ O a O1 (.str z)) (hg : Gl X "len" := by rfl) (he : starEach [a] X.env = (false, eval a X.env) :: starEach [] X.env := by rfl) (hpl : (backTo pos (starEach [] X.env)).any (·.1) = false := by rfl) : DE X G ρ O (.Call (.Name "len" p) [a] [] pos) O1 (.int z.length) :=
  de_b1 call_len_str (fun G ρ O B σ H x Q s h k => by
    cases h
    exact ⟨z, rfl, hz, k _ B H s (Same.refl B) (.int _)⟩) hm PySem.boot_len ha hg (by decide) (by decide) he hpl
/-- tuple(x), list(x) -/
theorem de_tupleL {ds : List D} {p : Pos} (hm : X.mg "tuple" = none) (ha : DE X G ρ O a O1 (.list ds)) (hg : Gl X "tuple" := by rfl) (he : starEach [a] X.env = (false, eval a X.env) :: starEach [] X.env := by rfl) : DE X G ρ O (.Call (.Name "tuple" p) [a] [] pos) O1 (.tuple ds) :=
  PEw (pe_tupleOf hg hm ha he) fun σ H Q ⟨B, s, k⟩ => ⟨B, s, fun v B1 H1 s1 e1 h1 => by
    cases h1 with
    | @lst p xs _ hq hd =>
      refine .inl ⟨p, xs, rfl, same_l s1.bh hq, fun q hq0 => ?_⟩
      exact k _ _ _ (s1.laid hq0) (e1.trans (same_upd (s1.fresh_b hq0))) (.tup (.inl (.inl upd_same)) (dpAll_mono (same_upd (s1.fresh_b hq0)) _ _ hd))⟩
theorem de_tupleT {ds : List D} {p : Pos} (hm : X.mg "tuple" = none) (ha : DE X G ρ O a O1 (.tuple ds)) (hg : Gl X "tuple" := by rfl) (he : starEach [a] X.env = (false, eval a X.env) :: starEach [] X.env := by rfl) : DE X G ρ O (.Call (.Name "tuple" p) [a] [] pos) O1 (.tuple ds) :=
  PEw (pe_tupleOf hg hm ha he) fun σ H Q ⟨B, s, k⟩ => ⟨B, s, fun v B1 H1 s1 e1 h1 => by
    cases h1 with
    | @tup p xs _ hq hd => exact .inr ⟨p, xs, rfl, same_t s1.bh hq, k _ B1 H1 s1 e1 (.tup hq hd)⟩⟩
theorem rc_list {ds : List D} (hs : da = .list ds ∨ da = .tuple ds) : RC1 X (fun xs H Q => ∃ p ys, xs = [.ref p] ∧ (SqL X.K H p ys ∨ SqT X.K H p ys) ∧ ∀ l, H l = none → Q (.ref l) (upd H l (.lst ys))) da (.list ds) := fun G ρ O B σ H x Q s h k => by
  rcases hs with q | q
  · subst q
    cases h with
    | @lst p xs _ hq hd => exact ⟨p, xs, rfl, .inl (same_l s.bh hq), fun q hq0 => k _ _ _ (s.laid hq0) (same_upd (s.fresh_b hq0)) (.lst (.inl (.inl upd_same)) (dpAll_mono (same_upd (s.fresh_b hq0)) _ _ hd))⟩
  · subst q
    cases h with
    | @tup p xs _ hq hd => exact ⟨p, xs, rfl, .inr (same_t s.bh hq), fun q hq0 => k _ _ _ (s.laid hq0) (same_upd (s.fresh_b hq0)) (.lst (.inl (.inl upd_same)) (dpAll_mono (same_upd (s.fresh_b hq0)) _ _ hd))⟩
theorem de_list {ds : List D} {p : Pos} (hs : da = .list ds ∨ da = .tuple ds) (hm : X.mg "list" = none) (ha : DE X G ρ O a O1 da) (hg : Gl X "list" := by rfl) (he : starEach [a] X.env = (false, eval a X.env) :: starEach [] X.env := by rfl) (hpl : (backTo pos (starEach [] X.env)).any (·.1) = false := by rfl) :
    DE X G ρ O (.Call (.Name "list" p) [a] [] pos) O1 (.list ds) := de_t1 call_list_of (rc_list hs) hm boot_list ha hg (by decide) (by decide) he hpl
/-- list(range(n)) -/
def rngD (n : Int) : List D := (List.range n.toNat).map fun (i : Nat) => .int (i : Int)
theorem dp_rgV {K : Frg} {B : Hp} (n : Int) : DpAll K B (rgV 0 n) (rngD n) := by
  unfold rgV rngD
  rw [Int.sub_zero]
  generalize n.toNat = m
  have : ∀ l : List Nat, DpAll K B (l.map fun (i : Nat) => V.int (0 + (i : Int))) (l.map fun (i : Nat) => PyData.int (i : Int)) := by
    intro l
    induction l with
    | nil => exact .nil
    | cons i l ih =>
      rw [List.map_cons, List.map_cons, Int.zero_add]
      exact .cons (.int _) ih
  exact this _
theorem de_listRange {n : Int} {p p2 pos2 : Pos} (h0 : 0 ≤ n) (h1 : n ≤ 100000) (hm : X.mg "list" = none) (hm2 : X.mg "range" = none) (ha : DE X G ρ O a O1 (.int n)) (hc : X.calm = true := by rfl) (hg : Gl X "list" := by rfl) (hg2 : Gl X "range" := by rfl) (na : starEach [a] X.env = (false, eval a X.env) :: starEach [] X.env := by rfl)
    (nb : starEach [Expr.Call (.Name "range" p2) [a] [] pos2] X.env = (false, eval (.Call (.Name "range" p2) [a] [] pos2) X.env) :: starEach [] X.env := by rfl) : DE X G ρ O (.Call (.Name "list" p) [.Call (.Name "range" p2) [a] [] pos2] [] pos) O1 (.list (rngD n)) :=
  PEw (pe_listRg hc hg hm (prg_1 hg2 hm2 ha na) nb) fun σ H Q ⟨B, s, k⟩ => ⟨B, s, fun v B1 H1 s1 e1 h1 => by
    cases h1
    exact ⟨n, rfl, ⟨by omega, by omega, by omega, by omega, by omega⟩, fun q hq0 => k _ _ _ (s1.laid hq0) (e1.trans (same_upd (s1.fresh_b hq0))) (.lst (.inl (.inl upd_same)) (dp_rgV n))⟩⟩
/-- lists of ints, of truths -/
theorem dp_ints {K : Frg} {B : Hp} : ∀ {ns : List Int} {vs : List V}, DpAll K B vs (ns.map PyData.int) → vs = ns.map V.int
  | [], _, h => by cases h; rfl
  | n :: ns, _, h => by
    cases h with
    | cons h1 h2 =>
      cases h1
      rw [dp_ints h2]
      rfl
theorem dp_bls {K : Frg} {B : Hp} : ∀ {ns : List Bool} {vs : List V}, DpAll K B vs (ns.map PyData.bool) → vs = ns.map V.bl
  | [], _, h => by cases h; rfl
  | n :: ns, _, h => by
    cases h with
    | cons h1 h2 =>
      cases h1
      rw [dp_bls h2]
      rfl
theorem de_sum {ns : List Int} {p : Pos} (hm : X.mg "sum" = none) (ha : DE X G ρ O a O1 (.list (ns.map .int))) (hc : X.calm = true := by rfl) (hg : Gl X "sum" := by rfl) (he : starEach [a] X.env = (false, eval a X.env) :: starEach [] X.env := by rfl) (hpl : (backTo pos (starEach [] X.env)).any (·.1) = false := by rfl) :
    DE X G ρ O (.Call (.Name "sum" p) [a] [] pos) O1 (.int ns.sum) :=
  de_b1 (cr_sum hc) (fun G ρ O B σ H x Q s h k => by
    cases h with
    | @lst p xs _ hq hd => exact ⟨p, ns, rfl, by rw [← dp_ints hd]; exact same_l s.bh hq, k _ B H s (Same.refl B) (.int _)⟩) hm (by decide +kernel) ha hg (by decide) (by decide) he hpl
theorem de_max {ns : List Int} {m : Int} {p : Pos} (h0 : m ∈ ns) (h1 : ∀ y ∈ ns, y ≤ m) (hm : X.mg "max" = none) (ha : DE X G ρ O a O1 (.list (ns.map .int))) (hc : X.calm = true := by rfl) (hg : Gl X "max" := by rfl) (he : starEach [a] X.env = (false, eval a X.env) :: starEach [] X.env := by rfl) (hpl : (backTo pos (starEach [] X.env)).any (·.1) = false := by rfl) :
    DE X G ρ O (.Call (.Name "max" p) [a] [] pos) O1 (.int m) :=
  de_b1 (cr_max hc) (fun G ρ O B σ H x Q s h k => by
    cases h with
    | @lst p xs _ hq hd => exact ⟨p, ns, rfl, by rw [← dp_ints hd]; exact same_l s.bh hq, List.length_pos_of_mem h0, fun m' q0 q1 => by
        have e : m' = m := Int.le_antisymm (h1 m' q0) (q1 m h0)
        rw [e]
        exact k _ B H s (Same.refl B) (.int _)⟩) hm (by decide +kernel) ha hg (by decide) (by decide) he hpl
theorem de_all {bs : List Bool} {p : Pos} (hm : X.mg "all" = none) (ha : DE X G ρ O a O1 (.list (bs.map .bool))) (hc : X.calm = true := by rfl) (hg : Gl X "all" := by rfl) (he : starEach [a] X.env = (false, eval a X.env) :: starEach [] X.env := by rfl) (hpl : (backTo pos (starEach [] X.env)).any (·.1) = false := by rfl) :
    DE X G ρ O (.Call (.Name "all" p) [a] [] pos) O1 (.bool (bs.all id)) :=
  de_b1 (cr_all hc) (fun G ρ O B σ H x Q s h k => by
    cases h with
    | @lst p xs _ hq hd => exact ⟨p, bs, rfl, by rw [← dp_bls hd]; exact same_l s.bh hq, k _ B H s (Same.refl B) (.bl _)⟩) hm (by decide +kernel) ha hg (by decide) (by decide) he hpl
/-- max(a, b), min(a, b) -/
theorem tCB2 {r : List V → Hp → VK → Prop} {i j : Int} (h : ∀ (B : Hp) (H : Hp) (Q : VK), Q (.int l) H → r [.int i, .int j] H Q) (na : starEach [a, b] X.env = (false, eval a X.env) :: starEach [b] X.env) (nb : starEach [b] X.env = (false, eval b X.env) :: starEach [] X.env) (ha : DE X G ρ O a O1 (.int i)) (hb : DE X G ρ O1 b O2 (.int j)) :
    ∃ t, PA X [a, b] t ∧ ∀ σ H Q, tE X.prog X.w X.K G ρ O O2 (.int l) σ H Q → tCB r t σ H Q := ⟨_, pa_cons ha (pa_cons hb pa_nil nb) na, fun σ H Q ⟨B, s, q⟩ => ⟨B, s, fun v B1 H1 s1 e1 h1 => ⟨B1, s1, fun u B2 H2 s2 e2 h2 => by
      cases h1; cases h2
      exact h B2 H2 Q (q _ B2 H2 s2 (e1.trans e2) (.int _))⟩⟩⟩
theorem de_max2 {i j : Int} {p : Pos} (hm : X.mg "max" = none) (ha : DE X G ρ O a O1 (.int i)) (hb : DE X G ρ O1 b O2 (.int j)) (hc : X.calm = true := by rfl) (hg : Gl X "max" := by rfl) (na : starEach [a, b] X.env = (false, eval a X.env) :: starEach [b] X.env := by rfl) (nb : starEach [b] X.env = (false, eval b X.env) :: starEach [] X.env := by rfl) (hpl : (backTo pos (starEach [b] X.env)).any (·.1) = false := by rfl) :
    DE X G ρ O (.Call (.Name "max" p) [a, b] [] pos) O2 (.int (max i j)) := by
  have e : (if j > i then j else i) = max i j := by rw [Int.max_def]; split <;> split <;> omega
  obtain ⟨t, ht, w⟩ := tCB2 (X := X) (G := G) (ρ := ρ) (O := O) (O1 := O1) (O2 := O2) (a := a) (b := b) (i := i) (j := j) (l := max i j) (r := fun xs H Q => ∃ i j, xs = [.int i, .int j] ∧ Q (.int (if j > i then j else i)) H) (fun B H Q q => ⟨i, j, rfl, by rw [e]; exact q⟩) na nb ha hb
  exact PEw (pe_callB (call_max2 hc) hg hm (by decide +kernel) ht (by decide) (by decide) na hpl) w
theorem de_min2 {i j : Int} {p : Pos} (hm : X.mg "min" = none) (ha : DE X G ρ O a O1 (.int i)) (hb : DE X G ρ O1 b O2 (.int j)) (hc : X.calm = true := by rfl) (hg : Gl X "min" := by rfl) (na : starEach [a, b] X.env = (false, eval a X.env) :: starEach [b] X.env := by rfl) (nb : starEach [b] X.env = (false, eval b X.env) :: starEach [] X.env := by rfl) (hpl : (backTo pos (starEach [b] X.env)).any (·.1) = false := by rfl) :
    DE X G ρ O (.Call (.Name "min" p) [a, b] [] pos) O2 (.int (min i j)) := by
  have e : (if j < i then j else i) = min i j := by rw [Int.min_def]; split <;> split <;> omega
  obtain ⟨t, ht, w⟩ := tCB2 (X := X) (G := G) (ρ := ρ) (O := O) (O1 := O1) (O2 := O2) (a := a) (b := b) (i := i) (j := j) (l := min i j) (r := fun xs H Q => ∃ i j, xs = [.int i, .int j] ∧ Q (.int (if j < i then j else i)) H) (fun B H Q q => ⟨i, j, rfl, by rw [e]; exact q⟩) na nb ha hb
  exact PEw (pe_callB (call_min2 hc) hg hm (by decide +kernel) ht (by decide) (by decide) na hpl) w
/-- int(flag), int(n) -/
theorem de_intB {k : Bool} {p : Pos} (hm : X.mg "int" = none) (ha : DE X G ρ O a O1 (.bool k)) (hg : Gl X "int" := by rfl) (he : starEach [a] X.env = (false, eval a X.env) :: starEach [] X.env := by rfl) (hpl : (backTo pos (starEach [] X.env)).any (·.1) = false := by rfl) : DE X G ρ O (.Call (.Name "int" p) [a] [] pos) O1 (.int (if k then 1 else 0)) :=
  de_t1 call_int1 (fun G ρ O B σ H x Q s h q => by
    cases h
    exact .inr ⟨k, rfl, q _ B H s (Same.refl B) (.int _)⟩) hm (by decide +kernel) ha hg (by decide) (by decide) he hpl
/-- isinstance(x, T), T a built-in type -/
def tyD : D → String
  | .none => "NoneType"
  | .bool _ => "bool"
  | .int _ => "int"
  | .str _ => "str"
  | .list _ => "list"
  | .tuple _ => "tuple"
  | .dict _ => "dict"
theorem ty_dp {B : Hp} {v : V} (h : Dp X.K B v d) : TyX X.K B v (.type (tyD d)) := by
  cases h with
  | non => exact .base .non
  | bl b => exact .base (.bl b)
  | int i => exact .base (.int i)
  | str x => exact .base (.str x)
  | lst hq _ =>
    rcases hq with (q | ⟨o, q⟩) | ⟨o, its, n, q, hc, _⟩
    · exact .base (.lst q)
    · exact .base (.frz q)
    · exact .kList q hc
  | tup hq _ =>
    rcases hq with (q | ⟨o, q⟩) | ⟨o, its, n, q, hc, _⟩
    · exact .base (.tup q)
    · exact .fTuple q
    · exact .kTuple q hc
theorem tyX_mono {B H : Hp} {v : V} (e : Same B H) (h : Dp X.K B v d) : TyX X.K H v (.type (tyD d)) := ty_dp (dp_mono e _ _ h)
theorem de_isi {T : Str} {Tn : String} {k : Bool} {p p2 : Pos} (hk : kitB (tyD d) Tn = some k) (hm : X.mg "isinstance" = none) (hm2 : X.mg T = none) (hv2 : bootBuiltins T = some (.type Tn)) (ha : DE X G ρ O a O1 d) (hg : Gl X "isinstance" := by rfl) (hg2 : Gl X T := by rfl) (hn2 : T ≠ "__name__" := by decide) (hd2 : (T == ("__debug__" : Str)) = false := by decide)
    (na : starEach [a, Expr.Name T p2] X.env = (false, eval a X.env) :: starEach [Expr.Name T p2] X.env := by rfl) (nb : starEach [Expr.Name T p2] X.env = (false, eval (.Name T p2) X.env) :: starEach [] X.env := by rfl) (hpl : (backTo pos (starEach [Expr.Name T p2] X.env)).any (·.1) = false := by rfl) :
    DE X G ρ O (.Call (.Name "isinstance" p) [a, .Name T p2] [] pos) O1 (.bool k) :=
  PEw (pe_callB call_isi hg hm (by decide +kernel) (pa_cons ha (pa_cons (pe_bltn (v := .ty Tn) hg2 hm2 hv2 rfl hn2 hd2) pa_nil nb) na) (by decide) (by decide) na hpl) fun σ H Q ⟨B, s, q⟩ => ⟨B, s, fun v B1 H1 s1 e1 h1 =>
    ⟨v, .ty Tn, .type (tyD d), .type Tn, k, rfl, .ty Tn, tyX_mono s1.bh h1, kit_ty hk, q _ B1 H1 s1 e1 (.bl _)⟩⟩
def rCatS (K : Frg) : R2 := fun x y H Q => ∃ l b xs zs, x = .ref l ∧ y = .ref b ∧ SqL K H l xs ∧ SqL K H b zs ∧ xs.length + zs.length ≤ sizeLine ∧ ∀ p, H p = none → Q (.ref p) (upd H p (.lst (xs ++ zs)))
theorem op_catS : OpR X (binaryOp .Add) (rCatS X.K) := by
  intro pins s σ H x y v u Q I rx ry h
  obtain ⟨l, b, xs, zs, rfl, rfl, hH, hB, hz, q⟩ := h
  cases rx
  cases ry
  obtain ⟨its, r, p1, z1⟩ := I.list hH
  obtain ⟨its2, r2, p2, z2⟩ := I.list hB
  have l1 := r.length
  have l2 := r2.length
  obtain ⟨⟨cls, dd, data, sl⟩, ho, hc, n, hd⟩ := id p1.isList
  obtain ⟨⟨cls2, dd2, data2, sl2⟩, ho2, hc2, n2, hd2⟩ := id p2.isList
  simp only at hc hd hc2 hd2
  subst hc hd hc2 hd2
  have e : its.toArray ++ its2.toArray = (its ++ its2).toArray := by simp
  refine concat_meets ⟨_, ho, rfl⟩ ⟨_, ho2, rfl⟩ noFill_list_add seq_list_add PySem.F.slot_list_add PySem.F.entry_list_add (PySem.F.args_list_add_2 _ _) (list_addW l b its.toArray its2.toArray n n2 dd dd2 sl sl2 (by simp; omega)) ⟨ho, ho2, ?_⟩
  rw [e]
  exact ⟨.ref _, _, I.lnew (t' := s.toks) (r.append r2) (by rw [List.length_append]; omega), rfl, q _ I.fresh⟩
theorem rd_catL {ds es : List D} (hz : ds.length + es.length ≤ 100000) : RD X (rCatS X.K) (.list ds) (.list es) (.list (ds ++ es)) := fun G ρ O B σ H x y Q s hx hy k => by
  cases hx with
  | @lst p xs _ hq hd =>
    cases hy with
    | @lst q ys _ hq2 hd2 =>
      have l1 := dpl_length hd
      have l2 := dpl_length hd2
      exact ⟨p, q, xs, ys, rfl, rfl, same_l s.bh hq, same_l s.bh hq2, by rw [sizeLine_eq]; omega, fun r hr =>
        k _ _ _ (s.laid hr) (same_upd (s.fresh_b hr)) (.lst (.inl (.inl upd_same)) (dpAll_mono (same_upd (s.fresh_b hr)) _ _ (dpl_app hd hd2)))⟩
theorem de_catL {ds es : List D} (ha : DE X G ρ O a O1 (.list ds)) (hb : DE X G ρ O1 b O2 (.list es)) (hz : ds.length + es.length ≤ 100000) : DE X G ρ O (.BinOp a .Add b pos) O2 (.list (ds ++ es)) := de_op op_catS ha hb (rd_catL hz)
theorem de_catS {x y : Str} (ha : DE X G ρ O a O1 (.str x)) (hb : DE X G ρ O1 b O2 (.str y)) (hz : x.length + y.length ≤ sizeLine) : DE X G ρ O (.BinOp a .Add b pos) O2 (.str (x ++ y)) := de_op op_add_str ha hb fun G ρ O B σ H u v Q s hx hy k => by
  cases hx; cases hy
  exact ⟨x, y, rfl, rfl, hz, k _ B H s (Same.refl B) (.str _)⟩
end
end Bid

namespace Bid
open PySem PySem.Spec PyProof.Rows L2
section
variable {X : Cx} {G : Gd} {ρ : Ro} {O O1 O2 O3 : Ow} {e a b c : Expr} {d da db dc : D} {pos : Pos}
theorem wk_range {K : Frg} {B : Hp} (n : Int) : Wk K (Itr 0 n.toNat) B (rngD n) := by
  have hl : (rngD n).length = n.toNat := by unfold rngD; rw [List.length_map, List.length_range]
  refine ⟨fun i H hi _ => by rw [hl] at hi; exact hi, fun H _ => by rw [hl]; exact Nat.le_refl _, fun i d B' H x H' hd _ _ y => ?_⟩
  obtain ⟨e1, e2⟩ := y
  subst e1 e2
  refine ⟨B', ?_, .inl ⟨rfl, rfl⟩⟩
  have hi : i < n.toNat := by rw [← hl]; exact (List.getElem?_eq_some_iff.mp hd).1
  unfold rngD at hd
  rw [List.getElem?_map, List.getElem?_range hi] at hd
  have hd' : PyData.int (i : Int) = d := Option.some.inj hd
  rw [← hd', Int.zero_add]
  exact .int _
theorem di_range {n : Int} {tg : Expr} {p : Pos} (hm : X.mg "range" = none) (ha : DE X G ρ O a O1 (.int n)) (h1 : n ≤ 100000 := by omega) (h0 : 0 ≤ n := by omega) (hg : Gl X "range" := by rfl) (na : starEach [a] X.env = [(false, eval a X.env)] := by rfl) : DI X G ρ O tg (.Call (.Name "range" p) [a] [] pos) O1 (rngD n) :=
  PIw (pi_range1 hg hm (pa_cons ha pa_nil na) na) fun σ H R ⟨B, s, k⟩ => ⟨B, s, fun v B1 H1 s1 e1 h => by
    cases h
    exact ⟨n, rfl, by omega, by omega, k _ B1 H1 s1 e1 (wk_range n)⟩⟩
theorem wk_list {K : Frg} {B : Hp} {p : Addr} {xs : List V} {ds : List D} (hq : SqL K B p xs) (hd : DpAll K B xs ds) : Wk K (Itl K p) B ds := by
  have hl := dpl_length hd
  refine ⟨fun i H hi e => ?_, fun H e => ⟨xs, same_l e hq, by omega⟩, fun i d B' H x H' hi e1 e2 y => ?_⟩
  · exact ⟨xs, xs[i]'(by omega), same_l e hq, List.getElem?_eq_getElem _⟩
  · obtain ⟨q, f⟩ := y
    subst q
    obtain ⟨v, h1, h2⟩ := dpl_get (dpAll_mono e1 _ _ hd) hi
    have := f xs (same_l (e1.trans e2) hq)
    rw [h1] at this
    cases this
    exact ⟨B', h2, .inl ⟨rfl, rfl⟩⟩
theorem wk_tup {K : Frg} {B : Hp} {p : Addr} {xs : List V} {ds : List D} (hq : SqT K B p xs) (hd : DpAll K B xs ds) : Wk K (Itt K p) B ds := by
  have hl := dpl_length hd
  refine ⟨fun i H hi e => ?_, fun H e => ⟨xs, same_t e hq, by omega⟩, fun i d B' H x H' hi e1 e2 y => ?_⟩
  · exact ⟨xs, xs[i]'(by omega), same_t e hq, List.getElem?_eq_getElem _⟩
  · obtain ⟨q, f⟩ := y
    subst q
    obtain ⟨v, h1, h2⟩ := dpl_get (dpAll_mono e1 _ _ hd) hi
    have := f xs (same_t (e1.trans e2) hq)
    rw [h1] at this
    cases this
    exact ⟨B', h2, .inl ⟨rfl, rfl⟩⟩
theorem di_list {ds : List D} {tg : Expr} (ha : DE X G ρ O a O1 (.list ds)) : DI X G ρ O tg a O1 ds := PIw (pi_list ha) fun σ H R ⟨B, s, k⟩ => ⟨B, s, fun v B1 H1 s1 e1 h => by
  cases h with
  | @lst p xs _ hq hd => exact ⟨p, rfl, ⟨xs, same_l s1.bh hq⟩, k _ B1 H1 s1 e1 (wk_list hq hd)⟩⟩
theorem di_tup {ds : List D} {tg : Expr} (ha : DE X G ρ O a O1 (.tuple ds)) : DI X G ρ O tg a O1 ds := PIw (pi_tup ha) fun σ H R ⟨B, s, k⟩ => ⟨B, s, fun v B1 H1 s1 e1 h => by
  cases h with
  | @tup p xs _ hq hd => exact ⟨p, rfl, ⟨xs, same_t s1.bh hq⟩, k _ B1 H1 s1 e1 (wk_tup hq hd)⟩⟩
/-- the signs of a text -/
def sgnD (z : Str) : List D := z.cps.toList.map fun c => .str ⟨#[c]⟩
theorem di_str {z : Str} {tg : Expr} (ha : DE X G ρ O a O1 (.str z)) : DI X G ρ O tg a O1 (sgnD z) := PIw (pi_str ha) fun σ H R ⟨B, s, k⟩ => ⟨B, s, fun v B1 H1 s1 e1 h => by
  cases h
  have hl : (sgnD z).length = z.cps.size := by unfold sgnD; rw [List.length_map, Array.length_toList]
  refine ⟨z, rfl, k _ B1 H1 s1 e1 ⟨fun i H hi _ => by rw [hl] at hi; exact hi, fun H _ => by rw [hl]; exact Nat.le_refl _, fun i d B' H x H' hd _ _ y => ?_⟩⟩
  obtain ⟨q, c, h1, h2⟩ := y
  subst q h2
  unfold sgnD at hd
  rw [List.getElem?_map, Array.getElem?_toList, h1] at hd
  have hd' : PyData.str ⟨#[c]⟩ = d := Option.some.inj hd
  rw [← hd']
  exact ⟨B', .str _, .inl ⟨rfl, rfl⟩⟩⟩
/-- zip of two tuples -/
theorem getElem?_zipWith' {α β γ : Type} (f : α → β → γ) (xs : List α) (ys : List β) (i : Nat) {z : γ} (h : (List.zipWith f xs ys)[i]? = some z) : ∃ x y, xs[i]? = some x ∧ ys[i]? = some y ∧ f x y = z := by
  rw [List.getElem?_zipWith] at h
  cases e1 : xs[i]? with
  | none => rw [e1] at h; cases h
  | some x =>
    cases e2 : ys[i]? with
    | none => rw [e1, e2] at h; cases h
    | some y =>
      rw [e1, e2] at h
      exact ⟨x, y, rfl, rfl, Option.some.inj h⟩
theorem pair_new {B H : Hp} {p : Addr} {x y : V} {dx dy : D} (hp : B p = none) (hx : Dp X.K B x dx) (hy : Dp X.K B y dy) : Dp X.K (upd B p (.tup [x, y])) (.ref p) (.tuple [dx, dy]) :=
  .tup (.inl (.inl upd_same)) (.cons (dp_mono (same_upd hp) _ _ hx) (.cons (dp_mono (same_upd hp) _ _ hy) .nil))
theorem none_of_same {B H : Hp} {p : Addr} (e : Same B H) (h : H p = none) : B p = none := by
  cases q : B p with
  | none => rfl
  | some o =>
    have := e p o q
    rw [h] at this
    cases this
theorem wk_zipT {B : Hp} {p q : Addr} {xs ys : List V} {ds es : List D} (hq : SqT X.K B p xs) (hd : DpAll X.K B xs ds) (hq2 : SqT X.K B q ys) (hd2 : DpAll X.K B ys es) : Wk X.K (RZ.ItzT X.K p q) B (List.zipWith (fun x y => .tuple [x, y]) ds es) := by
  have hl := dpl_length hd
  have hl2 := dpl_length hd2
  refine ⟨fun i H hi e => ?_, fun H e => ⟨xs, ys, same_t e hq, same_t e hq2, by rw [List.length_zipWith]; omega⟩, fun i d B' H x H' hi e1 e2 y => ?_⟩
  · rw [List.length_zipWith] at hi
    exact ⟨xs, ys, xs[i]'(by omega), ys[i]'(by omega), same_t e hq, same_t e hq2, List.getElem?_eq_getElem _, List.getElem?_eq_getElem _⟩
  · obtain ⟨T, x1, x2, rfl, nT, rfl, f1, f2⟩ := y
    obtain ⟨d1, d2, g1, g2, g3⟩ := getElem?_zipWith' _ _ _ _ hi
    obtain ⟨v, h1, h2⟩ := dpl_get (dpAll_mono e1 _ _ hd) g1
    obtain ⟨v', h1', h2'⟩ := dpl_get (dpAll_mono e1 _ _ hd2) g2
    have q1 := f1 xs (same_t (e1.trans e2) hq)
    have q2 := f2 ys (same_t (e1.trans e2) hq2)
    rw [h1] at q1
    rw [h1'] at q2
    cases q1
    cases q2
    rw [← g3]
    exact ⟨_, pair_new (H := H) (none_of_same e2 nT) h2 h2', .inr ⟨T, _, nT, rfl, rfl⟩⟩
theorem di_zipT {ds es : List D} {elts : List Expr} {kk : Nat} {p tpos : Pos} (hm : X.mg "zip" = none) (ha : DE X G ρ O a O1 (.tuple ds)) (hb : DE X G ρ O1 b O2 (.tuple es)) (hg : Gl X "zip" := by rfl) (na : starEach [a, b] X.env = (false, eval a X.env) :: starEach [b] X.env := by rfl) (nb : starEach [b] X.env = (false, eval b X.env) :: starEach [] X.env := by rfl)
    (hpl : (backTo pos (starEach [b] X.env)).any (·.1) = false := by rfl) : DI X G ρ O (.Tuple elts kk tpos) (.Call (.Name "zip" p) [a, b] [] pos) O2 (List.zipWith (fun x y => .tuple [x, y]) ds es) :=
  PIw (RZ.pi_zipA hg hm (pa_cons ha (pa_cons hb pa_nil nb) na) na hpl) fun σ H R ⟨B, s, k⟩ => ⟨B, s, fun v B1 H1 s1 e1 h1 => ⟨B1, s1, fun u B2 H2 s2 e2 h2 => by
    cases h1 with
    | @tup p xs _ hq hd =>
      cases h2 with
      | @tup q ys _ hq2 hd2 =>
        exact ⟨p, q, xs, ys, rfl, .inr ⟨same_t s2.bh (same_t e2 hq), same_t s2.bh hq2, k _ B2 H2 s2 (e1.trans e2) (wk_zipT (same_t e2 hq) (dpAll_mono e2 _ _ hd) hq2 hd2)⟩⟩⟩⟩
theorem SS.freezeL {P : Program} {w : World} {K : Frg} {G : Gd} {ρ : Ro} {O : Ow} {B H : Hp} {σ : L2.St} {p : Addr} {ds : List D} (s : SS P w K G ρ ((p, .lst ds) :: O) B σ H) (hn : G.H p = none) : ∃ B', SS P w K G ρ O B' σ H ∧ Same B B' ∧ Dp K B' (.ref p) (.list ds) := by
  obtain ⟨hb, xs, hx, hd⟩ := s.own _ (List.mem_cons_self ..)
  have nd := s.nd
  rw [List.map_cons, List.nodup_cons] at nd
  refine ⟨upd B p (.lst xs), ⟨fun x o e => ?_, s.bb.trans (same_upd hb), s.hh, s.there, fun x o e => ?_, s.env.mono (same_upd hb), fun q hq => ?_, nd.2, fun q hq => s.mo q (List.mem_cons_of_mem _ hq)⟩, same_upd hb, .lst (.inl (.inl upd_same)) (dpAll_mono (same_upd hb) _ _ hd)⟩
  · by_cases h : x = p
    · subst h
      rw [upd_same] at e
      cases e
      exact hx
    · rw [upd_ne h] at e
      exact s.bh x o e
  · rw [upd_ne (ne_of_none e hn)]
    exact s.ag x o e
  · have ne : q.1 ≠ p := fun z => nd.1 (List.mem_map.mpr ⟨q, hq, z⟩)
    obtain ⟨h1, h2⟩ := s.own q (List.mem_cons_of_mem _ hq)
    exact ⟨by rw [upd_ne ne]; exact h1, h2.mono (same_upd hb) fun _ z => z⟩
abbrev DTs (X : Cx) (G : Gd) (ρ : Ro) (O : Ow) (es : List Expr) (O' : Ow) (k : Bool) : Prop := PTs X es (tT X.prog X.w X.K G ρ O O' k)
theorem dts_nil : DTs X G ρ O [] O true := ⟨fun pins s σ H Q I ⟨B, q, k⟩ => pts_nil.run pins s σ H Q I (k B H q (Same.refl B))⟩
theorem dts_one {k : Bool} (h : DT X G ρ O c O1 k) : DTs X G ρ O [c] O1 k := pts_one h
/-- any reading that some datum gives -/
def teU (X : Cx) (G : Gd) (scope : Scope) (elt : Expr) : TE := fun σ H Q => ∃ ρ O O' d, (∀ (s : Shared) (H0 : Hp) (C : Addr) (cl : List (Str × Addr)) (fp : List Addr), DE (X.blk s H0 scope (compEnvC scope cl C X.env) fp) G ρ O elt O' d) ∧ tE X.prog X.w X.K G ρ O O' d σ H Q
def ttU (X : Cx) (G : Gd) (scope : Scope) (ifs : List Expr) : TT := fun σ H Q => ∃ ρ O O' k, (∀ (s : Shared) (H0 : Hp) (C : Addr) (cl : List (Str × Addr)) (fp : List Addr), DTs (X.blk s H0 scope (compEnvC scope cl C X.env) fp) G ρ O ifs O' k) ∧ tT X.prog X.w X.K G ρ O O' k σ H Q
theorem teU_ok {scope : Scope} {elt : Expr} (s : Shared) (H : Hp) (C : Addr) (cl : List (Str × Addr)) (fp : List Addr) : PE (X.blk s H scope (compEnvC scope cl C X.env) fp) elt (teU X G scope elt) :=
  ⟨fun pins s' σ H' Q I ⟨ρ, O, O', d, h, q⟩ => (h s H C cl fp).run pins s' σ H' Q I q⟩
theorem ttU_ok {scope : Scope} {ifs : List Expr} (s : Shared) (H : Hp) (C : Addr) (cl : List (Str × Addr)) (fp : List Addr) : PTs (X.blk s H scope (compEnvC scope cl C X.env) fp) ifs (ttU X G scope ifs) :=
  ⟨fun pins s' σ H' Q I ⟨ρ, O, O', d, h, q⟩ => (h s H C cl fp).run pins s' σ H' Q I q⟩
/-- what a comprehension's target does: g upon ini a, over the wiped slots, leaves slots of ρt a -/
structure TgOk (P : Program) (w : World) (K : Frg) (G : Gd) (g : TG) (vs : List Nat) (ρ : Ro) {α : Type} (ini : α → D) (ρt : α → Ro) : Prop where
  ok : ∀ (a : α) (σ : L2.St) (v : V) (O : Ow) (B H : Hp) (R : L2.St → Hp → Prop), Env K B σ ρ → SS P w K G [] O B [] H → Dp K B v (ini a) → (∀ σ2, wipe σ2 vs = wipe σ vs → Env K B σ2 (ρt a) → R σ2 H) → g v (wipe σ vs) H R
theorem env_nil {K : Frg} {B : Hp} : Env K B [] [] := ⟨rfl, fun i s h => by simp at h⟩
theorem lc_read {α : Type} {xs : List α} {inj : α → D} {f : α → Bool} {g : α → D} {tg : TG} {vs : List Nat} {ρt : α → Ro} {scope : Scope} {elt : Expr} {ifs : List Expr} {wi : TI} (hc : ∀ σ H R, tI X.prog X.w X.K G ρ O O1 (xs.map inj) σ H R → wi σ H R)
    (ht : TgOk X.prog X.w X.K G tg vs ρ inj ρt)
    (hf : ∀ a ∈ xs, ∀ (O : Ow) (s : Shared) (H0 : Hp) (C : Addr) (cl : List (Str × Addr)) (fp : List Addr), DTs (X.blk s H0 scope (compEnvC scope cl C X.env) fp) G (ρt a) O ifs O (f a))
    (he : ∀ a ∈ xs, f a = true → ∀ (O : Ow) (s : Shared) (H0 : Hp) (C : Addr) (cl : List (Str × Addr)) (fp : List Addr), DE (X.blk s H0 scope (compEnvC scope cl C X.env) fp) G (ρt a) O elt O (g a)) (hz : xs.length ≤ 100000) :
    ∀ σ H Q, tE X.prog X.w X.K G ρ O O1 (.list ((xs.filter f).map g)) σ H Q → tLc wi tg (ttU X G scope ifs) (teU X G scope elt) vs σ H Q := fun σ H Q ⟨B, s, k⟩ => hc σ H _ ⟨B, s, fun J B1 H1 s1 e1 hw Dd hD => by
  refine ⟨fun i m H2 => ∃ B2, SS X.prog X.w X.K G ρ ((Dd, .lst (((xs.take i).filter f).map g)) :: O1) B2 σ H2 ∧ Same B1 B2 ∧ m = xs.length - i ∧ i ≤ xs.length, ⟨xs.length, B1, s1.owned hD ⟨[], upd_same, .nil⟩, Same.refl B1, rfl, Nat.zero_le _⟩, ?_⟩
  rintro i m H2 ⟨B2, s2, e2, rfl, hi⟩
  have hl : (xs.map inj).length = xs.length := List.length_map ..
  by_cases hlt : i < xs.length
  · refine .inr ⟨hw.go i H2 (by rw [hl]; exact hlt) (e2.trans s2.bh), fun H3 => ∃ B3, SS X.prog X.w X.K G ρ ((Dd, .lst (((xs.take (i + 1)).filter f).map g)) :: O1) B3 σ H3 ∧ Same B1 B3, fun H' ⟨B3, s3, e3⟩ => ⟨xs.length - (i + 1), by omega, B3, s3, e3, rfl, hlt⟩, fun x H3 y => ?_⟩
    have ha : xs[i]? = some xs[i] := List.getElem?_eq_getElem hlt
    obtain ⟨B3, hx, hnew⟩ := hw.yld i (inj xs[i]) B2 H2 x H3 (by rw [List.getElem?_map, ha]; rfl) e2 s2.bh y
    have s3 : SS X.prog X.w X.K G ρ ((Dd, .lst (((xs.take i).filter f).map g)) :: O1) B3 σ H3 ∧ Same B2 B3 := by
      rcases hnew with ⟨q1, q2⟩ | ⟨p, o, hp, q1, q2⟩
      · subst q1 q2
        exact ⟨s2, Same.refl _⟩
      · subst q1 q2
        exact ⟨s2.laid hp, same_upd (s2.fresh_b hp)⟩
    obtain ⟨s3, e3⟩ := s3
    have hmem : xs[i] ∈ xs := List.getElem_mem hlt
    have htk : xs.take (i + 1) = xs.take i ++ [xs[i]] := by rw [List.take_add_one, ha]; rfl
    refine ht.ok xs[i] σ x _ B3 H3 _ s3.env (s3.slots env_nil) hx fun σ2 hw2 he2 => ⟨hw2, _, _, _, _, hf xs[i] hmem _, B3, s3.slots he2, fun B4 H4 s4 e4 => ?_⟩
    cases hfa : f xs[i] with
    | false =>
      show ∃ B3, _
      refine ⟨B4, ?_, (e2.trans e3).trans e4⟩
      rw [htk, List.filter_append, List.filter_cons_of_neg (by rw [hfa]; decide), List.filter_nil, List.append_nil]
      exact s4.slots (s3.env.mono e4)
    | true =>
      show teU X G scope elt σ2 H4 _
      refine ⟨_, _, _, _, he xs[i] hmem hfa _, B4, s4, fun y B5 H5 s5 e5 hy => ?_⟩
      obtain ⟨_, acc, hacc, hdp⟩ := s5.own _ (List.mem_cons_self ..)
      refine ⟨acc, hacc, ?_, B5, ?_, ((e2.trans e3).trans e4).trans e5⟩
      · have l1 := dpl_length hdp
        rw [List.length_map] at l1
        have l2 := List.length_filter_le f (xs.take i)
        rw [List.length_take] at l2
        rw [sizeLine_eq]
        omega
      · have s6 := (s5.slots (s3.env.mono (e4.trans e5))).wrote (o := .lst (acc ++ [y])) (c := .lst (((xs.take (i + 1)).filter f).map g)) (List.mem_cons_self ..) ⟨acc ++ [y], upd_same, by
          rw [htk, List.filter_append, List.map_append, List.filter_cons_of_pos hfa]
          exact dpl_app hdp (.cons hy .nil)⟩
        have e7 : setO ((Dd, OC.lst (((xs.take i).filter f).map g)) :: O1) Dd (.lst (((xs.take (i + 1)).filter f).map g)) = (Dd, .lst (((xs.take (i + 1)).filter f).map g)) :: O1 := by
          have nd := s5.nd
          rw [List.map_cons, List.nodup_cons] at nd
          unfold setO
          rw [List.map_cons, if_pos rfl]
          congr 1
          have : ∀ p ∈ O1, (fun p : Addr × OC => if p.1 = Dd then (Dd, OC.lst (((xs.take (i + 1)).filter f).map g)) else p) p = p := fun p hp => if_neg fun z => nd.1 (List.mem_map.mpr ⟨p, hp, z⟩)
          rw [List.map_congr_left this, List.map_id']
        rw [e7] at s6
        exact s6
  · have e : i = xs.length := by omega
    subst e
    refine .inl ⟨by have := hw.stop H2 (e2.trans s2.bh); rw [hl] at this; exact this, ?_⟩
    rw [List.take_length] at s2
    obtain ⟨B3, s3, e3, hd⟩ := s2.freezeL (s1.fresh_h hD)
    exact k _ B3 H2 s3 ((e1.trans e2).trans e3) hd⟩
theorem set_none_set {α : Type} {σ : List (Option α)} {j : Nat} {v : Option α} : (σ.set j none).set j v = σ.set j v := List.set_set ..
/-- a name -/
theorem tg_name {P : Program} {w : World} {K : Frg} {G : Gd} {ρ : Ro} {α : Type} (j : Nat) (inj : α → D) : TgOk P w K G (gName j) [j] ρ inj fun a => ρ.set j (some (.d (inj a))) := ⟨fun a σ v O B H R he hs hd k => by
  refine k _ ?_ ?_
  · show (((σ.set j none).set j (some v)).set j none) = σ.set j none
    rw [List.set_set, List.set_set]
  · show Env K B ((σ.set j none).set j (some v)) _
    rw [set_none_set]
    exact he.set j (s := .d (inj a)) hd⟩
theorem tg_pair {P : Program} {w : World} {K : Frg} {G : Gd} {ρ : Ro} {α : Type} {i j : Nat} (hij : i ≠ j) (f g : α → D) : TgOk P w K G (gTup K 2 (gCons (gName i) (gCons (gName j) gNil))) [i, j] ρ (fun a => .tuple [f a, g a]) fun a => (ρ.set i (some (.d (f a)))).set j (some (.d (g a))) := ⟨fun a σ v O B H R he hs hd k => by
  cases hd with
  | @tup p xs _ hq hd =>
    cases hd with
    | @cons v1 _ _ _ h1 hd =>
      cases hd with
      | @cons v2 _ _ _ h2 hd =>
        cases hd
        refine ⟨p, _, rfl, same_t hs.bh hq, rfl, v1, _, rfl, v2, _, rfl, rfl, ?_⟩
        refine k _ ?_ ?_
        · show ((((((σ.set j none).set i none).set i (some v1)).set j (some v2)).set j none).set i none) = (σ.set j none).set i none
          rw [List.set_set, List.set_comm (i := i) (j := j) _ _ hij, List.set_set, List.set_comm (i := j) (j := i) _ _ (Ne.symm hij), List.set_set, List.set_comm (i := i) (j := j) _ _ hij, List.set_set]
        · show Env K B ((((σ.set j none).set i none).set i (some v1)).set j (some v2)) _
          rw [List.set_set, List.set_comm (i := i) (j := j) _ _ hij, List.set_set, List.set_comm (i := j) (j := i) _ _ (Ne.symm hij)]
          exact (he.set i (s := .d (f a)) h1).set j (s := .d (g a)) h2⟩
end
end Bid

namespace Bid
open PySem PySem.Spec PyProof.Rows L2
section
variable {X : Cx} {G : Gd} {ρ : Ro} {O O1 O2 O3 : Ow} {e a b c : Expr} {d da db dc : D} {pos : Pos}
abbrev CompF (X : Cx) (G : Gd) (scope : Scope) (ifs : List Expr) {α : Type} (xs : List α) (ρt : α → Ro) (f : α → Bool) : Prop :=
  ∀ a ∈ xs, ∀ (O : Ow) (s : Shared) (H0 : Hp) (C : Addr) (cl : List (Str × Addr)) (fp : List Addr), DTs (X.blk s H0 scope (compEnvC scope cl C X.env) fp) G (ρt a) O ifs O (f a)
abbrev CompE (X : Cx) (G : Gd) (scope : Scope) (elt : Expr) {α : Type} (xs : List α) (ρt : α → Ro) (f : α → Bool) (g : α → D) : Prop :=
  ∀ a ∈ xs, f a = true → ∀ (O : Ow) (s : Shared) (H0 : Hp) (C : Addr) (cl : List (Str × Addr)) (fp : List Addr), DE (X.blk s H0 scope (compEnvC scope cl C X.env) fp) G (ρt a) O elt O (g a)
abbrev CompG (X : Cx) (scope : Scope) (tg : Expr) (g : TG) : Prop := ∀ (s : Shared) (H : Hp) (C : Addr) (cl : List (Str × Addr)) (fp : List Addr), PG (X.blk s H scope (compEnvC scope cl C X.env) fp) tg g
/-- [elt for x in iter if ..], x in slot j -/
theorem de_lc {α : Type} {xs : List α} (inj : α → D) (f : α → Bool) (g : α → D) (j : Nat) {x : Str} {elt iter : Expr} {ifs : List Expr} {scope : Scope} {p : Pos} (hi : DI X G ρ O (.Name x p) iter O1 (xs.map inj))
    (hf : CompF X G scope ifs xs (fun a => ρ.set j (some (.d (inj a)))) f) (he : CompE X G scope elt xs (fun a => ρ.set j (some (.d (inj a)))) f g) (hz : xs.length ≤ 100000)
    (hN : X.N.Nodup) (ok : BlkOk X.N X.env.scope scope [(x, j)] := by exact blkOk_by (by kernel_rfl)) (hg : CompG X scope (.Name x p) (gName j) := by exact fun _ _ _ _ _ => pg_name (by assumption) rfl (by first | exact Or.inl rfl | exact Or.inr rfl)) (hc : X.calm = true := by rfl)
    (hs : ∀ y, foldedSetIterable iter X.env y = pure y := by intro _; rfl) : DE X G ρ O (.ListComp elt [⟨.Name x p, iter, ifs, 0⟩] scope pos) O1 (.list ((xs.filter f).map g)) :=
  PEw (pe_lc hc hN hi ok hg (fun s H C cl fp => ttU_ok (G := G) s H C cl fp) (fun s H C cl fp => teU_ok (G := G) s H C cl fp) hs) (lc_read (fun _ _ _ h => h) (tg_name j inj) hf he hz)
theorem de_lc0 {α : Type} {xs : List α} (inj : α → D) (g : α → D) (j : Nat) {x : Str} {elt iter : Expr} {scope : Scope} {p : Pos} (hi : DI X G ρ O (.Name x p) iter O1 (xs.map inj))
    (he : CompE X G scope elt xs (fun a => ρ.set j (some (.d (inj a)))) (fun _ => true) g) (hz : xs.length ≤ 100000)
    (hN : X.N.Nodup) (ok : BlkOk X.N X.env.scope scope [(x, j)] := by exact blkOk_by (by kernel_rfl)) (hg : CompG X scope (.Name x p) (gName j) := by exact fun _ _ _ _ _ => pg_name (by assumption) rfl (by first | exact Or.inl rfl | exact Or.inr rfl)) (hc : X.calm = true := by rfl)
    (hs : ∀ y, foldedSetIterable iter X.env y = pure y := by intro _; rfl) : DE X G ρ O (.ListComp elt [⟨.Name x p, iter, [], 0⟩] scope pos) O1 (.list (xs.map g)) :=
  de_is (de_lc inj (fun _ => true) g j hi (fun _ _ _ _ _ _ _ _ => dts_nil) he hz hN ok hg hc hs) (by rw [List.filter_eq_self.mpr fun _ _ => rfl])
/-- .. over pairs, x in slot i, y in slot j -/
theorem de_lcP {α : Type} {xs : List α} (fi fj : α → D) (f : α → Bool) (g : α → D) (i j : Nat) {x y : Str} {elt iter : Expr} {ifs : List Expr} {scope : Scope} {p p2 tp : Pos} {tk : Nat} (hi : DI X G ρ O (.Tuple [.Name x p, .Name y p2] tk tp) iter O1 (xs.map fun a => .tuple [fi a, fj a]))
    (hf : CompF X G scope ifs xs (fun a => (ρ.set i (some (.d (fi a)))).set j (some (.d (fj a)))) f) (he : CompE X G scope elt xs (fun a => (ρ.set i (some (.d (fi a)))).set j (some (.d (fj a)))) f g) (hz : xs.length ≤ 100000)
    (hN : X.N.Nodup) (hij : i ≠ j := by decide) (ok : BlkOk X.N X.env.scope scope [(x, i), (y, j)] := by exact blkOk_by (by kernel_rfl))
    (hg : CompG X scope (.Tuple [.Name x p, .Name y p2] tk tp) (gTup X.K 2 (gCons (gName i) (gCons (gName j) gNil))) := by exact fun _ _ _ _ _ => pg_tup rfl (pgs_cons (pg_name (by assumption) rfl (by first | exact Or.inl rfl | exact Or.inr rfl)) (pgs_cons (pg_name (by assumption) rfl (by first | exact Or.inl rfl | exact Or.inr rfl)) pgs_nil))) (hc : X.calm = true := by rfl)
    (hs : ∀ y, foldedSetIterable iter X.env y = pure y := by intro _; rfl) : DE X G ρ O (.ListComp elt [⟨.Tuple [.Name x p, .Name y p2] tk tp, iter, ifs, 0⟩] scope pos) O1 (.list ((xs.filter f).map g)) :=
  PEw (pe_lc hc hN hi ok hg (fun s H C cl fp => ttU_ok (G := G) s H C cl fp) (fun s H C cl fp => teU_ok (G := G) s H C cl fp) hs) (lc_read (fun _ _ _ h => h) (tg_pair hij fi fj) hf he hz)
end
inductive Oc where
  | nx (ρ : Ro) (O : Ow)
  | rt (d : Sl) (O : Ow)
  | bk (ρ : Ro) (O : Ow)
  | ct (ρ : Ro) (O : Ow)
def tS (P : Program) (w : World) (K : Frg) (G : Gd) (ρ : Ro) (O : Ow) (Φ : Oc → Prop) : TS := fun Dn σ H => ∃ B, SS P w K G ρ O B σ H ∧
  (∀ ρ' O' B' σ' H', Φ (.nx ρ' O') → SS P w K G ρ' O' B' σ' H' → Same B B' → Dn.nx σ' H') ∧ (∀ d ρ' O' B' σ' H' v, Φ (.rt d O') → SS P w K G ρ' O' B' σ' H' → Same B B' → SlR K B' v d → Dn.rt v H') ∧
  (∀ ρ' O' B' σ' H', Φ (.bk ρ' O') → SS P w K G ρ' O' B' σ' H' → Same B B' → Dn.bk σ' H') ∧ (∀ ρ' O' B' σ' H', Φ (.ct ρ' O') → SS P w K G ρ' O' B' σ' H' → Same B B' → Dn.ct σ' H')
abbrev DS (X : Cx) (G : Gd) (ρ : Ro) (O : Ow) (st : Stmt) (Φ : Oc → Prop) : Prop := PS X st (tS X.prog X.w X.K G ρ O Φ)
abbrev DSs (X : Cx) (G : Gd) (ρ : Ro) (O : Ow) (st : List Stmt) (Φ : Oc → Prop) : Prop := PSs X st (tS X.prog X.w X.K G ρ O Φ)
/-- a statement, then the rest -/
@[reducible] def seqO (X : Cx) (G : Gd) (rest : List Stmt) (Φ : Oc → Prop) : Oc → Prop
  | .nx ρ O => DSs X G ρ O rest Φ
  | .rt d O => Φ (.rt d O)
  | .bk ρ O => Φ (.bk ρ O)
  | .ct ρ O => Φ (.ct ρ O)
section
variable {X : Cx} {G : Gd} {ρ : Ro} {O O1 O2 O3 : Ow} {e a b c : Expr} {d da db dc : D} {pos : Pos} {Φ Ψ : Oc → Prop} {st : Stmt} {rest : List Stmt}
theorem tS_mono (h : ∀ o, Φ o → Ψ o) : ∀ Dn σ H, tS X.prog X.w X.K G ρ O Ψ Dn σ H → tS X.prog X.w X.K G ρ O Φ Dn σ H := fun Dn σ H ⟨B, s, k1, k2, k3, k4⟩ =>
  ⟨B, s, fun a b c d e q => k1 a b c d e (h _ q), fun a b c d e f g q => k2 a b c d e f g (h _ q), fun a b c d e q => k3 a b c d e (h _ q), fun a b c d e q => k4 a b c d e (h _ q)⟩
theorem ds_mono (q : DS X G ρ O st Φ) (h : ∀ o, Φ o → Ψ o) : DS X G ρ O st Ψ := PSw q (tS_mono h)
theorem dss_mono (q : DSs X G ρ O rest Φ) (h : ∀ o, Φ o → Ψ o) : DSs X G ρ O rest Ψ := PSsw q (tS_mono h)
theorem ds_nil (h : Φ (.nx ρ O)) : DSs X G ρ O [] Φ := PSsw pss_nil fun Dn σ H ⟨B, s, k1, _⟩ => k1 _ _ B σ H h s (Same.refl B)
theorem ds_one (h : DS X G ρ O st Φ) : DSs X G ρ O [st] Φ := pss_one h
/-- any reading of a block that some post gives -/
def tsU (X : Cx) (G : Gd) (body : List Stmt) : TS := fun Dn σ H => ∃ ρ O Φ, DSs X G ρ O body Φ ∧ tS X.prog X.w X.K G ρ O Φ Dn σ H
theorem tsU_ok {body : List Stmt} : PSs X body (tsU X G body) := ⟨fun pins s σ H Dn I ⟨ρ, O, Φ, h, q⟩ => h.run pins s σ H Dn I q⟩
theorem tS_from {B B0 : Hp} {σ : L2.St} {H : Hp} {Dn : Ends} (e : Same B B0) (s : SS X.prog X.w X.K G ρ O B0 σ H) (k1 : ∀ ρ' O' B' σ' H', Φ (.nx ρ' O') → SS X.prog X.w X.K G ρ' O' B' σ' H' → Same B B' → Dn.nx σ' H') (k2 : ∀ d ρ' O' B' σ' H' v, Φ (.rt d O') → SS X.prog X.w X.K G ρ' O' B' σ' H' → Same B B' → SlR X.K B' v d → Dn.rt v H')
    (k3 : ∀ ρ' O' B' σ' H', Φ (.bk ρ' O') → SS X.prog X.w X.K G ρ' O' B' σ' H' → Same B B' → Dn.bk σ' H') (k4 : ∀ ρ' O' B' σ' H', Φ (.ct ρ' O') → SS X.prog X.w X.K G ρ' O' B' σ' H' → Same B B' → Dn.ct σ' H') : tS X.prog X.w X.K G ρ O Φ Dn σ H :=
  ⟨B0, s, fun a b c d f q r t => k1 a b c d f q r (e.trans t), fun a b c d f g h q r t => k2 a b c d f g h q r (e.trans t), fun a b c d f q r t => k3 a b c d f q r (e.trans t), fun a b c d f q r t => k4 a b c d f q r (e.trans t)⟩
theorem ds_cons (h : DS X G ρ O st (seqO X G rest Φ)) : DSs X G ρ O (st :: rest) Φ := PSsw (pss_cons h (tsU_ok (G := G))) fun Dn σ H ⟨B, s, k1, k2, k3, k4⟩ =>
  ⟨B, s, fun ρ' O' B' σ' H' q s' e' => ⟨ρ', O', Φ, q, tS_from e' s' k1 k2 k3 k4⟩, fun d ρ' O' B' σ' H' v q s' hd => k2 d ρ' O' B' σ' H' v q s' hd, fun ρ' O' B' σ' H' q s' => k3 ρ' O' B' σ' H' q s', fun ρ' O' B' σ' H' q s' => k4 ρ' O' B' σ' H' q s'⟩
/-- name = e -/
theorem ds_set (i : Nat) {x : Str} {p : Pos} (he : DE X G ρ O e O1 d) (k : Φ (.nx (ρ.set i (some (.d d))) O1)) (hN : X.N.Nodup) (hi : X.N[i]? = some x := by rfl) (hx : Loc X.env.scope x := by first | exact Or.inl rfl | exact Or.inr rfl)
    (hs : swapsWith e (some (.Name x p)) pos.line X.env = pure false := by rfl) (hf : X.fn x = true ∨ X.env.scope.names.lookup x = some .local := by first | exact .inl rfl | exact .inr rfl) : DS X G ρ O (.Assign [.Name x p] e pos) Φ :=
  PSw (ps_set hN hi hx he hs hf) fun Dn σ H ⟨B, s, k1, _⟩ => ⟨B, s, fun v B1 H1 s1 e1 h1 => k1 _ _ B1 _ H1 k (s1.setd i h1) e1⟩
/-- name = [..], a comprehension -/
theorem ds_lc {α : Type} {xs : List α} (i : Nat) (inj : α → D) (f : α → Bool) (g : α → D) (j : Nat) {x y : Str} {elt iter : Expr} {ifs : List Expr} {scope : Scope} {p py spos : Pos} (hi : DI X G ρ O (.Name x p) iter O1 (xs.map inj))
    (hf : CompF X G scope ifs xs (fun a => ρ.set j (some (.d (inj a)))) f) (he : CompE X G scope elt xs (fun a => ρ.set j (some (.d (inj a)))) f g) (hz : xs.length ≤ 100000) (k : Φ (.nx (ρ.set i (some (.d (.list ((xs.filter f).map g))))) O1))
    (hN : X.N.Nodup) (hy : X.N[i]? = some y := by rfl) (hyl : X.env.scope.names.lookup y = some .local := by rfl) (hsw : swapsWith (.ListComp elt [⟨.Name x p, iter, ifs, 0⟩] scope pos) (some (.Name y py)) spos.line X.env = pure true := by exact sw_true rfl rfl rfl (by decide +kernel))
    (ok : BlkOk X.N X.env.scope scope [(x, j)] := by exact blkOk_by (by kernel_rfl)) (hg : CompG X scope (.Name x p) (gName j) := by exact fun _ _ _ _ _ => pg_name (by assumption) rfl (by first | exact Or.inl rfl | exact Or.inr rfl)) (hc : X.calm = true := by rfl)
    (hs : ∀ y, foldedSetIterable iter X.env y = pure y := by intro _; rfl) : DS X G ρ O (.Assign [.Name y py] (.ListComp elt [⟨.Name x p, iter, ifs, 0⟩] scope pos) spos) Φ :=
  PSw (ps_setLc hc hN hy hyl hsw hi ok hg (fun s H C cl fp => ttU_ok (G := G) s H C cl fp) (fun s H C cl fp => teU_ok (G := G) s H C cl fp) hs) fun Dn σ H ⟨B, s, k1, _⟩ =>
    lc_read (fun _ _ _ h => h) (tg_name j inj) hf he hz σ H _ ⟨B, s, fun v B1 H1 s1 e1 h1 => k1 _ _ B1 _ H1 k (s1.setd i h1) e1⟩
theorem ds_lc0 {α : Type} {xs : List α} (i : Nat) (inj : α → D) (g : α → D) (j : Nat) {x y : Str} {elt iter : Expr} {scope : Scope} {p py spos : Pos} (hi : DI X G ρ O (.Name x p) iter O1 (xs.map inj))
    (he : CompE X G scope elt xs (fun a => ρ.set j (some (.d (inj a)))) (fun _ => true) g) (hz : xs.length ≤ 100000) (k : Φ (.nx (ρ.set i (some (.d (.list (xs.map g))))) O1))
    (hN : X.N.Nodup) (hy : X.N[i]? = some y := by rfl) (hyl : X.env.scope.names.lookup y = some .local := by rfl) (hsw : swapsWith (.ListComp elt [⟨.Name x p, iter, [], 0⟩] scope pos) (some (.Name y py)) spos.line X.env = pure true := by exact sw_true rfl rfl rfl (by decide +kernel))
    (ok : BlkOk X.N X.env.scope scope [(x, j)] := by exact blkOk_by (by kernel_rfl)) (hg : CompG X scope (.Name x p) (gName j) := by exact fun _ _ _ _ _ => pg_name (by assumption) rfl (by first | exact Or.inl rfl | exact Or.inr rfl)) (hc : X.calm = true := by rfl)
    (hs : ∀ y, foldedSetIterable iter X.env y = pure y := by intro _; rfl) : DS X G ρ O (.Assign [.Name y py] (.ListComp elt [⟨.Name x p, iter, [], 0⟩] scope pos) spos) Φ :=
  ds_lc i inj (fun _ => true) g j hi (fun _ _ _ _ _ _ _ _ => dts_nil) he hz (by rw [List.filter_eq_self.mpr fun _ _ => rfl]; exact k) hN hy hyl hsw ok hg hc hs
/-- a, b = e -/
theorem ds_set2 (i j : Nat) {x y : Str} {p p2 tp : Pos} {tk : Nat} {d1 d2 : D} (he : DE X G ρ O e O1 (.tuple [d1, d2])) (k : Φ (.nx ((ρ.set i (some (.d d1))).set j (some (.d d2))) O1)) (hN : X.N.Nodup)
    (hg : PG X (.Tuple [.Name x p, .Name y p2] tk tp) (gTup X.K 2 (gCons (gName i) (gCons (gName j) gNil))) := by exact pg_tup rfl (pgs_cons (pg_name (by assumption) rfl (by first | exact Or.inl rfl | exact Or.inr rfl)) (pgs_cons (pg_name (by assumption) rfl (by first | exact Or.inl rfl | exact Or.inr rfl)) pgs_nil)))
    (hs : swapsWithSole [.Tuple [.Name x p, .Name y p2] tk tp] e pos.line X.env = pure false := by rfl) (hw : swappedStores [.Tuple [.Name x p, .Name y p2] tk tp] e X.env = pure none := by rfl) (h1 : (assignEach [Expr.Tuple [.Name x p, .Name y p2] tk tp] X.env).map (·.2) = [assign (.Tuple [.Name x p, .Name y p2] tk tp) X.env] := by rfl) :
    DS X G ρ O (.Assign [.Tuple [.Name x p, .Name y p2] tk tp] e pos) Φ :=
  PSw (ps_asg he hg hs hw h1) fun Dn σ H ⟨B, s, k1, _⟩ => ⟨B, s, fun v B1 H1 s1 e1 h => by
    cases h with
    | @tup q xs _ hq hd =>
      cases hd with
      | @cons v1 _ _ _ r1 hd =>
        cases hd with
        | @cons v2 _ _ _ r2 hd =>
          cases hd
          exact ⟨q, _, rfl, same_t s1.bh hq, rfl, v1, _, rfl, v2, _, rfl, rfl, k1 _ _ B1 _ H1 k ((s1.setd i r1).setd j r2) e1⟩⟩
theorem ds_ret (he : DE X G ρ O e O1 d) (k : Φ (.rt (.d d) O1)) : DS X G ρ O (.Return (some e) pos) Φ := PSw (ps_ret he) fun Dn σ H ⟨B, s, _, k2, _⟩ => ⟨B, s, fun v B1 H1 s1 e1 h1 => k2 _ _ _ B1 _ H1 v k s1 e1 h1⟩
theorem ds_if {k : Bool} {as bs : List Stmt} (hc : DT X G ρ O c O1 k) (h1 : k = true → DSs X G ρ O1 as Φ) (h2 : k = false → DSs X G ρ O1 bs Φ) : DS X G ρ O (.If c as bs pos) Φ := by
  cases k with
  | true => exact PSw (ps_if hc (tsU_ok (G := G)) (tsU_ok (G := G))) fun Dn σ H ⟨B, s, k1, k2, k3, k4⟩ => ⟨B, s, fun B1 H1 s1 e1 => iteT ⟨_, _, _, h1 rfl, tS_from e1 s1 k1 k2 k3 k4⟩⟩
  | false => exact PSw (ps_if hc (tsU_ok (G := G)) (tsU_ok (G := G))) fun Dn σ H ⟨B, s, k1, k2, k3, k4⟩ => ⟨B, s, fun B1 H1 s1 e1 => iteF ⟨_, _, _, h2 rfl, tS_from e1 s1 k1 k2 k3 k4⟩⟩
/-- an expression whose value is dropped -/
theorem ds_expr (he : DE X G ρ O e O1 d) (k : Φ (.nx ρ O1)) (hs : swapsWith e none pos.line X.env = pure false := by rfl) : DS X G ρ O (.Expr e pos) Φ := PSw (ps_expr he hs) fun Dn σ H ⟨B, s, k1, _⟩ => ⟨B, s, fun v B1 H1 s1 e1 h1 => k1 _ _ B1 _ H1 k s1 e1⟩
/-- name = [], {} -/
theorem ds_newL (i : Nat) {x : Str} {p lp : Pos} (k : ∀ q, Φ (.nx (ρ.set i (some (.own q))) ((q, .lst []) :: O))) (hN : X.N.Nodup) (hi : X.N[i]? = some x := by rfl) (hx : Loc X.env.scope x := by first | exact Or.inl rfl | exact Or.inr rfl)
    (hs : swapsWith (.List [] lp) (some (.Name x p)) pos.line X.env = pure false := by rfl) (hf : X.fn x = true ∨ X.env.scope.names.lookup x = some .local := by first | exact .inl rfl | exact .inr rfl) : DS X G ρ O (.Assign [.Name x p] (.List [] lp) pos) Φ :=
  PSw (ps_set hN hi hx (pe_lst pa_nil) hs hf) fun Dn σ H ⟨B, s, k1, _⟩ => ⟨Nat.zero_le _, fun q hq => k1 _ _ B _ _ (k q) ((s.owned (c := .lst []) hq ⟨[], upd_same, .nil⟩).set i rfl) (Same.refl B)⟩
theorem ds_newD (i : Nat) {x : Str} {p lp : Pos} (k : ∀ q, Φ (.nx (ρ.set i (some (.own q))) ((q, .dK []) :: O))) (hN : X.N.Nodup) (hi : X.N[i]? = some x := by rfl) (hx : Loc X.env.scope x := by first | exact Or.inl rfl | exact Or.inr rfl)
    (hs : swapsWith (.Dict [] [] lp) (some (.Name x p)) pos.line X.env = pure false := by rfl) (hf : X.fn x = true ∨ X.env.scope.names.lookup x = some .local := by first | exact .inl rfl | exact .inr rfl) : DS X G ρ O (.Assign [.Name x p] (.Dict [] [] lp) pos) Φ :=
  PSw (ps_set hN hi hx pe_dnewK hs hf) fun Dn σ H ⟨B, s, k1, _⟩ => fun q hq => k1 _ _ B _ _ (k q) ((s.owned (c := .dK []) hq ⟨[], upd_same, .nil⟩).set i rfl) (Same.refl B)
/-- an owned thing by its name -/
theorem pe_own (i : Nat) {x : Str} {o : Addr} {p : Pos} (hr : ρ[i]? = some (some (.own o))) (hN : X.N[i]? = some x) (hv : Vis X.env.scope x) (hd : (x == ("__debug__" : Str)) = false) (hcd : (x == ("__classdict__" : Str)) = false) :
    PE X (.Name x p) (fun σ H Q => (∃ O B, SS X.prog X.w X.K G ρ O B σ H) ∧ Q (.ref o) H) := PEw (pe_var hN hv hd hcd) fun σ H Q ⟨⟨O, B, s⟩, q⟩ => by
  obtain ⟨v, h1, h2⟩ := s.env.at_ i _ hr
  cases h2
  exact ⟨_, h1, q⟩
/-- xs.append(e) -/
theorem ds_app (i : Nat) {x : Str} {o : Addr} {ds : List D} {p ap cp : Pos} (he : DE X G ρ O e O1 d) (h0 : (o, OC.lst ds) ∈ O) (ho : (o, OC.lst ds) ∈ O1) (hz : ds.length < 100000) (k : Φ (.nx ρ (setO O1 o (.lst (ds ++ [d]))))) (hr : ρ[i]? = some (some (.own o)) := by rfl) (hN : X.N[i]? = some x := by rfl)
    (hv : Vis X.env.scope x := by first | exact Or.inl rfl | exact Or.inr (Or.inl rfl) | exact Or.inr (Or.inr rfl)) (hd : (x == ("__debug__" : Str)) = false := by decide) (hcd : (x == ("__classdict__" : Str)) = false := by decide)
    (hbase : attributeBase (.Name x p) "append" X.env (eval (.Name x p) X.env) = eval (.Name x p) X.env := by rfl)
    (hfew : ((backTo cp (starEach [e] X.env)).all (fun x => !x.1) && (backToKw cp (keywordEach [] X.env)).all (fun x => x.1.isSome) && decide ([e].length + ([] : List Keyword).length + (if ([] : List Keyword).isEmpty then 0 else 1) < 30)) = true := by rfl)
    (hline : (ap.endLine == cp.line) = true := by rfl) (hs : starEach [e] X.env = (false, eval e X.env) :: starEach [] X.env := by rfl) (hplain : (backTo cp (starEach [] X.env)).any (·.1) = false := by rfl)
    (hsw : swapsWith (.Call (.Attribute (.Name x p) "append" ap) [e] [] cp) none pos.line X.env = pure false := by rfl) : DS X G ρ O (.Expr (.Call (.Attribute (.Name x p) "append" ap) [e] [] cp) pos) Φ :=
  PSw (ps_expr (pe_bm PySem.F.plainAttrs_list PySem.F.slot_list_append PySem.F.type_list_append mt_append (pe_own (G := G) i hr hN hv hd hcd) (pa_cons he pa_nil hs) hbase hfew hline hs hplain) hsw) fun Dn σ H ⟨B, s, k1, _⟩ => by
    obtain ⟨_, ys, hy, hdy⟩ := s.own _ h0
    refine ⟨⟨O, B, s⟩, .inl ⟨rfl, ys, .inl (.inl hy)⟩, B, s, fun v B1 H1 s1 e1 h1 => ?_⟩
    obtain ⟨_, zs, hq, hdz⟩ := s1.own _ ho
    have hl := dpl_length hdz
    refine ⟨o, zs, v, rfl, rfl, hq, by rw [sizeLine_eq]; omega, ?_⟩
    exact k1 _ _ B1 _ _ k (s1.wrote (c := .lst (ds ++ [d])) ho ⟨_, upd_same, dpl_app hdz (.cons h1 .nil)⟩) e1
/-- xs[i] = e, an owned list -/
theorem ds_setIx (i : Nat) {x : Str} {o : Addr} {ds : List D} {n : Int} {j : Nat} {p sp : Pos} {ix : Expr} (he : DE X G ρ O e O1 d) (hix : DE X G ρ O1 ix O2 (.int n)) (ho : (o, OC.lst ds) ∈ O2) (hj : ixN ds.length n = some j) (k : Φ (.nx ρ (setO O2 o (.lst (ds.set j d))))) (hr : ρ[i]? = some (some (.own o)) := by rfl) (hN : X.N[i]? = some x := by rfl)
    (hv : Vis X.env.scope x := by first | exact Or.inl rfl | exact Or.inr (Or.inl rfl) | exact Or.inr (Or.inr rfl)) (hd : (x == ("__debug__" : Str)) = false := by decide) (hcd : (x == ("__classdict__" : Str)) = false := by decide)
    (ha : ∀ v, assign (.Subscript (.Name x p) ix sp) X.env v = (do
      let ov ← holding [v] (eval (.Name x p) X.env)
      let iv ← holding [v, ov] (eval ix X.env)
      standAt sp
      holding [v, ov, iv] (setItem ov iv v)
      release [v, ov, iv] []) := by intro _; rfl)
    (hs : swapsWithSole [.Subscript (.Name x p) ix sp] e pos.line X.env = pure false := by rfl) (hw : swappedStores [.Subscript (.Name x p) ix sp] e X.env = pure none := by rfl) (h1 : (assignEach [Expr.Subscript (.Name x p) ix sp] X.env).map (·.2) = [assign (.Subscript (.Name x p) ix sp) X.env] := by rfl) :
    DS X G ρ O (.Assign [.Subscript (.Name x p) ix sp] e pos) Φ :=
  PSw (ps_asg he (pg_sub (pe_own (G := G) i hr hN hv hd hcd) hix set_list ha) hs hw h1) fun Dn σ H ⟨B, s, k1, _⟩ => ⟨B, s, fun v B1 H1 s1 e1 hv1 => ⟨⟨O1, B1, s1⟩, B1, s1, fun u B2 H2 s2 e2 hu => by
    cases hu
    obtain ⟨_, zs, hq, hdz⟩ := s2.own _ ho
    refine ⟨o, zs, n, j, rfl, rfl, hq, by rw [dpl_length hdz]; exact hj, ?_⟩
    exact k1 _ _ B2 _ _ k (s2.wrote (c := .lst (ds.set j d)) ho ⟨_, upd_same, dpl_set (dp_mono e2 _ _ hv1) j hdz⟩) (e1.trans e2)⟩⟩
/-- for x in iter: body -/
@[reducible] def loopO (Inv : Ro → Ow → Prop) (Φ : Oc → Prop) : Oc → Prop
  | .nx ρ O => Inv ρ O
  | .ct ρ O => Inv ρ O
  | .bk ρ O => Φ (.nx ρ O)
  | .rt d O => Φ (.rt d O)
theorem for_read {α : Type} {xs : List α} {inj : α → D} {tg : TG} {ρt : Ro → α → Ro} {body : List Stmt} {wi : TI} (Iv : Nat → Ro → Ow → Prop) (hc : ∀ σ H R, tI X.prog X.w X.K G ρ O O1 (xs.map inj) σ H R → wi σ H R)
    (ht : ∀ (a : α) (ρ : Ro) (σ : L2.St) (v : V) (O : Ow) (B H : Hp) (R : L2.St → Hp → Prop), SS X.prog X.w X.K G ρ O B σ H → Dp X.K B v (inj a) → (∀ σ2, SS X.prog X.w X.K G (ρt ρ a) O B σ2 H → R σ2 H) → tg v σ H R)
    (h0 : Iv 0 ρ O1) (hs : ∀ i a ρ' O', xs[i]? = some a → Iv i ρ' O' → DSs X G (ρt ρ' a) O' body (loopO (Iv (i + 1)) Φ)) (hd : ∀ ρ' O', Iv xs.length ρ' O' → Φ (.nx ρ' O')) :
    ∀ Dn σ H, tS X.prog X.w X.K G ρ O Φ Dn σ H → tFor wi tg (tsU X G body) Dn σ H := fun Dn σ H ⟨B, s, k1, k2, k3, k4⟩ => hc σ H _ ⟨B, s, fun J B1 H1 s1 e1 hw => by
  refine ⟨fun i m σ2 H2 => ∃ ρ2 O2 B2, SS X.prog X.w X.K G ρ2 O2 B2 σ2 H2 ∧ Iv i ρ2 O2 ∧ Same B1 B2 ∧ m = xs.length - i ∧ i ≤ xs.length, ⟨xs.length, ρ, O1, B1, s1, h0, Same.refl _, rfl, Nat.zero_le _⟩, ?_⟩
  rintro i m σ2 H2 ⟨ρ2, O2, B2, s2, iv, e2, rfl, hi⟩
  have hl : (xs.map inj).length = xs.length := List.length_map ..
  by_cases hlt : i < xs.length
  · have ha : xs[i]? = some xs[i] := List.getElem?_eq_getElem hlt
    refine .inr ⟨hw.go i H2 (by rw [hl]; exact hlt) (e2.trans s2.bh), fun σ3 H3 => ∃ ρ3 O3 B3, SS X.prog X.w X.K G ρ3 O3 B3 σ3 H3 ∧ Iv (i + 1) ρ3 O3 ∧ Same B1 B3, fun σ' H' ⟨ρ3, O3, B3, s3, iv3, e3⟩ => ⟨xs.length - (i + 1), by omega, ρ3, O3, B3, s3, iv3, e3, rfl, hlt⟩, fun x H3 y => ?_⟩
    obtain ⟨B3, hx, hnew⟩ := hw.yld i (inj xs[i]) B2 H2 x H3 (by rw [List.getElem?_map, ha]; rfl) e2 s2.bh y
    have s3 : SS X.prog X.w X.K G ρ2 O2 B3 σ2 H3 ∧ Same B2 B3 := by
      rcases hnew with ⟨q1, q2⟩ | ⟨p, o, hp, q1, q2⟩
      · subst q1 q2
        exact ⟨s2, Same.refl _⟩
      · subst q1 q2
        exact ⟨s2.laid hp, same_upd (s2.fresh_b hp)⟩
    obtain ⟨s3, e3⟩ := s3
    refine ht xs[i] ρ2 σ2 x O2 B3 H3 _ s3 hx fun σ3 s4 => ⟨_, _, _, hs i xs[i] ρ2 O2 ha iv, B3, s4, fun ρ5 O5 B5 σ5 H5 q s5 e5 => ⟨ρ5, O5, B5, s5, q, (e2.trans e3).trans e5⟩, fun d ρ5 O5 B5 σ5 H5 v q s5 e5 hd5 => k2 d ρ5 O5 B5 σ5 H5 v q s5 (((e1.trans e2).trans e3).trans e5) hd5, fun ρ5 O5 B5 σ5 H5 q s5 e5 => k1 ρ5 O5 B5 σ5 H5 q s5 (((e1.trans e2).trans e3).trans e5), fun ρ5 O5 B5 σ5 H5 q s5 e5 => ⟨ρ5, O5, B5, s5, q, (e2.trans e3).trans e5⟩⟩
  · have e : i = xs.length := by omega
    subst e
    exact .inl ⟨by have := hw.stop H2 (e2.trans s2.bh); rw [hl] at this; exact this, k1 _ _ B2 _ H2 (hd _ _ iv) s2 (e1.trans e2)⟩⟩
theorem ds_for {α : Type} {xs : List α} (inj : α → D) (j : Nat) {x : Str} {iter : Expr} {body : List Stmt} {p : Pos} (Iv : Nat → Ro → Ow → Prop) (hi : DI X G ρ O (.Name x p) iter O1 (xs.map inj)) (h0 : Iv 0 ρ O1)
    (hs : ∀ i a ρ' O', xs[i]? = some a → Iv i ρ' O' → DSs X G (ρ'.set j (some (.d (inj a)))) O' body (loopO (Iv (i + 1)) Φ)) (hd : ∀ ρ' O', Iv xs.length ρ' O' → Φ (.nx ρ' O')) (hN : X.N.Nodup)
    (hg : PG X (.Name x p) (gName j) := by exact pg_name (by assumption) rfl (by first | exact Or.inl rfl | exact Or.inr rfl)) (hp : PassesOwn (model X.prog X.w) X.A X.env X.xe := by exact PassesOwn.never) (hc : X.calm = true := by rfl) (hfs : ∀ y, foldedSetIterable iter X.env y = pure y := by intro _; rfl) : DS X G ρ O (.For (.Name x p) iter body [] pos) Φ :=
  PSw (ps_for hp hc hi hg (tsU_ok (G := G)) hfs) (for_read (ρt := fun ρ a => ρ.set j (some (.d (inj a)))) Iv (fun _ _ _ h => h) (fun a ρ σ v O B H R s hd k => k _ (s.setd j hd)) h0 hs hd)
theorem ds_forP {α : Type} {xs : List α} (fi fj : α → D) (i j : Nat) {x y : Str} {iter : Expr} {body : List Stmt} {p p2 tp : Pos} {tk : Nat} (Iv : Nat → Ro → Ow → Prop) (hi : DI X G ρ O (.Tuple [.Name x p, .Name y p2] tk tp) iter O1 (xs.map fun a => .tuple [fi a, fj a])) (h0 : Iv 0 ρ O1)
    (hs : ∀ t a ρ' O', xs[t]? = some a → Iv t ρ' O' → DSs X G ((ρ'.set i (some (.d (fi a)))).set j (some (.d (fj a)))) O' body (loopO (Iv (t + 1)) Φ)) (hd : ∀ ρ' O', Iv xs.length ρ' O' → Φ (.nx ρ' O')) (hN : X.N.Nodup)
    (hg : PG X (.Tuple [.Name x p, .Name y p2] tk tp) (gTup X.K 2 (gCons (gName i) (gCons (gName j) gNil))) := by exact pg_tup rfl (pgs_cons (pg_name (by assumption) rfl (by first | exact Or.inl rfl | exact Or.inr rfl)) (pgs_cons (pg_name (by assumption) rfl (by first | exact Or.inl rfl | exact Or.inr rfl)) pgs_nil)))
    (hp : PassesOwn (model X.prog X.w) X.A X.env X.xe := by exact PassesOwn.never) (hc : X.calm = true := by rfl) (hfs : ∀ y, foldedSetIterable iter X.env y = pure y := by intro _; rfl) : DS X G ρ O (.For (.Tuple [.Name x p, .Name y p2] tk tp) iter body [] pos) Φ :=
  PSw (ps_for hp hc hi hg (tsU_ok (G := G)) hfs) (for_read (ρt := fun ρ a => (ρ.set i (some (.d (fi a)))).set j (some (.d (fj a)))) Iv (fun _ _ _ h => h) (fun a ρ σ v O B H R s hd k => by
    cases hd with
    | @tup q xs _ hq hd =>
      cases hd with
      | @cons v1 _ _ _ r1 hd =>
        cases hd with
        | @cons v2 _ _ _ r2 hd =>
          cases hd
          exact ⟨q, _, rfl, same_t s.bh hq, rfl, v1, _, rfl, v2, _, rfl, rfl, k _ ((s.setd i r1).setd j r2)⟩) h0 hs hd)
end
def startR (N : List Str) (ss : List Sl) : Ro := ss.map some ++ List.replicate (N.length - ss.length) none
theorem paired_len {α β : Type} {F : α → β → Prop} : ∀ {l : List α} {m : List β}, Paired F l m → l.length = m.length
  | _, _, .nil => rfl
  | _, _, .cons _ t => congrArg (· + 1) (paired_len t)
theorem paired_get {α β : Type} {F : α → β → Prop} : ∀ {l : List α} {m : List β} {i : Nat} {b : β}, Paired F l m → m[i]? = some b → ∃ a, l[i]? = some a ∧ F a b
  | _, _, _, _, .nil, e => by simp at e
  | _, _, 0, _, .cons r _, e => by simp at e; subst e; exact ⟨_, rfl, r⟩
  | _, _, i + 1, b, .cons _ t, e => by
    obtain ⟨v, h1, h2⟩ := paired_get (i := i) t (by simpa using e)
    exact ⟨v, by simpa using h1, h2⟩
theorem env_start {K : Frg} {B : Hp} {N : List Str} {vs : List V} {ss : List Sl} (r : Paired (SlR K B) vs ss) : Env K B (L2.start N vs) (startR N ss) := by
  have hl := paired_len r
  refine ⟨by unfold startR L2.start; simp only [List.length_append, List.length_map, List.length_replicate, hl], fun i s h => ?_⟩
  unfold startR at h
  unfold L2.start
  by_cases hi : i < ss.length
  · rw [List.getElem?_append_left (by rw [List.length_map]; exact hi), List.getElem?_map] at h
    rw [List.getElem?_append_left (by rw [List.length_map]; omega), List.getElem?_map]
    cases q : ss[i]? with
    | none => rw [q] at h; cases h
    | some s' =>
      rw [q] at h
      cases h
      obtain ⟨v, h1, h2⟩ := paired_get r q
      exact ⟨v, by rw [h1]; rfl, h2⟩
  · rw [List.getElem?_append_right (by rw [List.length_map]; omega), List.getElem?_replicate] at h
    split at h
    · cases h
    · cases h
/-- what a def's body is to end with -/
@[reducible] def retO (r : D) (O' : Ow) : Oc → Prop
  | .rt d O => d = .d r ∧ ∀ p ∈ O', p ∈ O
  | _ => False
section
variable {P : Program} {w : World} {K : Frg} {mg : Str → Option Value} {base : Heap} {f : Addr} {fd : FuncData}
abbrev bodyX (P : Program) (w : World) (K : Frg) (mg : Str → Option Value) (base : Heap) (N : List Str) (qual : Str) (scope : Scope) (f : Addr) (cdv : Value) (A : Around) (outer : List PySem.Env) (s : Shared) (H : Hp) (E : XK) : Cx := (cxOf CX0 P w K mg base N qual scope f cdv A outer s H E).nox
theorem fn_R {name qual : Str} {params : Arguments} {body : List Stmt} {scope : Scope} {N ps : List Str} {k : Nat} {R : Rel} (F : FunD K name qual params body scope [] [] f fd) (S : FnScope N ps scope) (len : ∀ ss O r O', R ss O r O' → ss.length = ps.length)
    (hb : ∀ (cdv : Value) (A : Around) (outer : List PySem.Env) (s : Shared) (H : Hp) (E : XK) (G : Gd) (ss : List Sl) (O O' : Ow) (r : D), Room k (A.deeper (envOfC qual scope s.heap.objs.size f cdv)) → R ss O r O' →
      DSs (bodyX P w K mg base N qual scope f cdv A outer s H E) G (startR N ss) O body (retO r O')) : FnOk P w K mg base CX0 (k + 1) f fd ps (spR P w K R) := by
  refine F.ok S (fun vs H Q E h => ?_) (fun cdv A outer s H vs Q E hr h => ?_)
  · obtain ⟨B, ss, O, r, O', hp, hR, _⟩ := h
    rw [paired_len hp, len _ _ _ _ hR]
  · obtain ⟨B, ss, O, r, O', hp, hR, hbh, ho, hnd, q⟩ := h
    refine ⟨_, PSs.nox (hb cdv A outer s H E ⟨O.map (·.1), B, H⟩ ss O O' r hr hR), B, ⟨hbh, Same.refl B, fun _ _ _ e => e, fun _ o e => ⟨o, e⟩, fun _ _ _ => rfl, env_start hp, ho, hnd, fun p hp => .inl (List.mem_map.mpr ⟨p, hp, rfl⟩)⟩, fun ρ' O2 B' σ' H' h => h.elim, fun d ρ' O2 B' σ' H' v h s' e' hd => ?_, fun ρ' O2 B' σ' H' h => h.elim, fun ρ' O2 B' σ' H' h => h.elim⟩
    obtain ⟨h1, h2⟩ := h
    subst h1
    exact q v B' H' (s'.rt h2) hd
end
end Bid

namespace Bid
open PySem PySem.Spec PyProof.Rows L2
section
variable {X : Cx} {G : Gd} {ρ : Ro} {O O1 O2 O3 : Ow} {e a b c : Expr} {d da db dc : D} {pos : Pos} {Φ Ψ : Oc → Prop}
/-- tuple(xs), xs owned -/
theorem de_tupleO (i : Nat) {x : Str} {o : Addr} {ds : List D} {p px : Pos} (ho : (o, OC.lst ds) ∈ O) (hm : X.mg "tuple" = none) (hr : ρ[i]? = some (some (.own o)) := by rfl) (hN : X.N[i]? = some x := by rfl) (hv : Vis X.env.scope x := by first | exact Or.inl rfl | exact Or.inr (Or.inl rfl) | exact Or.inr (Or.inr rfl))
    (hd : (x == ("__debug__" : Str)) = false := by decide) (hcd : (x == ("__classdict__" : Str)) = false := by decide) (hg : Gl X "tuple" := by rfl) (he : starEach [Expr.Name x px] X.env = (false, eval (.Name x px) X.env) :: starEach [] X.env := by rfl) : DE X G ρ O (.Call (.Name "tuple" p) [.Name x px] [] pos) O (.tuple ds) :=
  PEw (pe_tupleOf hg hm (pe_own (G := G) i hr hN hv hd hcd) he) fun σ H Q ⟨B, s, k⟩ => by
    obtain ⟨_, xs, hx, hdx⟩ := s.own _ ho
    refine ⟨⟨O, B, s⟩, .inl ⟨o, xs, rfl, .inl (.inl hx), fun q hq0 => ?_⟩⟩
    exact k _ _ _ (s.laid hq0) (same_upd (s.fresh_b hq0)) (.tup (.inl (.inl upd_same)) (dpAll_mono (same_upd (s.fresh_b hq0)) _ _ hdx))
/-- x in xs, xs owned -/
theorem dt_inO (i : Nat) {x : Str} {o : Addr} {ds : List D} {px : Pos} (ho : (o, OC.lst ds) ∈ O1) (h1 : flatD da = true) (h2 : ds.all flatD = true) (ha : DE X G ρ O a O1 da) (hr : ρ[i]? = some (some (.own o)) := by rfl) (hN : X.N[i]? = some x := by rfl) (hv : Vis X.env.scope x := by first | exact Or.inl rfl | exact Or.inr (Or.inl rfl) | exact Or.inr (Or.inr rfl))
    (hd : (x == ("__debug__" : Str)) = false := by decide) (hcd : (x == ("__classdict__" : Str)) = false := by decide) (hm : behindInMarks .In (.Name x px) = false := by rfl) : DT X G ρ O (.Compare a [.In] [.Name x px] pos) O1 (inD da ds) :=
  PTw (pt_cmpR op_in_seq ha (pe_own (G := G) i hr hN hv hd hcd) hm) fun σ H Q ⟨B, s, k⟩ => ⟨B, s, fun v B1 H1 s1 e1 h => by
    obtain ⟨_, xs, hx, hdx⟩ := s1.own _ ho
    refine ⟨⟨O1, B1, s1⟩, o, xs, rfl, .inl (.inl (.inl hx)), flat_dp h h1, flat_all hdx h2, inD da ds, ?_, k B1 H1 s1 e1⟩
    show V.bl (if false = true then !inV v xs else inV v xs) = _
    rw [if_neg Bool.false_ne_true, inD_dp h h1 hdx h2]⟩
end
end Bid

namespace Bid
open PySem PySem.Spec PyProof.Rows L2
section
variable {κ : Type} [DecidableEq κ] {α : Type}
def valD (kvs : List (κ × α)) (k : κ) : Option α := (kvs.find? fun kv => decide (kv.1 = k)).map (·.2)
def putD (kvs : List (κ × α)) (k : κ) (v : α) : List (κ × α) :=
  if (valD kvs k).isSome = true then kvs.map (fun kv => if kv.1 = k then (kv.1, v) else kv) else kvs ++ [(k, v)]
theorem valD_nil {k : κ} : valD ([] : List (κ × α)) k = none := rfl
theorem valD_pos {p : κ × α} {r : List (κ × α)} {k : κ} (e : p.1 = k) : valD (p :: r) k = some p.2 := by simp [valD, List.find?_cons, e]
theorem valD_neg {p : κ × α} {r : List (κ × α)} {k : κ} (e : ¬ p.1 = k) : valD (p :: r) k = valD r k := by simp [valD, List.find?_cons, e]
theorem valD_map (k j : κ) (y : α) : ∀ kvs : List (κ × α), valD (kvs.map fun kv => if kv.1 = k then (kv.1, y) else kv) j = (valD kvs j).map fun x => if j = k then y else x
  | [] => rfl
  | p :: r => by
    rw [List.map_cons]
    by_cases e : p.1 = j
    · have e1 : (if p.1 = k then (p.1, y) else p).1 = j := by split <;> exact e
      rw [valD_pos e1, valD_pos e]
      by_cases h : p.1 = k
      · rw [if_pos h]
        show some y = some (if j = k then y else p.2)
        rw [if_pos (e.symm.trans h)]
      · rw [if_neg h]
        show some p.2 = some (if j = k then y else p.2)
        rw [if_neg fun z => h (e.trans z)]
    · have e1 : ¬ (if p.1 = k then (p.1, y) else p).1 = j := by split <;> exact e
      rw [valD_neg e1, valD_neg e]
      exact valD_map k j y r
theorem valD_snoc (k j : κ) (y : α) : ∀ kvs : List (κ × α), valD kvs k = none → valD (kvs ++ [(k, y)]) j = if j = k then some y else valD kvs j
  | [], _ => by
    by_cases h : j = k
    · rw [if_pos h, List.nil_append, valD_pos (h.symm : (k, y).1 = j)]
    · rw [if_neg h, List.nil_append, valD_neg (fun z => h z.symm : ¬ (k, y).1 = j)]
  | p :: r, hn => by
    rw [List.cons_append]
    by_cases e : p.1 = k
    · rw [valD_pos e] at hn
      cases hn
    · rw [valD_neg e] at hn
      by_cases e2 : p.1 = j
      · rw [valD_pos e2, valD_pos e2, if_neg fun z => e (e2.trans z)]
      · rw [valD_neg e2, valD_neg e2]
        exact valD_snoc k j y r hn
theorem valD_put (kvs : List (κ × α)) (k j : κ) (y : α) : valD (putD kvs k y) j = if j = k then some y else valD kvs j := by
  unfold putD
  split
  · rename_i h
    rw [valD_map]
    by_cases e : j = k
    · subst e
      rw [if_pos rfl]
      cases q : valD kvs j with
      | none => rw [q] at h; cases h
      | some x =>
        show some (if j = j then y else x) = some y
        rw [if_pos rfl]
    · rw [if_neg e]
      cases q : valD kvs j with
      | none => rfl
      | some x =>
        show some (if j = k then y else x) = some x
        rw [if_neg e]
  · rename_i h
    refine valD_snoc k j y kvs ?_
    cases q : valD kvs k with
    | none => rfl
    | some x => rw [q] at h; exact (h rfl).elim
theorem len_putD (kvs : List (κ × α)) (k : κ) (v : α) : (putD kvs k v).length ≤ kvs.length + 1 := by
  unfold putD
  split
  · rw [List.length_map]; omega
  · rw [List.length_append, List.length_cons, List.length_nil]; omega
theorem mem_putD {kvs : List (κ × α)} {k : κ} {v : α} {p : κ × α} (h : p ∈ putD kvs k v) : p ∈ kvs ∨ p = (k, v) := by
  unfold putD at h
  split at h
  · obtain ⟨q, hq, e⟩ := List.mem_map.mp h
    by_cases hk : q.1 = k
    · rw [if_pos hk] at e
      exact .inr (by rw [← e, hk])
    · rw [if_neg hk] at e
      exact .inl (e ▸ hq)
  · rcases List.mem_append.mp h with q | q
    · exact .inl q
    · exact .inr (List.mem_singleton.mp q)
theorem valD_mem {kvs : List (κ × α)} {k : κ} {v : α} (h : valD kvs k = some v) : (k, v) ∈ kvs := by
  unfold valD at h
  obtain ⟨p, hp, e⟩ := Option.map_eq_some_iff.mp h
  have h1 := List.mem_of_find?_eq_some hp
  have h2 := List.find?_some hp
  have h3 : p.1 = k := of_decide_eq_true h2
  rw [← e, ← h3]
  exact h1
end
abbrev PKd (K : Frg) (B : Hp) : List (Key × V) → List (Int × D) → Prop := Paired fun (p : Key × V) (q : Int × D) => p.1 = Sum.inl q.1 ∧ Dp K B p.2 q.2
theorem pk_val {K : Frg} {B : Hp} {n : Int} : ∀ {vs : List (Key × V)} {kvs : List (Int × D)}, PKd K B vs kvs → (valV vs (Sum.inl n : Key)).isSome = (valD kvs n).isSome ∧ ∀ d, valD kvs n = some d → ∃ v, valV vs (Sum.inl n : Key) = some v ∧ Dp K B v d
  | _, _, .nil => ⟨rfl, fun d h => by cases h⟩
  | _, _, .cons (a := p) (b := q) r t => by
    obtain ⟨h1, h2⟩ := r
    by_cases e : q.1 = n
    · have e1 : p.1 = (Sum.inl n : Key) := by rw [h1, e]
      rw [valV_pos e1, valD_pos e]
      exact ⟨rfl, fun d h => ⟨p.2, rfl, by cases h; exact h2⟩⟩
    · have e1 : ¬ p.1 = (Sum.inl n : Key) := fun z => e (Sum.inl.inj (h1.symm.trans z))
      rw [valV_neg e1, valD_neg e]
      exact pk_val t
theorem pk_put {K : Frg} {B : Hp} {n : Int} {v : V} {d : D} {vs : List (Key × V)} {kvs : List (Int × D)} (r : PKd K B vs kvs) (h : Dp K B v d) : PKd K B (putK vs (Sum.inl n : Key) v) (putD kvs n d) := by
  have hv := (pk_val (n := n) r).1
  unfold putK putD
  rw [valV_any, hv]
  split
  · rename_i hh
    clear hv hh
    induction r with
    | nil => exact .nil
    | @cons p q _ _ r t ih =>
      rw [List.map_cons, List.map_cons]
      refine .cons ?_ ih
      by_cases e : q.1 = n
      · rw [if_pos e, if_pos (show p.1 = (Sum.inl n : Key) by rw [r.1, e])]
        exact ⟨r.1, h⟩
      · rw [if_neg e, if_neg (fun z => e (Sum.inl.inj (r.1.symm.trans z)))]
        exact r
  · have : ∀ {a : List (Key × V)} {b : List (Int × D)} {c : List (Key × V)} {e : List (Int × D)}, PKd K B a b → PKd K B c e → PKd K B (a ++ c) (b ++ e) := by
      intro a b c e x y
      induction x with
      | nil => exact y
      | cons r _ ih => exact .cons r ih
    exact this r (.cons ⟨rfl, h⟩ .nil)
section
variable {X : Cx} {G : Gd} {ρ : Ro} {O O1 O2 O3 : Ow} {e a b c : Expr} {d da db dc : D} {pos : Pos} {Φ Ψ : Oc → Prop}
theorem dt_dnot (i : Nat) {k : Nat} {x : Str} {o : Addr} {kvs : List (Int × D)} {n : Int} {px : Pos} (hr : Room k X.A) (ho : (o, OC.dK kvs) ∈ O1) (ha : DE X G ρ O a O1 (.int n)) (hs : ρ[i]? = some (some (.own o)) := by rfl) (hN : X.N[i]? = some x := by rfl) (hv : Vis X.env.scope x := by first | exact Or.inl rfl | exact Or.inr (Or.inl rfl) | exact Or.inr (Or.inr rfl))
    (hd : (x == ("__debug__" : Str)) = false := by decide) (hcd : (x == ("__classdict__" : Str)) = false := by decide) (hm : behindInMarks .NotIn (.Name x px) = false := by rfl) : DT X G ρ O (.Compare a [.NotIn] [.Name x px] pos) O1 (!(valD kvs n).isSome) :=
  PTw (pt_cmp (pc_dnotin (hu_of hr) ha (pe_own (G := G) i hs hN hv hd hcd)) hm) fun σ H Q ⟨B, s, q⟩ => ⟨B, s, fun v B1 H1 s1 e1 h => by
    cases h
    obtain ⟨_, vs, hx, r⟩ := s1.own _ ho
    refine ⟨⟨O1, B1, s1⟩, o, _, rfl, DGet.k (k := Sum.inl n) hx, _, rfl, ?_⟩
    rw [(pk_val r).1]
    exact q B1 H1 s1 e1⟩
theorem de_dget (i : Nat) {k : Nat} {x : Str} {o : Addr} {kvs : List (Int × D)} {n : Int} {px : Pos} (hr : Room k X.A) (ho : (o, OC.dK kvs) ∈ O1) (hval : valD kvs n = some d) (hb : DE X G ρ O b O1 (.int n)) (ho0 : (o, OC.dK kvs) ∈ O) (hs : ρ[i]? = some (some (.own o)) := by rfl) (hN : X.N[i]? = some x := by rfl) (hv : Vis X.env.scope x := by first | exact Or.inl rfl | exact Or.inr (Or.inl rfl) | exact Or.inr (Or.inr rfl))
    (hd : (x == ("__debug__" : Str)) = false := by decide) (hcd : (x == ("__classdict__" : Str)) = false := by decide) (hn : NoSl b := by exact fun _ _ => rfl) : DE X G ρ O (.Subscript (.Name x px) b pos) O1 d :=
  PEw (pe_dget (hu_of hr) (pe_own (G := G) i hs hN hv hd hcd) hb hn) fun σ H Q ⟨B, s, q⟩ => ⟨⟨O, B, s⟩, B, s, fun v B1 H1 s1 e1 h => by
    cases h
    obtain ⟨_, vs, hx, r⟩ := s1.own _ ho
    obtain ⟨v, h1, h2⟩ := (pk_val r).2 d hval
    refine ⟨o, v, rfl, ?_, q v B1 H1 s1 e1 h2⟩
    rw [← h1]
    exact DGet.k (k := Sum.inl n) hx⟩
theorem ds_dput (i : Nat) {k : Nat} {x : Str} {o : Addr} {kvs : List (Int × D)} {n : Int} {px sp : Pos} {ix : Expr} (hr : Room k X.A) (he : DE X G ρ O e O1 d) (hix : DE X G ρ O1 ix O2 (.int n)) (ho : (o, OC.dK kvs) ∈ O2) (hz : kvs.length < 100000) (q : Φ (.nx ρ (setO O2 o (.dK (putD kvs n d)))))
    (hs : ρ[i]? = some (some (.own o)) := by rfl) (hN : X.N[i]? = some x := by rfl) (hv : Vis X.env.scope x := by first | exact Or.inl rfl | exact Or.inr (Or.inl rfl) | exact Or.inr (Or.inr rfl))
    (hd : (x == ("__debug__" : Str)) = false := by decide) (hcd : (x == ("__classdict__" : Str)) = false := by decide) (hsw : swapsWith e (some (.Subscript (.Name x px) ix sp)) pos.line X.env = pure false := by rfl) : DS X G ρ O (.Assign [.Subscript (.Name x px) ix sp] e pos) Φ :=
  PSw (ps_dput (hu_of hr) (pe_own (G := G) i hs hN hv hd hcd) hix he hsw) fun Dn σ H ⟨B, s, k1, _⟩ => ⟨B, s, fun v B1 H1 s1 e1 h1 => ⟨⟨O1, B1, s1⟩, B1, s1, fun u B2 H2 s2 e2 h2 => by
    cases h2
    obtain ⟨_, vs, hx, r⟩ := s2.own _ ho
    refine ⟨o, _, rfl, DPut.k (k := Sum.inl n) hx (by rw [Paired.length r, sizeLine_eq]; omega), ?_⟩
    exact k1 _ _ B2 _ _ q (s2.wrote (c := .dK (putD kvs n d)) ho ⟨_, upd_same, pk_put r (dp_mono e2 _ _ h1)⟩) (e1.trans e2)⟩⟩
end
theorem nkey_inj {k j : Int × List Int} (h : nkey k = nkey j) : k = j := by
  obtain ⟨a, l⟩ := k
  obtain ⟨b, m⟩ := j
  unfold nkey at h
  injection h with h
  injection h with h1 h2
  injection h1 with h1
  injection h2 with h2 _
  injection h2 with h2
  have : ∀ l m : List Int, l.map NestedKey.num = m.map NestedKey.num → l = m := by
    intro l
    induction l with
    | nil => intro m h; cases m with
      | nil => rfl
      | cons _ _ => cases h
    | cons a l ih => intro m h; cases m with
      | nil => cases h
      | cons b m =>
        rw [List.map_cons, List.map_cons] at h
        injection h with h1 h2
        injection h1 with h1
        rw [h1, ih m h2]
  have h1' : a = b := h1
  have h2' : l = m := this l m h2
  rw [h1', h2']
section
variable {X : Cx} {pins : List (Addr × Obj)} {σ : L2.St} {H B : Hp} {s : Shared}
theorem nested_ints {h : Heap} : ∀ {ns : List Int} {us : List Value}, Vals (ns.map V.int) us → NestedAll h (ns.map NestedKey.num) us
  | [], _, r => by cases r; exact .nil
  | n :: ns, _, r => by
    cases r with
    | cons r t =>
      obtain ⟨u, rfl⟩ := r
      exact .cons (.int _ _) (nested_ints t)
theorem nested_of (I : Inv X pins σ H s) {k : Int × List Int} {a : Addr} (h : Dp X.K H (.ref a) (kd k)) : NestedIs s.heap (nkey k) (.ref a) := by
  unfold kd at h
  cases h with
  | @tup _ xs _ hq hd =>
    cases hd with
    | @cons v1 _ _ _ h1 hd =>
      cases hd with
      | @cons v2 _ _ _ h2 hd =>
        cases hd
        cases h1
        cases h2 with
        | @tup b ys _ hq2 hd2 =>
          have ey := dp_ints hd2
          subst ey
          obtain ⟨its, r, ⟨o, e, c, n, dd⟩, _⟩ := I.tuple hq
          obtain ⟨its2, r2, ⟨o2, e2, c2, n2, dd2⟩, _⟩ := I.tuple hq2
          cases r with
          | cons r1 r =>
            cases r with
            | cons r1' r =>
              cases r
              obtain ⟨t, rfl⟩ := r1
              cases r1'
              refine .tup e c dd ?_
              show NestedAll s.heap _ [Value.int k.1 t, Value.ref b]
              exact .cons (.int _ _) (.cons (.tup e2 c2 dd2 (by simpa using nested_ints r2)) .nil)
theorem nums_depth : ∀ ns : List Int, NestedKey.depthAll (ns.map NestedKey.num) ≤ 1
  | [] => by simp [NestedKey.depthAll]
  | n :: ns => by
    have := nums_depth ns
    simp [NestedKey.depthAll, NestedKey.depth] at this ⊢
    omega
theorem nkey_depth (k : Int × List Int) : (nkey k).depth ≤ 8 := by
  have := nums_depth k.2
  unfold nkey
  simp [NestedKey.depthAll, NestedKey.depth] at this ⊢
  omega
theorem key_is (I : Inv X pins σ H s) {k : Int × List Int} {a : Addr} (h : Dp X.K H (.ref a) (kd k)) : (nestedKind X.prog X.w).is s.heap (nkey k) a := ⟨nested_of I h, nkey_depth k⟩
theorem ref_of_kd {K : Frg} {k : Int × List Int} {v : V} (h : Dp K H v (kd k)) : ∃ a, v = .ref a := by
  unfold kd at h
  cases h with
  | tup _ _ => exact ⟨_, rfl⟩
abbrev MemP (P : Program) (w : World) (K : Frg) (B : Hp) : List ((Int × List Int) × D) → List (NestedKey × Addr × Value) → Prop := Paired (MemE P w K B)
theorem mem_at {P : Program} {w : World} {K : Frg} {k : Int × List Int} : ∀ {kvs : List ((Int × List Int) × D)} {xs : List (NestedKey × Addr × Value)}, MemP P w K B kvs xs →
    (atKey xs (nkey k)).isSome = (valD kvs k).isSome ∧ ∀ d, valD kvs k = some d → ∃ p v, atKey xs (nkey k) = some p ∧ RelV v p.2 ∧ Dp K B v d
  | _, _, .nil => ⟨rfl, fun d h => by cases h⟩
  | _, _, .cons (a := p) (b := x) (l₁ := ps) (l₂ := xs) r t => by
    by_cases e : p.1 = k
    · have e1 : x.1 = nkey k := by rw [r.key, e]
      have e2 : atKey (x :: xs) (nkey k) = some x.2 := by simp [atKey, List.find?_cons, e1]
      rw [e2, valD_pos e]
      obtain ⟨v, h1, h2⟩ := r.val
      exact ⟨rfl, fun d h => ⟨x.2, v, rfl, h1, by cases h; exact h2⟩⟩
    · have e1 : ¬ x.1 = nkey k := fun z => e (nkey_inj (r.key.symm.trans z))
      have e2 : atKey (x :: xs) (nkey k) = atKey xs (nkey k) := by simp [atKey, List.find?_cons, e1]
      rw [e2, valD_neg e]
      exact mem_at t
theorem mem_put {P : Program} {w : World} {K : Frg} {k : Int × List Int} {v : V} {u : Value} {d : D} {a : Addr} {kvs : List ((Int × List Int) × D)} {xs : List (NestedKey × Addr × Value)} (r : MemP P w K B kvs xs) (hk : Dp K B (.ref a) (kd k)) (hu : RelV v u) (hd : Dp K B v d) :
    MemP P w K B (putD kvs k d) (storedH xs (nkey k) a u) := by
  have hv := (mem_at (k := k) r).1
  unfold storedH putD
  rw [hv]
  split
  · rename_i hh
    clear hv hh
    induction r with
    | nil => exact .nil
    | @cons p x _ _ r t ih =>
      rw [List.map_cons, List.map_cons]
      refine .cons ?_ ih
      unfold putAt
      by_cases e : p.1 = k
      · rw [if_pos e, if_pos (show x.1 = nkey k by rw [r.key, e])]
        exact ⟨r.key, r.tup, v, hu, hd⟩
      · rw [if_neg e, if_neg (fun z => e (nkey_inj (r.key.symm.trans z)))]
        exact r
  · have : ∀ {a : List ((Int × List Int) × D)} {b : List (NestedKey × Addr × Value)} {c : List ((Int × List Int) × D)} {e : List (NestedKey × Addr × Value)}, MemP P w K B a b → MemP P w K B c e → MemP P w K B (a ++ c) (b ++ e) := by
      intro a b c e x y
      induction x with
      | nil => exact y
      | cons r _ ih => exact .cons r ih
    exact this r (.cons ⟨rfl, hk, v, hu, hd⟩ .nil)
/-- the dict as the library tells it -/
theorem mem_dict (I : Inv X pins σ H s) (e : Same B H) {a : Addr} {kvs : List ((Int × List Int) × D)} (m : MemC X.prog X.w X.K B H a kvs) : (a == sysModules) = false ∧ kvs.length ≤ sizeLine ∧ ∃ xs, s.heap.DictOfH (nestedKind X.prog X.w) a xs ∧ MemP X.prog X.w X.K B kvs xs := by
  obtain ⟨o, es, ep, xs, hH, hm, hz, hx, hd, he, hn, r⟩ := m
  obtain ⟨ho, _⟩ := (show ObjOk X.prog X.w H s.heap a (.ext fun h => h.get? a = some o) from I.hok a _ hH)
  refine ⟨hm, hz, xs, ⟨o, es, ep, ho, hx, hd, he, fun x hxm => ?_, hn⟩, r⟩
  have : ∀ {kvs : List ((Int × List Int) × D)} {xs : List (NestedKey × Addr × Value)}, MemP X.prog X.w X.K B kvs xs → ∀ x ∈ xs, (nestedKind X.prog X.w).is s.heap x.1 x.2.1 := by
    intro kvs xs r
    induction r with
    | nil => intro x hx; cases hx
    | @cons p y _ _ r t ih =>
      intro x hx
      rcases List.mem_cons.mp hx with q | q
      · subst q
        rw [r.key]
        exact key_is I (dp_mono e _ _ r.tup)
      · exact ih x q
  exact this r x hxm
end
section
variable {X : Cx} {G : Gd} {ρ : Ro} {O O1 O2 O3 : Ow} {e a b c : Expr} {d da db dc : D} {pos : Pos} {Φ Ψ : Oc → Prop}
theorem mem_room {k : Nat} (hr : Room k X.A) : (nestedKind X.prog X.w).room X.A.in1 := by
  have := hr.units
  show X.A.units + 1 + 8 < cLine
  omega
/-- key not in d -/
theorem dt_mnot (i : Nat) {n : Nat} {x : Str} {o : Addr} {kvs : List ((Int × List Int) × D)} {k : Int × List Int} {px : Pos} (hr : Room n X.A) (ho : (o, OC.memo kvs) ∈ O1) (ha : DE X G ρ O a O1 (kd k)) (hs : ρ[i]? = some (some (.own o)) := by rfl) (hN : X.N[i]? = some x := by rfl) (hv : Vis X.env.scope x := by first | exact Or.inl rfl | exact Or.inr (Or.inl rfl) | exact Or.inr (Or.inr rfl))
    (hd : (x == ("__debug__" : Str)) = false := by decide) (hcd : (x == ("__classdict__" : Str)) = false := by decide) (hm : behindInMarks .NotIn (.Name x px) = false := by rfl) : DT X G ρ O (.Compare a [.NotIn] [.Name x px] pos) O1 (!(valD kvs k).isSome) := by
  have ho2 : OpR X (compareOp .NotIn) (fun x y H Q => ∃ B, Same B H ∧ MemC X.prog X.w X.K B H o kvs ∧ y = .ref o ∧ Dp X.K H x (kd k) ∧ Q (.bl (!(valD kvs k).isSome)) H) := by
    intro pins s σ H x y v u Q I rx ry ⟨B, e, m, ey, hx, q⟩
    subst ey
    obtain ⟨t, rfl⟩ := ref_of_kd hx
    cases rx
    cases ry
    obtain ⟨h1, h2, xs, h3, h4⟩ := mem_dict I e m
    refine notIn_keyed (kvs := pairsH xs) (mem_room hr) (key_is I hx) h1 ⟨xs, h3, rfl⟩ ?_
    rw [valueAt_pairsH, Option.isSome_map, (mem_at h4).1]
    exact ⟨.bl _, H, I.tok _, rfl, q⟩
  refine PTw (pt_cmpR ho2 ha (pe_own (G := G) i hs hN hv hd hcd) hm) fun σ H Q ⟨B, s, q⟩ => ⟨B, s, fun v B1 H1 s1 e1 h => ?_⟩
  exact ⟨⟨O1, B1, s1⟩, B1, s1.bh, (s1.own _ ho).2, rfl, dp_mono s1.bh _ _ h, _, rfl, q B1 H1 s1 e1⟩
/-- d[key], there -/
theorem de_mget (i : Nat) {n : Nat} {x : Str} {o : Addr} {kvs : List ((Int × List Int) × D)} {k : Int × List Int} {px : Pos} (hr : Room n X.A) (ho : (o, OC.memo kvs) ∈ O1) (hval : valD kvs k = some d) (hb : DE X G ρ O b O1 (kd k)) (hs : ρ[i]? = some (some (.own o)) := by rfl) (hN : X.N[i]? = some x := by rfl) (hv : Vis X.env.scope x := by first | exact Or.inl rfl | exact Or.inr (Or.inl rfl) | exact Or.inr (Or.inr rfl))
    (hd : (x == ("__debug__" : Str)) = false := by decide) (hcd : (x == ("__classdict__" : Str)) = false := by decide) (hn : NoSl b := by exact fun _ _ => rfl) : DE X G ρ O (.Subscript (.Name x px) b pos) O1 d := by
  refine ⟨fun pins s σ H Q I ⟨B, st, q⟩ => ?_⟩
  refine subD_of PySem.F.slot_dict_getitem.lookup hn (thn ((pe_own (G := G) (ρ := ρ) i hs hN hv hd hcd).run pins s σ H (fun v H1 => v = .ref o ∧ H1 = H) I ⟨⟨O, B, st⟩, rfl, rfl⟩) fun u s1 ⟨v1, H1, I1, rx, ev, eH⟩ => ?_)
  subst ev eH
  cases rx
  refine thn (hb.run pins s1 σ H1 (fun v H2 => ∃ B2, SS X.prog X.w X.K G ρ O1 B2 σ H2 ∧ Same B B2 ∧ Dp X.K B2 v (kd k)) I1 ⟨B, st, fun v B2 H2 s2 e2 h2 => ⟨B2, s2, e2, h2⟩⟩) fun iv s2 ⟨y, H2, I2, ry, B2, st2, e2, hk⟩ => ?_
  obtain ⟨t, rfl⟩ := ref_of_kd hk
  cases ry
  obtain ⟨h1, h2, xs, h3, h4⟩ := mem_dict I2 st2.bh (st2.own _ ho).2
  obtain ⟨p, v, g1, g2, g3⟩ := (mem_at h4).2 d hval
  refine ⟨h3.typeIs, getItem_keyed (kvs := pairsH xs) (v := p.2) (mem_room hr) (key_is I2 (dp_mono st2.bh _ _ hk)) ⟨xs, h3, rfl⟩ (by rw [valueAt_pairsH, g1]; rfl) ?_⟩
  exact ⟨v, H2, I2.tok _, g2, q v B2 H2 st2 e2 g3⟩
/-- d[key] = e -/
theorem ds_mput (i : Nat) {n : Nat} {x : Str} {o : Addr} {kvs : List ((Int × List Int) × D)} {k : Int × List Int} {px sp : Pos} {ix : Expr} (hr : Room n X.A) (he : DE X G ρ O e O1 d) (hix : DE X G ρ O1 ix O2 (kd k)) (ho : (o, OC.memo kvs) ∈ O2) (hz : kvs.length < 16000000) (q : Φ (.nx ρ (setO O2 o (.memo (putD kvs k d)))))
    (hs : ρ[i]? = some (some (.own o)) := by rfl) (hN : X.N[i]? = some x := by rfl) (hv : Vis X.env.scope x := by first | exact Or.inl rfl | exact Or.inr (Or.inl rfl) | exact Or.inr (Or.inr rfl))
    (hd : (x == ("__debug__" : Str)) = false := by decide) (hcd : (x == ("__classdict__" : Str)) = false := by decide) (hsw : swapsWith e (some (.Subscript (.Name x px) ix sp)) pos.line X.env = pure false := by rfl) : DS X G ρ O (.Assign [.Subscript (.Name x px) ix sp] e pos) Φ := by
  refine ⟨fun pins s σ H Dn I ⟨B, st, k1, _⟩ => ?_⟩
  refine wpAny_Assign_Subscript (thn (he.run pins s σ H (fun v H1 => ∃ B1, SS X.prog X.w X.K G ρ O1 B1 σ H1 ∧ Same B B1 ∧ Dp X.K B1 v d) I ⟨B, st, fun v B1 H1 s1 e1 h1 => ⟨B1, s1, e1, h1⟩⟩) fun r s1 ⟨v, H1, I1, rv, B1, st1, e1, hv1⟩ => ?_) hsw
  refine thn ((pe_own (G := G) (ρ := ρ) i hs hN hv hd hcd).run pins s1 σ H1 (fun v H2 => v = .ref o ∧ H2 = H1) I1 ⟨⟨O1, B1, st1⟩, rfl, rfl⟩) fun u s2 ⟨v2, H2, I2, rx, ev, eH⟩ => ?_
  subst ev eH
  cases rx
  refine thn (hix.run pins s2 σ H2 (fun v H3 => ∃ B3, SS X.prog X.w X.K G ρ O2 B3 σ H3 ∧ Same B1 B3 ∧ Dp X.K B3 v (kd k)) I2 ⟨B1, st1, fun v B3 H3 s3 e3 h3 => ⟨B3, s3, e3, h3⟩⟩) fun iv s3 ⟨y, H3, I3, ry, B3, st3, e3, hk⟩ => ?_
  obtain ⟨t, rfl⟩ := ref_of_kd hk
  cases ry
  obtain ⟨h1, h2, xs, h3, h4⟩ := mem_dict I3 st3.bh (st3.own _ ho).2
  have hl : xs.length = kvs.length := (Paired.length h4).symm
  have hMut : Mut (H3 o) := by
    obtain ⟨_, ⟨ob, _, _, _, hH, _⟩⟩ := st3.own _ ho
    rw [hH]
    exact True.intro
  refine wpAny_setItem_heap (hsz := by rw [hl]; exact h2) (mem_room hr) (key_is I3 (dp_mono st3.bh _ _ hk)) h3 fun h' dd' hsb => ?_
  obtain ⟨ob, es, ep, hq, hx, hdat, hent, _, hnd⟩ := dd'
  have I4 : Inv X pins σ (upd H3 o (.ext fun h => h.get? o = some ob)) { s3 with heap := h', toks := s3.toks + (nestedKind X.prog X.w).draws (nkey k) } :=
    d_write I3 hMut hsb ⟨ob, hq⟩ ⟨hq, ⟨ob, hq⟩, fun a b z f => f _ z⟩
  refine ⟨σ, _, I4, k1 _ _ B3 _ _ q (st3.wrote (c := .memo (putD kvs k d)) ho ⟨ob, es, ep, _, upd_same, h1, ?_, hx, hdat, hent, hnd, mem_put h4 hk rv (dp_mono e3 _ _ hv1)⟩) (e1.trans e3)⟩
  have := len_putD kvs k d
  rw [sizeLine_eq]
  omega
end
end Bid

namespace Bid
open PySem PySem.Spec PyProof.Rows L2
theorem SS.forget {P : Program} {w : World} {K : Frg} {G : Gd} {ρ : Ro} {O : Ow} {q : Addr × OC} {B H : Hp} {σ : L2.St} (s : SS P w K G ρ (q :: O) B σ H) : SS P w K G ρ O B σ H := by
  have nd := s.nd
  rw [List.map_cons, List.nodup_cons] at nd
  exact ⟨s.bh, s.bb, s.hh, s.there, s.ag, s.env, fun p hp => s.own p (List.mem_cons_of_mem _ hp), nd.2, fun p hp => s.mo p (List.mem_cons_of_mem _ hp)⟩
section
variable {X : Cx} {G : Gd} {ρ : Ro} {O O1 O2 O3 : Ow} {e a b c : Expr} {d da db dc : D} {pos : Pos}
def dict0 : Obj := { cls := .type "dict", data := .dict #[] }
theorem pe_dnewM {p : Pos} : PE X (.Dict [] [] p) (fun _ H Q => ∀ q, H q = none → (q == sysModules) = false → Q (.ref q) (upd H q (.ext fun h => h.get? q = some dict0))) := ⟨fun pins s σ H Q I h =>
  wpAny_Dict_empty ⟨.ref s.heap.objs.size, _, I.laid (a := s.heap.objs.size) (o := .ext fun h => h.get? s.heap.objs.size = some dict0) (t' := s.toks) (fun _ _ q => Heap.get?_push_of_some _ q) (Nat.le_refl _)
    ⟨Heap.get?_push_size _ rfl, ⟨dict0, Heap.get?_push_size _ rfl⟩, fun a b z f => f _ z⟩, rfl, h _ (I.hok.fresh (Nat.le_refl _)) (beq_eq_false_iff_ne.mpr (Ne.symm (Nat.ne_of_lt I.big)))⟩⟩
theorem memC_new {P : Program} {w : World} {K : Frg} {B H : Hp} {q : Addr} (h : (q == sysModules) = false) : MemC P w K B (upd H q (.ext fun h => h.get? q = some dict0)) q [] :=
  ⟨dict0, #[], 0, [], upd_same, h, Nat.zero_le _, ⟨rfl, rfl, rfl⟩, rfl, rfl, List.nodup_nil, .nil⟩
/-- f(a, b, c, {}) -/
theorem de_callNew {x : Str} {R : Rel} {p dp : Pos} {s1 s2 s3 : D} (cl : Cal X.prog X.w X.K X.mg X.base X.A x (spR X.prog X.w X.K R)) (ha : DE X G ρ O a O s1) (hb : DE X G ρ O b O s2) (hc : DE X G ρ O c O s3) (hR : ∀ q, ∃ O', R [.d s1, .d s2, .d s3, .own q] [(q, .memo [])] d O' ∧ ∃ c', (q, c') ∈ O')
    (hg : Gl X x := by rfl) (hdb : (x == ("__debug__" : Str)) = false := by decide)
    (he : starEach [a, b, c, .Dict [] [] dp] X.env = (false, eval a X.env) :: starEach [b, c, .Dict [] [] dp] X.env := by rfl) (he2 : starEach [b, c, .Dict [] [] dp] X.env = (false, eval b X.env) :: starEach [c, .Dict [] [] dp] X.env := by rfl) (he3 : starEach [c, .Dict [] [] dp] X.env = (false, eval c X.env) :: starEach [.Dict [] [] dp] X.env := by rfl)
    (he4 : starEach [.Dict [] [] dp] X.env = (false, eval (.Dict [] [] dp) X.env) :: starEach [] X.env := by rfl) (hpl : (backTo pos (starEach [b, c, .Dict [] [] dp] X.env)).any (·.1) = false := by rfl) : DE X G ρ O (.Call (.Name x p) [a, b, c, .Dict [] [] dp] [] pos) O d := by
  obtain ⟨f, fd, k, ps, F, hr, hm, hk, hbd⟩ := cl.ex
  refine PEw (pe_call F hr hg hm hk hbd .nil pass0 (pa_cons ha (pa_cons hb (pa_cons hc (pa_cons pe_dnewM pa_nil he4) he3) he2) he) hdb he hpl) fun σ H Q ⟨B, s, q⟩ =>
    ⟨B, s, fun v1 B1 H1 st1 e1 h1 => ⟨B1, st1, fun v2 B2 H2 st2 e2 h2 => ⟨B2, st2, fun v3 B3 H3 st3 e3 h3 => ?_⟩⟩⟩
  intro t ht hts
  show spR X.prog X.w X.K R _ _ Q E0
  rw [List.append_nil]
  obtain ⟨O', hO', c', hc'⟩ := hR t
  have st4 := st3.owned (c := .memo []) ht (memC_new (P := X.prog) (w := X.w) (K := X.K) (B := B3) hts)
  refine ⟨B3, _, _, d, O', .cons (show SlR X.K B3 v1 (.d s1) from dp_mono (e2.trans e3) _ _ h1) (.cons (show SlR X.K B3 v2 (.d s2) from dp_mono e3 _ _ h2) (.cons (show SlR X.K B3 v3 (.d s3) from h3) (.cons (show SlR X.K B3 (.ref t) (.own t) from rfl) .nil))), hO', st4.bh, fun z hz => st4.own z (by rw [List.mem_singleton.mp hz]; exact List.mem_cons_self ..), by simp, fun v B' H' rt hd => ?_⟩
  refine q v B' H' (st4.call (Oc := (t, c') :: O) rt (fun z hz => ?_) rfl (fun z hz => ?_)).forget (((e1.trans e2).trans e3).trans rt.bb) hd
  · have e : z = t := by simpa using hz
    subst e
    exact List.mem_cons_self ..
  · rcases List.mem_cons.mp hz with e | hz
    · subst e
      exact .inl hc'
    · refine .inr ⟨fun hm => ?_, List.mem_cons_of_mem _ hz⟩
      have e : z.1 = t := by simpa using hm
      exact st3.ne_own ht hz e
end
end Bid

namespace Bid
open PySem PySem.Spec PyProof.Rows L2
section
variable {X : Cx} {G : Gd} {ρ : Ro} {O O1 O2 O3 : Ow} {e a b c : Expr} {d da db dc : D} {pos : Pos}
def rSumT (K : Frg) : List V → Hp → VK → Prop := fun vs H Q => ∃ (a : Addr) (ns : List Int), vs = [V.ref a] ∧ SqT K H a (ns.map V.int) ∧ Q (.int ns.sum) H
theorem cr_sumT (hc : X.calm = true) : CallR X (.builtin "sum") (rSumT X.K) := by
  intro pins s σ H vs us Q I r h
  obtain ⟨a, ns, rfl, hs, q⟩ := h
  obtain ⟨its, rv, hl, _⟩ := I.tuple hs
  rw [Vals.ref1 r]
  have hi := rv.ints
  obtain ⟨xs, e⟩ := hi.allInts.items
  have hn : numsOf (intItems xs).toList = ns := by rw [← e]; exact hi.numsOf
  rw [nums_intItems] at hn
  rw [e] at hl
  refine PySem.W.ktm_sumG (I.ok.hd hc) hl fun h' tk t' hk => ?_
  rw [preSum_eq, List.take_of_length_le (by simp), hn]
  exact ⟨.int _, H, I.kept hk, ⟨_, rfl⟩, q⟩
theorem de_sumT {ns : List Int} {p : Pos} (hm : X.mg "sum" = none) (ha : DE X G ρ O a O1 (.tuple (ns.map .int))) (hc : X.calm = true := by rfl) (hg : Gl X "sum" := by rfl) (he : starEach [a] X.env = (false, eval a X.env) :: starEach [] X.env := by rfl) (hpl : (backTo pos (starEach [] X.env)).any (·.1) = false := by rfl) :
    DE X G ρ O (.Call (.Name "sum" p) [a] [] pos) O1 (.int ns.sum) :=
  de_b1 (cr_sumT hc) (fun G ρ O B σ H x Q s h k => by
    cases h with
    | @tup p xs _ hq hd => exact ⟨p, ns, rfl, by rw [← dp_ints hd]; exact same_t s.bh hq, k _ B H s (Same.refl B) (.int _)⟩) hm (by decide +kernel) ha hg (by decide) (by decide) he hpl
end
end Bid

namespace Bid
open PySem PySem.Spec PyProof.Rows L2
/-- how many different ints -/
def setLen (ns : List Int) : Nat := (PyProof.Rows.firstMet (fun i => ns.getD i 0) ns.length).length
theorem fm_len (f : Nat → Int) : ∀ i, (PyProof.Rows.firstMet f i).length ≤ i
  | 0 => Nat.le_refl _
  | i + 1 => by
    have := fm_len f i
    rw [PyProof.Rows.firstMet_succ]
    unfold PyProof.Rows.step_dedup
    split
    · omega
    · rw [List.length_append, List.length_singleton]; omega
theorem fm_full {ns : List Int} : ∀ i, i ≤ ns.length → (PyProof.Rows.firstMet (fun i => ns.getD i 0) i).length = i → (ns.take i).Nodup ∧ PyProof.Rows.firstMet (fun i => ns.getD i 0) i = ns.take i
  | 0, _, _ => ⟨by rw [List.take_zero]; exact List.nodup_nil, rfl⟩
  | i + 1, hi, e => by
    have hl := fm_len (fun i => ns.getD i 0) i
    have e1 : ns.getD i 0 = ns[i] := by rw [List.getD_eq_getElem?_getD, List.getElem?_eq_getElem hi]; rfl
    have e2 : ns.take (i + 1) = ns.take i ++ [ns[i]] := by rw [List.take_add_one, List.getElem?_eq_getElem hi]; rfl
    rw [PyProof.Rows.firstMet_succ] at e ⊢
    unfold PyProof.Rows.step_dedup at e ⊢
    split at e
    · omega
    · rename_i h
      rw [List.length_append, List.length_singleton] at e
      obtain ⟨h1, h2⟩ := fm_full (ns := ns) i (by omega) (by omega)
      rw [if_neg h, h2, e2, e1]
      refine ⟨?_, rfl⟩
      rw [List.nodup_append]
      refine ⟨h1, by simp, fun a ha b hb e3 => ?_⟩
      rw [List.mem_singleton] at hb
      subst hb
      rw [h2, e1] at h
      apply h
      rw [List.any_eq_true]
      exact ⟨a, ha, by rw [e3]; simp⟩
theorem setLen_iff (ns : List Int) : setLen ns = ns.length ↔ ns.Nodup := by
  constructor
  · intro h
    have := (fm_full ns.length (Nat.le_refl _) h).1
    rwa [List.take_length] at this
  · intro h
    unfold setLen
    rw [RZ.firstMet_nodup h ns.length (Nat.le_refl _), List.take_length]
def tLenSetG (K : Frg) (ta : TE) : TE := fun σ H Q => ta σ H fun x H1 => ∃ (l : Addr) (ns : List Int), x = .ref l ∧ SqL K H1 l (ns.map V.int) ∧ ns.length ≤ 4000 ∧ Q (.int (setLen ns : Nat)) H1
theorem pe_lenSetG {X : Cx} {a : Expr} {ta : TE} {p p2 q pos : Pos} (hg : Gl X "len") (hm : X.mg "len" = none) (hg2 : Gl X "set") (hm2 : X.mg "set" = none) (ha : PE X a ta) (hc : X.calm = true)
    (na : starEach [a] X.env = (false, eval a X.env) :: starEach [] X.env) : PE X (.Call (.Name "len" p) [.Call (.Name "set" p2) [a] [] q] [] pos) (tLenSetG X.K ta) := by
  refine ⟨fun pins s σ H Q I h => ?_⟩
  refine Call_ (ld_blt I hg hm boot_len ?_)
  refine PyProof.Rows.callWith_builtin1 (PyProof.Rows.args_cons ?_ rfl) rfl rfl
  refine Call_ (ld_blt I hg2 hm2 boot_set ?_)
  refine PyProof.Rows.callWith_type1 (PyProof.Rows.args_cons (thn (ha.run pins s σ H _ I h) fun v s1 ⟨x, H1, I1, r1, q1⟩ => PyProof.Rows.args_nil ?_) na) na rfl
  obtain ⟨l, ns, rfl, hq, hl, q1⟩ := q1
  cases r1
  obtain ⟨its, r, pl, hz⟩ := I1.list hq
  have hlen : its.toArray.size = ns.length := by rw [List.size_toArray, ← r.length, List.length_map]
  refine call_set_list (I1.ok.hd hc) pl.isList (by simpa using RZ.intsAre_vals r) (by rw [hlen]; unfold scanBound; omega) fun h' tk hS hk => ?_
  refine PyProof.Rows.args_nil ?_
  rw [hlen] at hS
  obtain ⟨o, es, ep, t, ho, hex, hd, _, _, _, hf, hn⟩ := hS
  have I2 : Inv X pins σ H1 { s1 with heap := h', toks := tk } := I1.kept fun b o e => hk b o (Heap.lt_size e) e
  have hfm := fm_len (fun i => ns.getD i 0) ns.length
  exact call_len_set ho hex hd hf (by rw [hn] <;> omega) ⟨.int (setLen ns : Nat), H1, I2.tok _, ⟨_, by rw [hn]; rfl⟩, q1⟩
section
variable {X : Cx} {G : Gd} {ρ : Ro} {O O1 O2 O3 : Ow} {e a b c : Expr} {d da db dc : D} {pos : Pos}
theorem de_lenSet {ns : List Int} {p p2 q : Pos} (hm : X.mg "len" = none) (hm2 : X.mg "set" = none) (ha : DE X G ρ O a O1 (.list (ns.map .int))) (hz : ns.length ≤ 4000) (hc : X.calm = true := by rfl) (hg : Gl X "len" := by rfl) (hg2 : Gl X "set" := by rfl)
    (na : starEach [a] X.env = (false, eval a X.env) :: starEach [] X.env := by rfl) : DE X G ρ O (.Call (.Name "len" p) [.Call (.Name "set" p2) [a] [] q] [] pos) O1 (.int (setLen ns : Nat)) :=
  PEw (pe_lenSetG hg hm hg2 hm2 ha hc na) fun σ H Q ⟨B, s, k⟩ => ⟨B, s, fun v B1 H1 s1 e1 h1 => by
    cases h1 with
    | @lst p xs _ hq hd => exact ⟨p, ns, rfl, by rw [← dp_ints hd]; exact same_l s1.bh hq, hz, k _ B1 H1 s1 e1 (.int _)⟩⟩
theorem di_id {ds : List D} {tg : Expr} (h : DI X G ρ O tg a O1 ds) : DI X G ρ O tg a O1 (ds.map fun x => x) := by
  rw [List.map_id']
  exact h
end
def isTup : D → Bool
  | .tuple _ => true
  | _ => false
def isInt0 : D → Bool
  | .int _ => true
  | .bool _ => true
  | _ => false
def isBool0 : D → Bool
  | .bool _ => true
  | _ => false
def isStr0 : D → Bool
  | .str _ => true
  | _ => false
theorem kit_tup (d : D) : kitB (tyD d) "tuple" = some (isTup d) := by cases d <;> simp only [tyD, isTup] <;> decide
theorem kit_int (d : D) : kitB (tyD d) "int" = some (isInt0 d) := by cases d <;> simp only [tyD, isInt0] <;> decide
theorem kit_bool (d : D) : kitB (tyD d) "bool" = some (isBool0 d) := by cases d <;> simp only [tyD, isBool0] <;> decide
theorem kit_str (d : D) : kitB (tyD d) "str" = some (isStr0 d) := by cases d <;> simp only [tyD, isStr0] <;> decide
end Bid

namespace Bid
open PySem PySem.Spec PyProof.Rows L2
theorem meets_enum1 {v : Value} {o : Obj} {H : Heap → Prop} (B : Begins v o H) :
    Meets (Builtin.«enumerate.__new__» ⟨[.type "enumerate", v], []⟩) (fun _ R s => H s.heap ∧
      R (.ok (.ret (.ref (s.heap.push o).objs.size))) { s with heap := (s.heap.push o).push { cls := .type "enumerate", data := .fields #[.none, .bool false, .ref s.heap.objs.size, rawInt 0, .none, .none] } }) :=
  .of_wp fun prog w A R s h => by
    obtain ⟨hp, g, d, tk, os⟩ := s; obtain ⟨h1, h⟩ := h
    have hsub := sub_enumerate
    have q1 : ∀ {A' : Around} {E : Value → Shared → Prop} {Q : Value → Shared → Prop}, Q (.ref hp.objs.size) ⟨hp.push o, g, d, tk, os⟩ → wpAny (model prog w) A' (pyIter v) Q E ⟨hp, g, d, tk, os⟩ :=
      fun q => B.iter prog w _ _ ⟨hp, g, d, tk, os⟩ _ h1 q
    wp_walk using q1
    refine wpAny_stack_any fun st => wpAny_pure ?_
    split
    · rename_i c _ _ _ _ _
      cases (c == Value.type "enumerate")
      · wp_walk using q1
        exact ⟨_, rfl, h⟩
      · wp_walk using q1
        exact ⟨_, rfl, h⟩
    · wp_walk using q1
      exact ⟨_, rfl, h⟩
section
variable {prog : Program} {w : World} {A : Around} {E : Value → Shared → Prop} {s : Shared}
theorem enum1_begins {v : Value} {o : Obj} {H : Heap → Prop} {Q : Value → Shared → Prop} (B : Begins v o H) (h1 : H s.heap)
    (h : ∀ h', IsEnum h' (s.heap.objs.size + 1) s.heap.objs.size 0 .none → h'.get? s.heap.objs.size = some o → h'.objs.size = s.heap.objs.size + 2 →
      (∀ b o, s.heap.get? b = some o → h'.get? b = some o) → Q (.ref (s.heap.objs.size + 1)) { s with heap := h' }) :
    wpAny (model prog w) A (call (.type "enumerate") [v]) Q E s := by
  refine callType_new F.called_enumerate (by decide) (F.typeCall_enumerate_1 _) (F.newCall_enumerate_1 _) (fun obj => F.args_object_init_2 obj _) F.entry_enumerate_new
    (meets_enum1 B) ⟨h1, ?_⟩
  have hz : (s.heap.push o).objs.size = s.heap.objs.size + 1 := Heap.size_push ..
  show _ ∧ _
  rw [hz]
  have he : IsEnum ((s.heap.push o).push { cls := .type "enumerate", data := .fields #[.none, .bool false, .ref s.heap.objs.size, rawInt 0, .none, .none] }) (s.heap.objs.size + 1) s.heap.objs.size 0 .none := by
    have := Heap.get?_push_size (s.heap.push o) (o := { cls := .type "enumerate", data := .fields #[.none, .bool false, .ref s.heap.objs.size, rawInt 0, .none, .none] }) rfl
    rw [hz] at this; exact this
  refine ⟨⟨_, he, rfl⟩, h _ he (Heap.get?_push_of_some _ (Heap.get?_push_size _ B.free)) (by rw [Heap.size_push, hz]) fun b o x => Heap.get?_push_of_some _ (Heap.get?_push_of_some _ x)⟩
theorem wpAny_pyNext_enum_endT {e it l : Addr} {i : Nat} {items : Array Value} {old : Value} {Q : Option Value → Shared → Prop} (hh : A.handled = none)
    (he : IsEnum s.heap e it i old) (hit : s.heap.IsTupleIter it l i) (hl : s.heap.IsTuple l items) (hx : items[i]? = none)
    (hQ : ∀ h', Heap.ExtBut it s.heap h' → Q none { s with heap := h' }) : wpAny (model prog w) A (pyNext (.ref e)) Q E s := by
  have hT : s.TypeIs (.ref e) "enumerate" := ⟨_, he, rfl⟩
  unfold pyNext
  refine wpAny_bind (wpAny_attempt (wpAny_callSpecial?_slot (name := Str.ofString "__next__") hT F.slot_enumerate_next
    (wpAny_call_entry F.slot_enumerate_next hT F.entry_enumerate_next ?_ (F.args_enumerate_next_1 _))))
  show wpAny _ _ (field (.ref e) 2 >>= _) _ _ _
  refine wpAny_bind (wpAny_field he rfl (x := .ref it) rfl ?_)
  refine wpAny_bind (wpAny_nextOf_tuple_end (A := A.in1) hh hit hl hx fun h' x he' hx' => ?_)
  obtain ⟨o, ho, hc⟩ := hx'
  refine wpAny_bind (wpAny_isInstance (T := "StopIteration") (b := true) ⟨o, ho, hc⟩ isSubtype_stop ?_)
  exact wpAny_pure (hQ _ he')
end
/-- the tuple at a as it stands at each turn, each item in a new pair -/
def IteT (K : Frg) (a : Addr) : It :=
  ⟨fun i H => ∃ (xs : List V) (x : V), SqT K H a xs ∧ xs[i]? = some x, fun i H v H' => ∃ T x, v = .ref T ∧ H T = none ∧ H' = upd H T (.tup [.int (i : Nat), x]) ∧ ∀ xs, SqT K H a xs → xs[i]? = some x, fun i H => ∃ xs : List V, SqT K H a xs ∧ xs.length ≤ i⟩
theorem turn_enumT {P : Program} {w : World} {K : Frg} {elts : List Expr} {kk : Nat} {tpos : Pos} (a e it : Addr) :
    Turn P w K (.Tuple elts kk tpos) (IteT K a) [e, it] e (fun i h => (∃ old, IsEnum h e it ((i : Nat) : Int) old) ∧ h.IsTupleIter it a i ∧ e ≠ it ∧ e ≠ a ∧ a ≠ it) where
  mem := by simp
  obj := fun i h st b hb => by
    obtain ⟨⟨old, he⟩, ⟨o, ho, hc, hd⟩, _⟩ := st
    have e' : b = e ∨ b = it := by simpa using hb
    rcases e' with z | z
    · rw [z]; exact ⟨_, he, fun v q => nomatch q⟩
    · rw [z]; exact ⟨o, ho, fun v q => by rw [hd] at q; cases q⟩
  keep := fun i h h' st k => let ⟨⟨old, he⟩, hi, hne⟩ := st; ⟨⟨old, k e (by simp) _ he⟩, hi.at fun o q => k it (by simp) o q, hne⟩
  item := by
    intro X hP hw hK hc i pins s σ H E I hf st hg
    subst hP hw hK
    obtain ⟨⟨old, he⟩, hit, hne, hea, hai⟩ := st
    obtain ⟨xs, x, hq, hx⟩ := hg
    obtain ⟨its, rv, p, hz⟩ := I.tuple hq
    have p : s.heap.IsTuple a its.toArray := p
    obtain ⟨u, hu, ru⟩ := rv.get hx
    have hel : e < s.heap.objs.size := Heap.lt_size he
    have hil : it < s.heap.objs.size := by obtain ⟨_, q, _⟩ := hit; exact Heap.lt_size q
    have hlt : i < its.toArray.size := by
      have h2 := rv.length
      have h3 := (List.getElem?_eq_some_iff.mp hx).1
      simp
      omega
    refine wpAny_pyNext_enum_itemD (Draws.tuple (A := X.A.in1) (I.ok.hd hc) it a hai its.toArray) he ⟨hit, p⟩ hlt hne (by simp [hne, hea]) fun y h' tk hy ho hit' hT hsz hk => ?_
    have hy' : y = u := by
      have h2 : its.toArray[i]? = some u := by simpa using hu
      rw [h2] at hy
      exact (Option.some.inj hy).symm
    subst hy'
    refine ⟨_, rfl, wpAny_letOwnedTupleGo_enum (s := { s with heap := h', toks := tk + 1 }) ho fun h'' he' sb => ?_⟩
    have hT2 : h''.get? s.heap.objs.size = some { cls := .type "tuple", data := .seq #[.int i tk, y] } := (sb.2 _ (Nat.ne_of_gt hel)).trans hT
    have new : ObjOk X.prog X.w (upd H s.heap.objs.size (.tup [.int (i : Nat), x])) h'' s.heap.objs.size (.tup [.int (i : Nat), x]) :=
      ⟨by show 2 ≤ sizeLine; decide, [.int i tk, y], .cons ⟨_, rfl⟩ (.cons ru .nil), ⟨_, hT2, rfl, _, rfl⟩⟩
    have I1 : Inv X pins σ (upd H s.heap.objs.size (.tup [.int (i : Nat), x])) { s with heap := h'', toks := tk + 1 } :=
      I.turnedNew (ch := [e, it]) (fun b ob hb q => (sb.2 b (fun z => hb (by simp [z]))).trans (hk b ob (fun z => hb (by simp [z])) (fun z => hb (by simp [z])) q)) hf (Nat.le_refl _) new
    refine ⟨.ref s.heap.objs.size, _, I1, rfl, ⟨_, x, rfl, I.hok.fresh (Nat.le_refl _), rfl, fun ys hy => by rw [I.tuple_inj hy hq]; exact hx⟩, ⟨⟨y, ?_⟩, hit'.1.at fun o q => (sb.2 it (Ne.symm hne)).trans q, hne, hea, hai⟩, fun b hb => ?_⟩
    · have e1 : ((i + 1 : Nat) : Int) = (i : Int) + 1 := by omega
      rw [e1]; exact he'
    · have hb' : b < s.heap.objs.size := by
        have e' : b = e ∨ b = it := by simpa using hb
        rcases e' with z | z
        · rw [z]; exact hel
        · rw [z]; exact hil
      rw [upd_ne (Nat.ne_of_lt hb')]
      exact (hf b hb).1
  done := by
    intro X hP hw hK hc i pins s σ H E I hf st hg
    subst hP hw hK
    obtain ⟨⟨old, he⟩, hit, hne, hea, hai⟩ := st
    obtain ⟨xs, hq, hx⟩ := hg
    obtain ⟨its, rv, p, hz⟩ := I.tuple hq
    have p : s.heap.IsTuple a its.toArray := p
    obtain ⟨f0, f1, f2, f3, f4, f5⟩ := hf it (by simp)
    have hl := rv.length
    exact wpAny_pyNext_enum_endT (I.ok.hd hc) he hit p (by simp; omega) fun h' eb => ⟨rfl, I.turned (t' := s.toks) (fun b o hb q => eb b o hb q) f0 f1 f3 f4 f5⟩
  self := fun A i s Q E st h => let ⟨⟨_, he⟩, _⟩ := st; wpAny_pyIter_enum he h
def iEnumT (K : Frg) (ta : TA) : TI := fun σ H R => ta σ H fun vs H1 => ∃ a xs, vs = [.ref a] ∧ SqT K H1 a xs ∧ R (IteT K a) H1
theorem pi_enumT {X : Cx} {e : Expr} {ta : TA} {p pos tpos : Pos} {elts : List Expr} {kk : Nat} (hg : Gl X "enumerate") (hm : X.mg "enumerate" = none) (ha : PA X [e] ta) (hs : starEach [e] X.env = [(false, eval e X.env)]) :
    PI X (.Tuple elts kk tpos) (.Call (.Name "enumerate" p) [e] [] pos) (iEnumT X.K ta) := by
  refine ⟨fun pins s σ H R I h => ?_⟩
  refine Call_ (ld_blt I hg hm boot_enumerate (PyProof.Rows.callWith_type1 (thn (ha.run pos pins s σ H _ I h) fun us s1 ⟨vs, H1, I1, r1, q1⟩ => ?_) hs rfl))
  obtain ⟨a, xs, ex, hq, q⟩ := q1
  subst ex
  cases r1 with
  | cons r rr =>
    cases rr
    cases r
    obtain ⟨its, rv, p', hz⟩ := I1.tuple hq
    have p' : s1.heap.IsTuple a its.toArray := p'
    have hal : a < s1.heap.objs.size := by obtain ⟨_, e, _⟩ := p'; exact Heap.lt_size e
    refine enum1_begins (begins_tuple a its.toArray) p' fun h' he hit hsz hk => wpAny_pyIter_enum he ?_
    have I2 : Inv X pins σ H1 { s1 with heap := h' } := I1.kept (t' := s1.toks) hk
    refine ⟨s1.heap.objs.size + 1, [s1.heap.objs.size + 1, s1.heap.objs.size], _, _, H1, rfl, I2, turn_enumT a (s1.heap.objs.size + 1) s1.heap.objs.size, ⟨⟨.none, he⟩, ⟨_, hit, rfl, rfl⟩, Nat.succ_ne_self _, Nat.ne_of_gt (Nat.lt_succ_of_lt hal), Nat.ne_of_lt hal⟩, fun b hb => ?_, q⟩
    have e' : b = s1.heap.objs.size + 1 ∨ b = s1.heap.objs.size := by simpa using hb
    have hle : s1.heap.objs.size ≤ b := by
      rcases e' with z | z
      · rw [z]; exact Nat.le_add_right _ _
      · rw [z]; exact Nat.le_refl _
    exact I1.fpOk hle (I1.hok.fresh hle)
section
variable {X : Cx} {G : Gd} {ρ : Ro} {O O1 O2 O3 : Ow} {e a b c : Expr} {d da db dc : D} {pos : Pos}
theorem getElem?_zipIdx' {α : Type} (xs : List α) (i : Nat) {z : α × Nat} (h : xs.zipIdx[i]? = some z) : xs[i]? = some z.1 ∧ z.2 = i := by
  rw [List.getElem?_zipIdx] at h
  cases e : xs[i]? with
  | none => rw [e] at h; cases h
  | some x => rw [e] at h; simp at h; subst h; exact ⟨rfl, rfl⟩
theorem wk_enumT {B : Hp} {p : Addr} {xs : List V} {α : Type} {ds : List α} {f : α → D} (hq : SqT X.K B p xs) (hd : DpAll X.K B xs (ds.map f)) : Wk X.K (IteT X.K p) B (ds.zipIdx.map fun a => .tuple [.int (a.2 : Int), f a.1]) := by
  have hl := dpl_length hd
  rw [List.length_map] at hl
  have hz : (ds.zipIdx.map fun a => PyData.tuple [.int (a.2 : Int), f a.1]).length = ds.length := by rw [List.length_map, List.length_zipIdx]
  refine ⟨fun i H hi e => ?_, fun H e => ⟨xs, same_t e hq, by omega⟩, fun i d B' H x H' hi e1 e2 y => ?_⟩
  · exact ⟨xs, xs[i]'(by omega), same_t e hq, List.getElem?_eq_getElem _⟩
  · obtain ⟨T, x1, rfl, nT, rfl, f1⟩ := y
    rw [List.getElem?_map] at hi
    cases q : ds.zipIdx[i]? with
    | none => rw [q] at hi; cases hi
    | some z =>
      rw [q] at hi
      have hi : PyData.tuple [.int (z.2 : Int), f z.1] = d := Option.some.inj hi
      obtain ⟨z1, z2⟩ := getElem?_zipIdx' _ _ q
      obtain ⟨v, h1, h2⟩ := dpl_get (d := f z.1) (dpAll_mono e1 _ _ hd) (by rw [List.getElem?_map, z1]; rfl)
      have q1 := f1 xs (same_t (e1.trans e2) hq)
      rw [h1] at q1
      cases q1
      rw [← hi, z2]
      exact ⟨_, pair_new (H := H) (none_of_same e2 nT) (.int _) h2, .inr ⟨T, _, nT, rfl, rfl⟩⟩
theorem di_enumT {α : Type} {ds : List α} {f : α → D} {elts : List Expr} {kk : Nat} {p tpos : Pos} (hm : X.mg "enumerate" = none) (ha : DE X G ρ O a O1 (.tuple (ds.map f))) (hg : Gl X "enumerate" := by rfl) (na : starEach [a] X.env = [(false, eval a X.env)] := by rfl) :
    DI X G ρ O (.Tuple elts kk tpos) (.Call (.Name "enumerate" p) [a] [] pos) O1 (ds.zipIdx.map fun a => .tuple [.int (a.2 : Int), f a.1]) :=
  PIw (pi_enumT hg hm (pa_cons ha pa_nil na) na) fun σ H R ⟨B, s, k⟩ => ⟨B, s, fun v B1 H1 s1 e1 h => by
    generalize hds : PyData.tuple (ds.map f) = dd at h
    cases h with
    | @tup p xs ds' hq hd =>
      cases hds
      exact ⟨p, xs, rfl, same_t s1.bh hq, k _ B1 H1 s1 e1 (wk_enumT hq hd)⟩
    | _ => cases hds⟩
theorem dt_isB {k l : Bool} {j p2} (ha : DE X G ρ O a O1 (.bool k)) : DT X G ρ O (.Compare a [.Is] [.Constant (.bool l) j p2] pos) O1 (decide (k = l)) := dt_cmp op_is_bl ha de_bl (fun G ρ O B σ H x y Q s hx hy q => by
  cases hx; cases hy
  exact ⟨k, l, rfl, rfl, q _ B H s (Same.refl B) (.bl _)⟩) (nomark _)
theorem dt_notB {k l : Bool} {j p2} (ha : DE X G ρ O a O1 (.bool k)) : DT X G ρ O (.Compare a [.IsNot] [.Constant (.bool l) j p2] pos) O1 (!decide (k = l)) := dt_cmp op_isnot_bl ha de_bl (fun G ρ O B σ H x y Q s hx hy q => by
  cases hx; cases hy
  exact ⟨k, l, rfl, rfl, q _ B H s (Same.refl B) (.bl _)⟩) (nomark _)
theorem de_isB {k l : Bool} {j p2} (ha : DE X G ρ O a O1 (.bool k)) : DE X G ρ O (.Compare a [.Is] [.Constant (.bool l) j p2] pos) O1 (.bool (decide (k = l))) := de_cmp op_is_bl ha de_bl (fun G ρ O B σ H x y Q s hx hy q => by
  cases hx; cases hy
  exact ⟨k, l, rfl, rfl, q _ B H s (Same.refl B) (.bl _)⟩) (nomark _)
end
end Bid

namespace Bid
open PySem PySem.Spec PyProof.Rows L2
/-- a def that returns what R says, or raises an error of a class that Rx says, and changes nothing -/
def spX (P : Program) (w : World) (K : Frg) (R : List Sl → D → Prop) (Rx : List Sl → Value → Prop) : Sp := fun vs H Q E => ∃ B ss, Paired (SlR K B) vs ss ∧ Same B H ∧
  ((∃ r, R ss r ∧ ∀ v B' H', Rt P w K B H [] [] B' H' → Dp K B' v r → Q v H') ∨ (∃ cls, Rx ss cls ∧ ∀ B' H', Rt P w K B H [] [] B' H' → E cls none H'))
/-- a statement, a block that raises -/
def tSX (P : Program) (w : World) (K : Frg) (G : Gd) (ρ : Ro) (O : Ow) (Ξ : Value → Ro → Ow → Prop) (W : WX) : TS := fun _ σ H => ∃ B, SS P w K G ρ O B σ H ∧
  ∀ cls ρ' O' B' σ' H', Ξ cls ρ' O' → SS P w K G ρ' O' B' σ' H' → Same B B' → W cls none σ' H'
abbrev DR (X : Cx) (G : Gd) (ρ : Ro) (O : Ow) (st : Stmt) (Ξ : Value → Ro → Ow → Prop) (W : WX) : Prop := PS X st (tSX X.prog X.w X.K G ρ O Ξ W)
abbrev DRs (X : Cx) (G : Gd) (ρ : Ro) (O : Ow) (st : List Stmt) (Ξ : Value → Ro → Ow → Prop) (W : WX) : Prop := PSs X st (tSX X.prog X.w X.K G ρ O Ξ W)
/-- a class of errors: where it stands, what it is -/
structure Xc (K : Frg) (mg : Str → Option Value) (x : Str) (C : Addr) : Prop where
  g : mg x = some (.ref C)
  q : PySem.W.excIn K C [.type "ValueError", .type "Exception", .type "BaseException", .type "object"] "ValueError.__new__" = true
  k : PySem.W.keepIn K (.ref C) = true
  b : PySem.W.subIn K (.ref C) (.type "BaseException") = some true
  t : PySem.W.typeIn K (.ref C) = some (.type "type")
  e : ExcC K C
  ve : PySem.W.kitOne K (.ref C) (.type "ValueError") = some true
structure CalX (P : Program) (w : World) (K : Frg) (mg : Str → Option Value) (base : Heap) (A : Around) (x : Str) (sp : Sp) : Prop where
  ex : ∃ (f : Addr) (fd : FuncData) (k : Nat) (ps : List Str), FnOk P w K mg base (L2.CX P w) k f fd ps sp ∧ Room k A ∧ mg x = some (.ref f) ∧ PySem.W.keepIn K (.ref f) = true ∧ Binds K fd ps []
theorem passAt0 {X : Cx} : ∀ σ, PassesAt (L2.CX X.prog X.w) X σ (fun _ _ _ => False) := fun σ _ _ _ _ _ _ c => by
  obtain ⟨_, _, _, _, _, _, _, _, _, _, _, _, z⟩ := c
  exact z.elim
section
variable {X : Cx} {G : Gd} {ρ : Ro} {O O1 O2 O3 : Ow} {e a b c : Expr} {d da db dc : D} {pos : Pos} {Φ Ψ : Oc → Prop} {st : Stmt} {rest : List Stmt} {Ξ : Value → Ro → Ow → Prop} {W : WX}
theorem SS.call0 {B H B' H' : Hp} {σ : L2.St} (s : SS X.prog X.w X.K G ρ O B σ H) (r : Rt X.prog X.w X.K B H [] [] B' H') : SS X.prog X.w X.K G ρ O B' σ H' :=
  s.call r (fun _ h => nomatch h) rfl fun q hq => .inr ⟨(fun z => nomatch z), hq⟩
/-- the call of a def that may raise, where it returns -/
theorem de_callX {x : Str} {R : List Sl → D → Prop} {Rx : List Sl → Value → Prop} {p : Pos} {es : List Expr} {ss : List Sl} (c : CalX X.prog X.w X.K X.mg X.base X.A x (spX X.prog X.w X.K R Rx)) (ha : DA X G ρ O (e :: es) O1 ss) (hR : R ss d) (hg : Gl X x := by rfl) (hdb : (x == ("__debug__" : Str)) = false := by decide)
    (he : starEach (e :: es) X.env = (false, eval e X.env) :: starEach es X.env := by rfl) (hpl : (backTo pos (starEach es X.env)).any (·.1) = false := by rfl) : DE X G ρ O (.Call (.Name x p) (e :: es) [] pos) O1 d := by
  obtain ⟨f, fd, k, ps, F, hr, hm, hk, hb⟩ := c.ex
  refine PEw (pe_callS F hr hg hm hk hb passAt0 ha hdb he hpl) fun σ H Q ⟨B, s, q⟩ => ⟨B, s, fun vs B1 H1 s1 e1 r => ?_⟩
  exact ⟨B1, ss, r, s1.bh, .inl ⟨d, hR, fun v B' H' rt hd => q v B' H' (s1.call0 rt) (e1.trans rt.bb) hd⟩⟩
/-- .. where it raises -/
def tEX (P : Program) (w : World) (K : Frg) (G : Gd) (ρ : Ro) (O O1 : Ow) (cls : Value) (W : WX) : TE := fun σ H _ => ∃ B, SS P w K G ρ O B σ H ∧ ∀ B' H', SS P w K G ρ O1 B' σ H' → Same B B' → W cls none σ H'
theorem dx_call {x : Str} {R : List Sl → D → Prop} {Rx : List Sl → Value → Prop} {p : Pos} {es : List Expr} {ss : List Sl} {cls : Value} (c : CalX X.prog X.w X.K X.mg X.base X.A x (spX X.prog X.w X.K R Rx)) (tk : Takes X W) (ha : DA X G ρ O (e :: es) O1 ss) (hR : Rx ss cls) (hg : Gl X x := by rfl) (hdb : (x == ("__debug__" : Str)) = false := by decide)
    (he : starEach (e :: es) X.env = (false, eval e X.env) :: starEach es X.env := by rfl) (hpl : (backTo pos (starEach es X.env)).any (·.1) = false := by rfl) : PE X (.Call (.Name x p) (e :: es) [] pos) (tEX X.prog X.w X.K G ρ O O1 cls W) := by
  obtain ⟨f, fd, k, ps, F, hr, hm, hk, hb⟩ := c.ex
  refine PEw (pe_callS F hr hg hm hk hb (fun σ => passAt tk σ) ha hdb he hpl) fun σ H Q ⟨B, s, q⟩ => ⟨B, s, fun vs B1 H1 s1 e1 r => ?_⟩
  exact ⟨B1, ss, r, s1.bh, .inr ⟨cls, hR, fun B' H' rt => q B' H' (s1.call0 rt) (e1.trans rt.bb)⟩⟩
theorem dr_expr {cls : Value} (he : PE X e (tEX X.prog X.w X.K G ρ O O1 cls W)) (k : Ξ cls ρ O1) (hs : swapsWith e none pos.line X.env = pure false := by rfl) : DR X G ρ O (.Expr e pos) Ξ W :=
  PSw (ps_expr he hs) fun Dn σ H ⟨B, s, q⟩ => ⟨B, s, fun B' H' s' e' => q cls ρ O1 B' σ H' k s' e'⟩
theorem dr_set {cls : Value} (i : Nat) {x : Str} {p : Pos} (he : PE X e (tEX X.prog X.w X.K G ρ O O1 cls W)) (k : Ξ cls ρ O1) (hN : X.N.Nodup) (hi : X.N[i]? = some x := by rfl) (hx : Loc X.env.scope x := by first | exact Or.inl rfl | exact Or.inr rfl)
    (hs : swapsWith e (some (.Name x p)) pos.line X.env = pure false := by rfl) (hf : X.fn x = true ∨ X.env.scope.names.lookup x = some .local := by first | exact .inl rfl | exact .inr rfl) : DR X G ρ O (.Assign [.Name x p] e pos) Ξ W :=
  PSw (ps_set hN hi hx he hs hf) fun Dn σ H ⟨B, s, q⟩ => ⟨B, s, fun B' H' s' e' => q cls ρ O1 B' σ H' k s' e'⟩
theorem tSX_from {B B0 : Hp} {σ : L2.St} {H : Hp} {Dn : Ends} (e : Same B B0) (s : SS X.prog X.w X.K G ρ O B0 σ H) (k : ∀ cls ρ' O' B' σ' H', Ξ cls ρ' O' → SS X.prog X.w X.K G ρ' O' B' σ' H' → Same B B' → W cls none σ' H') : tSX X.prog X.w X.K G ρ O Ξ W Dn σ H :=
  ⟨B0, s, fun a b c d f g q r t => k a b c d f g q r (e.trans t)⟩
theorem tsU_ok2 : PSs X rest (tsU X G rest) := tsU_ok (G := G)
theorem dr_here (h : DR X G ρ O st Ξ W) : DRs X G ρ O (st :: rest) Ξ W := PSsw (pss_cons h (tsU_ok (G := G))) fun Dn σ H ⟨B, s, q⟩ => ⟨B, s, q⟩
theorem dr_cons (h : DS X G ρ O st (fun o => match o with | .nx ρ' O' => DRs X G ρ' O' rest Ξ W | _ => False)) : DRs X G ρ O (st :: rest) Ξ W := by
  have hu : PSs X rest (fun Dn σ H => ∃ ρ O, DRs X G ρ O rest Ξ W ∧ tSX X.prog X.w X.K G ρ O Ξ W Dn σ H) := ⟨fun pins s σ H Dn I ⟨ρ, O, h, q⟩ => h.run pins s σ H Dn I q⟩
  exact PSsw (pss_cons h hu) fun Dn σ H ⟨B, s, k⟩ => ⟨B, s, fun ρ' O' B' σ' H' q s' e' => ⟨ρ', O', q, tSX_from e' s' k⟩, fun d ρ' O' B' σ' H' v q => q.elim, fun ρ' O' B' σ' H' q => q.elim, fun ρ' O' B' σ' H' q => q.elim⟩
def trU (X : Cx) (G : Gd) (W : WX) (body : List Stmt) : TS := fun Dn σ H => ∃ ρ O Ξ, DRs X G ρ O body Ξ W ∧ tSX X.prog X.w X.K G ρ O Ξ W Dn σ H
theorem trU_ok {body : List Stmt} : PSs X body (trU X G W body) := ⟨fun pins s σ H Dn I ⟨ρ, O, Ξ, h, q⟩ => h.run pins s σ H Dn I q⟩
theorem dr_if {k : Bool} {as bs : List Stmt} (hc : DT X G ρ O c O1 k) (h1 : k = true → DRs X G ρ O1 as Ξ W) (h2 : k = false → DRs X G ρ O1 bs Ξ W) : DR X G ρ O (.If c as bs pos) Ξ W := by
  cases k with
  | true => exact PSw (ps_if hc (trU_ok (G := G) (W := W)) (trU_ok (G := G) (W := W))) fun Dn σ H ⟨B, s, q⟩ => ⟨B, s, fun B1 H1 s1 e1 => iteT ⟨_, _, _, h1 rfl, tSX_from e1 s1 q⟩⟩
  | false => exact PSw (ps_if hc (trU_ok (G := G) (W := W)) (trU_ok (G := G) (W := W))) fun Dn σ H ⟨B, s, q⟩ => ⟨B, s, fun B1 H1 s1 e1 => iteF ⟨_, _, _, h2 rfl, tSX_from e1 s1 q⟩⟩
theorem dr_raise {x m : Str} {C : Addr} {j} {p p2 pos2 : Pos} (tk : Takes X W) (Z : Xc X.K X.mg x C) (k : Ξ (.ref C) ρ O) (hc : X.calm = true := by rfl) (hg : Gl X x := by rfl) (hdb : (x == ("__debug__" : Str)) = false := by decide) :
    DR X G ρ O (.Raise (some (.Call (.Name x p) [.Constant (.str m) j p2] [] pos)) none pos2) Ξ W :=
  PSw (ps_raise hc tk (pmk_own PySem.F.excBase_ValueError Z.q Z.g Z.k (raises_own Z.b Z.t) hg hdb)) fun Dn σ H ⟨B, s, q⟩ => q (.ref C) ρ O B σ H k s (Same.refl B)
theorem takesF : Takes X (fun _ _ _ _ => False) := fun _ _ x => by
  obtain ⟨_, _, _, _, _, _, _, _, _, _, _, _, _, _, _, _, z⟩ := x
  exact z.elim
/-- the body raises nothing -/
theorem ds_try {x n : Str} {c : Value} {body suite : List Stmt} {b₀ : Stmt} {i : Nat} {np pos' : Pos} (hb : ∀ pn xe, DSs (X.tr pn xe) G ρ O body Φ) (hc : Names X x c) (hi : X.N[i]? = some n := by rfl) (hN : X.N.Nodup) (hln : X.env.kindOf n = some .local := by rfl) (hs : X.stack = X.env :: X.outer := by rfl) (hf : X.env.frame = some X.env.locals := by rfl) :
    DS X G ρ O (.Try body [.ExceptHandler (some (.Name x np)) (some n) (b₀ :: suite) pos'] [] [] pos) Φ :=
  PSw (ps_try_as (i := i) (tb := fun _ => tS X.prog X.w X.K G ρ O Φ) (ts := fun _ _ _ => fun _ _ _ => False) hs hf hN hi hln hc takesF (fun W pn xe _ _ => hb pn xe) (fun a oe cls d pn _ _ => ⟨fun pins s σ H Dn I h => h.elim⟩)) fun Dn σ H h => h
/-- the body raises what the clause names -/
theorem ds_tryX {x n : Str} {C : Value} {body suite : List Stmt} {b₀ : Stmt} {i : Nat} {np pos' : Pos} (Ξ : Value → Ro → Ow → Prop) (hb : ∀ W pn xe, Takes (X.tr pn xe) W → DRs (X.tr pn xe) G ρ O body Ξ W) (hc : Names X x C) (hx : ∀ cls ρ' O', Ξ cls ρ' O' → PySem.W.exmOne X.K cls C = some true)
    (hsu : ∀ cls ρ' O' (a : Addr) (oe : Obj) (pn : List (Addr × Obj)), Ξ cls ρ' O' → Zc cls none oe → (∃ vs, oe.data = .fields vs) → DSs (X.suite a ((a, oe) :: pn)) G (ρ'.set i (some (.own a))) O' (b₀ :: suite) (fun o => match o with | .nx ρ O => Φ (.nx (ρ.set i none) O) | .rt d O => Φ (.rt d O) | .bk ρ O => Φ (.bk (ρ.set i none) O) | .ct ρ O => Φ (.ct (ρ.set i none) O)))
    (hi : X.N[i]? = some n := by rfl) (hN : X.N.Nodup) (hln : X.env.kindOf n = some .local := by rfl) (hs : X.stack = X.env :: X.outer := by rfl) (hf : X.env.frame = some X.env.locals := by rfl) :
    DS X G ρ O (.Try body [.ExceptHandler (some (.Name x np)) (some n) (b₀ :: suite) pos'] [] [] pos) Φ := by
  refine PSw (ps_try_as (i := i) (tb := fun W => tSX X.prog X.w X.K G ρ O Ξ W) (ts := fun a cls d => fun Dn σ H => ∃ ρ O Φ, (∀ (oe : Obj) (pn : List (Addr × Obj)), Zc cls none oe → (∃ vs, oe.data = .fields vs) → DSs (X.suite a ((a, oe) :: pn)) G ρ O (b₀ :: suite) Φ) ∧ d = none ∧ tS X.prog X.w X.K G ρ O Φ Dn σ H)
    hs hf hN hi hln hc takesF (fun W pn xe tk _ => hb W pn xe tk) (fun a oe cls d pn hz hv => ⟨fun pins s σ H Dn I ⟨ρ, O, Φ, h, hd, q⟩ => by subst hd; exact (h oe pn hz hv).run pins s σ H Dn I q⟩)) fun Dn σ H ⟨B, s, k1, k2, k3, k4⟩ => ⟨B, s, fun cls ρ' O' B' σ' H' hΞ s' e' => ?_⟩
  refine ⟨true, hx cls ρ' O' hΞ, fun _ a _ => ⟨ρ'.set i (some (.own a)), O', _, fun oe pn hz hv => hsu cls ρ' O' a oe pn hΞ hz hv, rfl, B', s'.set i (x := .own a) rfl, ?_, ?_, ?_, ?_⟩, fun h => by cases h⟩
  · exact fun ρ2 O2 B2 σ2 H2 q s2 e2 => k1 _ _ _ _ _ q (s2.slots (s2.env.unset i)) (e'.trans e2)
  · exact fun d ρ2 O2 B2 σ2 H2 v q s2 e2 hd => k2 _ _ _ _ _ _ v q s2 (e'.trans e2) hd
  · exact fun ρ2 O2 B2 σ2 H2 q s2 e2 => k3 _ _ _ _ _ q (s2.slots (s2.env.unset i)) (e'.trans e2)
  · exact fun ρ2 O2 B2 σ2 H2 q s2 e2 => k4 _ _ _ _ _ q (s2.slots (s2.env.unset i)) (e'.trans e2)
/-- isinstance(e, T), e the error in hand -/
theorem de_isErr (i : Nat) {a D1 D2 : Addr} {oe : Obj} {pn : List (Addr × Obj)} {x T : Str} {k : Bool} {px p p2 : Pos} (C : ExcC X.K D1) (hz : Zc (.ref D1) none oe) (hf : ∃ vs, oe.data = .fields vs) (hk : PySem.W.kitOne X.K (.ref D1) (.ref D2) = some k) (hm2 : X.mg T = some (.ref D2)) (hm : X.mg "isinstance" = none)
    (hr : ρ[i]? = some (some (.own a)) := by rfl) (hN : X.N[i]? = some x := by rfl) (hv : Vis X.env.scope x := by first | exact Or.inl rfl | exact Or.inr (Or.inl rfl) | exact Or.inr (Or.inr rfl)) (hd : (x == ("__debug__" : Str)) = false := by decide) (hcd : (x == ("__classdict__" : Str)) = false := by decide)
    (hg : Gl X "isinstance" := by rfl) (hg2 : Gl X T := by rfl) (hd2 : (T == ("__debug__" : Str)) = false := by decide)
    (na : starEach [Expr.Name x px, Expr.Name T p2] X.env = (false, eval (.Name x px) X.env) :: starEach [Expr.Name T p2] X.env := by rfl) (nb : starEach [Expr.Name T p2] X.env = (false, eval (.Name T p2) X.env) :: starEach [] X.env := by rfl) (hpl : (backTo pos (starEach [Expr.Name T p2] X.env)).any (·.1) = false := by rfl) :
    DE (X.suite a ((a, oe) :: pn)) G ρ O (.Call (.Name "isinstance" p) [.Name x px, .Name T p2] [] pos) O (.bool k) :=
  PEw (pe_callB (call_isE C hz hf) hg hm (by decide +kernel) (pa_cons (pe_own (G := G) i hr hN hv hd hcd) (pa_cons (pe_glob (v := .ref D2) hg2 hm2 rfl hd2) pa_nil nb) na) (by decide) (by decide) na hpl) fun σ H Q ⟨B, s, q⟩ => ⟨⟨O, B, s⟩,
    .ref D2, .ref D2, k, rfl, fun u hu => hu, hk, q _ B H s (Same.refl B) (.bl _)⟩
theorem de_isErrV (i : Nat) {a D1 : Addr} {oe : Obj} {pn : List (Addr × Obj)} {x : Str} {px p p2 : Pos} (C : ExcC X.K D1) (hz : Zc (.ref D1) none oe) (hf : ∃ vs, oe.data = .fields vs) (hk : PySem.W.kitOne X.K (.ref D1) (.type "ValueError") = some true) (hm2 : X.mg "ValueError" = none) (hm : X.mg "isinstance" = none)
    (hr : ρ[i]? = some (some (.own a)) := by rfl) (hN : X.N[i]? = some x := by rfl) (hv : Vis X.env.scope x := by first | exact Or.inl rfl | exact Or.inr (Or.inl rfl) | exact Or.inr (Or.inr rfl)) (hd : (x == ("__debug__" : Str)) = false := by decide) (hcd : (x == ("__classdict__" : Str)) = false := by decide)
    (hg : Gl X "isinstance" := by rfl) (hg2 : Gl X "ValueError" := by rfl)
    (na : starEach [Expr.Name x px, Expr.Name "ValueError" p2] X.env = (false, eval (.Name x px) X.env) :: starEach [Expr.Name "ValueError" p2] X.env := by rfl) (nb : starEach [Expr.Name "ValueError" p2] X.env = (false, eval (.Name "ValueError" p2) X.env) :: starEach [] X.env := by rfl) (hpl : (backTo pos (starEach [Expr.Name "ValueError" p2] X.env)).any (·.1) = false := by rfl) :
    DE (X.suite a ((a, oe) :: pn)) G ρ O (.Call (.Name "isinstance" p) [.Name x px, .Name "ValueError" p2] [] pos) O (.bool true) :=
  PEw (pe_callB (call_isE C hz hf) hg hm (by decide +kernel) (pa_cons (pe_own (G := G) i hr hN hv hd hcd) (pa_cons (pe_bltn (v := .ty "ValueError") (u := .type "ValueError") hg2 hm2 (by rfl) rfl) pa_nil nb) na) (by decide) (by decide) na hpl) fun σ H Q ⟨B, s, q⟩ => ⟨⟨O, B, s⟩,
    .ty "ValueError", .type "ValueError", true, rfl, fun u hu => hu, hk, q _ B H s (Same.refl B) (.bl _)⟩
end
abbrev rawX (P : Program) (w : World) (K : Frg) (mg : Str → Option Value) (base : Heap) (N : List Str) (qual : Str) (scope : Scope) (f : Addr) (cdv : Value) (A : Around) (outer : List PySem.Env) (s : Shared) (H : Hp) (E : XK) : Cx := cxOf (L2.CX P w) P w K mg base N qual scope f cdv A outer s H E
theorem fn_X {P : Program} {w : World} {K : Frg} {mg : Str → Option Value} {base : Heap} {f : Addr} {fd : FuncData} {name qual : Str} {params : Arguments} {body : List Stmt} {scope : Scope} {N ps : List Str} {k : Nat} {R : List Sl → D → Prop} {Rx : List Sl → Value → Prop} (F : FunD K name qual params body scope [] [] f fd) (S : FnScope N ps scope)
    (len : ∀ ss r, R ss r → ss.length = ps.length) (lenx : ∀ ss r, Rx ss r → ss.length = ps.length)
    (hb : ∀ (cdv : Value) (A : Around) (outer : List PySem.Env) (s : Shared) (H : Hp) (E : XK) (G : Gd) (ss : List Sl) (r : D), Room k (A.deeper (envOfC qual scope s.heap.objs.size f cdv)) → R ss r →
      DSs (rawX P w K mg base N qual scope f cdv A outer s H E).nox G (startR N ss) [] body (retO r []))
    (hx : ∀ (cdv : Value) (A : Around) (outer : List PySem.Env) (s : Shared) (H : Hp) (E : XK) (G : Gd) (ss : List Sl) (cls : Value), Room k (A.deeper (envOfC qual scope s.heap.objs.size f cdv)) → Rx ss cls → Takes (rawX P w K mg base N qual scope f cdv A outer s H E) (fun cls d _ H => E cls d H) →
      DRs (rawX P w K mg base N qual scope f cdv A outer s H E) G (startR N ss) [] body (fun c _ _ => c = cls) (fun cls d _ H => E cls d H)) : FnOk P w K mg base (L2.CX P w) (k + 1) f fd ps (spX P w K R Rx) := by
  have st : ∀ {B H : Hp} {vs : List V} {ss : List Sl}, Paired (SlR K B) vs ss → Same B H → SS P w K ⟨[], B, H⟩ (startR N ss) [] B (L2.start N vs) H := fun hp hbh =>
    ⟨hbh, Same.refl _, fun _ _ _ e => e, fun _ o e => ⟨o, e⟩, fun _ _ _ => rfl, env_start hp, (fun _ h => nomatch h), List.nodup_nil, fun _ h => nomatch h⟩
  refine F.ok S (fun vs H Q E h => ?_) (fun cdv A outer s H vs Q E hr h => ?_)
  · obtain ⟨B, ss, hp, _, h⟩ := h
    rcases h with ⟨r, hR, _⟩ | ⟨cls, hR, _⟩
    · rw [paired_len hp, len _ _ hR]
    · rw [paired_len hp, lenx _ _ hR]
  · obtain ⟨B, ss, hp, hbh, h⟩ := h
    rcases h with ⟨r, hR, q⟩ | ⟨cls, hR, q⟩
    · refine ⟨_, PSs.nox (hb cdv A outer s H E ⟨[], B, H⟩ ss r hr hR), B, st hp hbh, fun ρ' O2 B' σ' H' h => h.elim, fun d ρ' O2 B' σ' H' v h s' e' hd => ?_, fun ρ' O2 B' σ' H' h => h.elim, fun ρ' O2 B' σ' H' h => h.elim⟩
      obtain ⟨h1, h2⟩ := h
      subst h1
      exact q v B' H' (s'.rt (fun _ h => nomatch h)) hd
    · refine ⟨_, hx cdv A outer s H E ⟨[], B, H⟩ ss cls hr hR (takes_of rfl rfl rfl rfl), B, st hp hbh, fun c ρ' O' B' σ' H' hc s' e' => ?_⟩
      subst hc
      exact q B' H' (s'.rt (fun _ h => nomatch h))
def exN : List Str := ["NoSale", "NoText", "NoRoom"]
def exA : List Str := ["NoSale", "NoText", "NoRoom", "SaleError"]
abbrev isX (x y : Str) : Bool := decide (y = x) || decide (y = "SaleError")
structure Er (K : Frg) (mg : Str → Option Value) : Prop where
  cls : ∀ x, x ∈ exN → Xc K mg x (He.ga K x)
  base : mg "SaleError" = some (.ref (He.ga K "SaleError"))
  kit : ∀ x, x ∈ exN → ∀ y, y ∈ exA → PySem.W.kitOne K (.ref (He.ga K x)) (.ref (He.ga K y)) = some (isX x y)
  exm : ∀ x, x ∈ exN → ∀ y, y ∈ exA → PySem.W.exmOne K (.ref (He.ga K x)) (.ref (He.ga K y)) = some (isX x y)
  ve : mg "ValueError" = none
def xcB (K : Frg) (x : Str) : Bool := (He.Fa.glo x).ok K && ((He.Fa.exc x).ok K && (decide (PySem.W.findIn K (.ref (He.ga K x)) "__getattribute__" = some (some (.builtin "BaseException.__getattribute__"))) && (decide (PySem.W.findIn K (.ref (He.ga K x)) "__getattr__" = some none) &&
  (PySem.W.hasDictIn K (He.ga K x) && (decide (PySem.W.findIn K (.ref (He.ga K x)) "__class__" = some (some (.builtin "object.__class__"))) && (decide (PySem.W.specialIn K (.builtin "object.__class__") "__get__" = some (some (.builtin "getset_descriptor.__get__"))) &&
  (decide (PySem.W.takesIn K (.builtin "object.__class__") = some true) && (decide (PySem.W.mroIn K (He.ga K x) (.type "object") = some true) && decide (PySem.W.kitOne K (.ref (He.ga K x)) (.type "ValueError") = some true)))))))))
def xkB (K : Frg) (x y : Str) : Bool := decide (PySem.W.kitOne K (.ref (He.ga K x)) (.ref (He.ga K y)) = some (isX x y)) && decide (PySem.W.exmOne K (.ref (He.ga K x)) (.ref (He.ga K y)) = some (isX x y))
def xtB (K : Frg) : Bool := (exN.all (xcB K)) && ((exN.all fun x => exA.all fun y => xkB K x y) && ((He.Fa.glo "SaleError").ok K && (He.Fa.free "ValueError").ok K))
theorem er_of {K : Frg} {h : Heap} {mg : Str → Option Value} (X : K.In h) (G : h.Ns mainGlobals mg) (c : xtB K = true) : Er K mg := by
  obtain ⟨c1, c⟩ := He.ba c
  obtain ⟨c2, c⟩ := He.ba c
  obtain ⟨c3, c4⟩ := He.ba c
  have k2 : ∀ x, x ∈ exN → ∀ y, y ∈ exA → xkB K x y = true := fun x hx y hy => List.all_eq_true.mp (List.all_eq_true.mp c2 x hx) y hy
  refine ⟨fun x hx => ?_, He.glo_ok X G c3, fun x hx y hy => of_decide_eq_true (He.ba (k2 x hx y hy)).1, fun x hx y hy => of_decide_eq_true (He.ba (k2 x hx y hy)).2, He.free_ok X G c4⟩
  have d := List.all_eq_true.mp c1 x hx
  obtain ⟨d1, d⟩ := He.ba d
  obtain ⟨d2, d⟩ := He.ba d
  obtain ⟨d3, d⟩ := He.ba d
  obtain ⟨d4, d⟩ := He.ba d
  obtain ⟨d5, d⟩ := He.ba d
  obtain ⟨d6, d⟩ := He.ba d
  obtain ⟨d7, d⟩ := He.ba d
  obtain ⟨d8, d⟩ := He.ba d
  obtain ⟨d9, d10⟩ := He.ba d
  obtain ⟨e1, e2, e3, e4⟩ := He.exc_ok d2
  exact ⟨He.glo_ok X G d1, e1, e2, e3, e4, ⟨of_decide_eq_true d3, of_decide_eq_true d4, e3, d5, of_decide_eq_true d6, of_decide_eq_true d7, of_decide_eq_true d8, of_decide_eq_true d9⟩, of_decide_eq_true d10⟩
/-- the head's look, with the errors' classes -/
abbrev AlX : Type := He.AlD × Bool
def obsXG (n : Nat) (fa : List He.Fa) (fn : List He.DefD) (g : Addr → Option Obj) : AlX := (He.obsDG n fa fn g, xtB (He.frG g (He.asD g n)))
def hookX (n : Nat) (fa : List He.Fa) (fn : List He.DefD) : PySem.W.Hook where
  α := AlX
  obs := fun s => obsXG n fa fn s.heap.get?
  val := fun _ => (He.valD fn, true)
  says := fun _ h => ∃ K : Frg, K.In h ∧ He.SaysD fa fn K ∧ xtB K = true
  of := fun _ _ e => ⟨_, He.frG_in, congrArg Prod.fst e, congrArg Prod.snd e⟩
  keeps := fun _ _ _ ⟨K, hK, c⟩ k => ⟨K, PySem.W.Frag.In.keeps hK k, c⟩
theorem obsXG_eq {n : Nat} {fa : List He.Fa} {fn : List He.DefD} {g : Addr → Option Obj} {s : Shared} (h : ∀ a, g a = s.heap.get? a) : obsXG n fa fn g = (hookX n fa fn).obs s := by
  have e : g = s.heap.get? := funext h
  rw [e] <;> rfl
/-- a def that may raise keeps sp -/
structure CfX (P : Program) (w : World) (K : Frg) (mg : Str → Option Value) (base : Heap) (k : Nat) (x : Str) (sp : Sp) : Prop where
  ex : ∃ (f : Addr) (fd : FuncData) (ps : List Str), FnOk P w K mg base (L2.CX P w) k f fd ps sp ∧ mg x = some (.ref f) ∧ PySem.W.keepIn K (.ref f) = true ∧ Binds K fd ps []
theorem CfX.cal {P : Program} {w : World} {K : Frg} {mg : Str → Option Value} {base : Heap} {k : Nat} {x : Str} {sp : Sp} {A : Around} (c : CfX P w K mg base k x sp) (hr : Room k A) : CalX P w K mg base A x sp :=
  ⟨let ⟨f, fd, ps, a, b, c, d⟩ := c.ex; ⟨f, fd, k, ps, a, hr, b, c, d⟩⟩
theorem CfX.mono {P : Program} {w : World} {K : Frg} {mg : Str → Option Value} {base : Heap} {k j : Nat} {x : Str} {sp : Sp} (c : CfX P w K mg base j x sp) (h : j ≤ k) : CfX P w K mg base k x sp :=
  ⟨let ⟨f, fd, ps, a, b, c, d⟩ := c.ex; ⟨f, fd, ps, a.mono h, b, c, d⟩⟩
/-- a constant int of the module -/
abbrev Gi (mg : Str → Option Value) (x : Str) (i : Int) : Prop := ∃ t, mg x = some (.int i t)
end Bid

namespace Bid
open PySem PySem.Spec PyProof.Rows L2
section
variable {prog : Program} {w : World} {A : Around} {E : Value → Shared → Prop} {s : Shared}
theorem zl_next_item {z TI TO T i1 i2 l1 l2 : Addr} {f : Bool} {oT : Obj} {k1 k2 : Nat} {xs ys : Array Value} {x y : Value} {Q : Option Value → Shared → Prop} (D : ZipApart z TI TO i1 i2 l1 l2)
    (hz : IsZipHeld s.heap z TI TO T f) (hT : s.heap.get? T = some oT) (hTI : IsPair s.heap TI (.ref i1) (.ref i2))
    (h1 : s.heap.IsTupleIter i1 l1 k1) (h2 : s.heap.IsTupleIter i2 l2 k2) (hl1 : s.heap.IsTuple l1 xs) (hl2 : s.heap.IsTuple l2 ys) (hx : xs[k1]? = some x) (hy : ys[k2]? = some y)
    (hQ : ∀ h', IsZipHeld h' z TI TO T true → h'.IsTupleIter i1 l1 (k1 + 1) → h'.IsTupleIter i2 l2 (k2 + 1) → IsPair h' s.heap.objs.size x y → h'.objs.size = s.heap.objs.size + 1 →
      (∀ c o, c ≠ z → c ≠ i1 → c ≠ i2 → s.heap.get? c = some o → h'.get? c = some o) → Q (some (.ref s.heap.objs.size)) { s with heap := h' }) :
    wpAny (model prog w) A (pyNext (.ref z)) Q E s := by
  have hTy : s.TypeIs (.ref z) "zip" := ⟨_, hz, rfl⟩
  unfold pyNext
  refine wpAny_bind (wpAny_attempt (wpAny_callSpecial?_slot (name := Str.ofString "__next__") hTy F.slot_zip_next
    (wpAny_call_entry F.slot_zip_next hTy F.entry_zip_next ?_ (F.args_zip_next_1 _))))
  show wpAny _ _ (field (.ref z) 2 >>= _) _ _ _
  refine wpAny_bind (wpAny_field hz rfl (x := .bool false) rfl ?_)
  show wpAny _ _ (field (.ref z) 3 >>= _) _ _ _
  refine wpAny_bind (wpAny_field hz rfl (x := .ref TI) rfl ?_)
  refine wpAny_bind (wpAny_seqItems hTI rfl ?_)
  show wpAny _ _ (Builtin.SmallTypes.ownedTupleIsFree (.ref z) >>= _) _ _ _
  refine wpAny_bind (wpAny_tupleHeld_zip hz hT fun h₁ hz₁ hs₁ => ?_)
  simp only [Bool.false_eq_true, if_false]
  refine wpAny_bind ?_
  rw [← Array.forIn_toList]
  simp only [List.forIn_cons, List.forIn_nil]
  refine wpAny_bind (wpAny_bind (wpAny_holding ?_))
  show wpAny _ _ (Builtin.SmallTypes.nextOf (.ref i1) >>= _) _ _ _
  refine wpAny_bind (wpAny_nextOf_tuple_item (s := { s with heap := h₁ }) (h1.extBut hs₁.extBut D.i1z) (hl1.extBut hs₁.extBut D.l1z) hx fun h₂ h1₂ hs₂ => wpAny_pure ?_)
  refine wpAny_pure ?_
  refine wpAny_bind (wpAny_bind (wpAny_holding ?_))
  show wpAny _ _ (Builtin.SmallTypes.nextOf (.ref i2) >>= _) _ _ _
  refine wpAny_bind (wpAny_nextOf_tuple_item (s := { s with heap := h₂ }) ((h2.extBut hs₁.extBut D.i2z).extBut hs₂.extBut D.i12.symm) ((hl2.extBut hs₁.extBut D.l2z).extBut hs₂.extBut D.l2i1) hy fun h₃ h2₃ hs₃ => wpAny_pure ?_)
  refine wpAny_pure (wpAny_pure ?_)
  show wpAny _ _ (newTuple [x, y] >>= _) _ _ _
  refine wpAny_bind (wpAny_newTuple ?_)
  have hsz : h₃.objs.size = s.heap.objs.size := by rw [hs₃.1, hs₂.1, hs₁.1]
  have hz₃ : IsZipHeld h₃ z TI TO T true := hs₃.extBut _ _ D.i2z.symm (hs₂.extBut _ _ D.i1z.symm hz₁)
  have hk : ∀ c o, c ≠ z → c ≠ i1 → c ≠ i2 → s.heap.get? c = some o → h₃.get? c = some o := fun c o c1 c2 c3 e => hs₃.extBut _ _ c3 (hs₂.extBut _ _ c2 (hs₁.extBut _ _ c1 e))
  have h1₃ : h₃.IsTupleIter i1 l1 (k1 + 1) := h1₂.extBut hs₃.extBut D.i12
  refine wpAny_pure ⟨_, rfl, wpAny_pure ?_⟩
  show Q (some (.ref h₃.objs.size)) _
  have hp : IsPair (h₃.push { cls := .type "tuple", data := .seq #[x, y] }) h₃.objs.size x y := Heap.get?_push_size _ rfl
  have hz4 : (h₃.push { cls := .type "tuple", data := .seq #[x, y] }).objs.size = h₃.objs.size + 1 := Heap.size_push ..
  rw [hsz] at hp hz4 ⊢
  exact hQ _ (Heap.get?_push_of_some _ hz₃) (h1₃.at fun o e => Heap.get?_push_of_some _ e) (h2₃.at fun o e => Heap.get?_push_of_some _ e) hp hz4 fun c o c1 c2 c3 e => Heap.get?_push_of_some _ (hk c o c1 c2 c3 e)
theorem zl_next_end {z TI TO T i1 i2 l1 l2 : Addr} {f : Bool} {oT : Obj} {k1 k2 : Nat} {xs ys : Array Value} {Q : Option Value → Shared → Prop} (hh : A.handled = none) (D : ZipApart z TI TO i1 i2 l1 l2)
    (hz : IsZipHeld s.heap z TI TO T f) (hT : s.heap.get? T = some oT) (hTI : IsPair s.heap TI (.ref i1) (.ref i2))
    (h1 : s.heap.IsTupleIter i1 l1 k1) (h2 : s.heap.IsTupleIter i2 l2 k2) (hl1 : s.heap.IsTuple l1 xs) (hl2 : s.heap.IsTuple l2 ys) (hend : xs[k1]? = none)
    (hQ : ∀ h', (∀ c o, c ≠ z → c ≠ i1 → c ≠ i2 → s.heap.get? c = some o → h'.get? c = some o) → Q none { s with heap := h' }) : wpAny (model prog w) A (pyNext (.ref z)) Q E s := by
  have hTy : s.TypeIs (.ref z) "zip" := ⟨_, hz, rfl⟩
  unfold pyNext
  refine wpAny_bind (wpAny_attempt (wpAny_callSpecial?_slot (name := Str.ofString "__next__") hTy F.slot_zip_next
    (wpAny_call_entry F.slot_zip_next hTy F.entry_zip_next ?_ (F.args_zip_next_1 _))))
  show wpAny _ _ (field (.ref z) 2 >>= _) _ _ _
  refine wpAny_bind (wpAny_field hz rfl (x := .bool false) rfl ?_)
  show wpAny _ _ (field (.ref z) 3 >>= _) _ _ _
  refine wpAny_bind (wpAny_field hz rfl (x := .ref TI) rfl ?_)
  refine wpAny_bind (wpAny_seqItems hTI rfl ?_)
  show wpAny _ _ (Builtin.SmallTypes.ownedTupleIsFree (.ref z) >>= _) _ _ _
  refine wpAny_bind (wpAny_tupleHeld_zip hz hT fun h₁ hz₁ hs₁ => ?_)
  simp only [Bool.false_eq_true, if_false]
  refine wpAny_bind ?_
  rw [← Array.forIn_toList]
  simp only [List.forIn_cons, List.forIn_nil]
  refine wpAny_bind (wpAny_bind (wpAny_holding ?_))
  show wpAny _ _ (Builtin.SmallTypes.nextOf (.ref i1) >>= _) _ _ _
  refine wpAny_bind (wpAny_nextOf_tuple_end (s := { s with heap := h₁ }) hh (h1.extBut hs₁.extBut D.i1z) (hl1.extBut hs₁.extBut D.l1z) hend fun h₂ e hs₂ he => ?_)
  obtain ⟨o, ho, hc⟩ := he
  refine wpAny_bind (wpAny_isInstance (T := "StopIteration") (b := true) ⟨o, ho, hc⟩ isSubtype_stop ?_)
  exact wpAny_pure (hQ _ fun c o c1 c2 _ x => hs₂ _ _ c2 (hs₁.extBut _ _ c1 x))
end
theorem zip_no_len : typeLookup (.type "zip") "__len__" = pure none := by rw [typeLookup_type, builtinLookup_eq_fast]; kernel_rfl
theorem zip_no_hint : typeLookup (.type "zip") "__length_hint__" = pure none := by rw [typeLookup_type, builtinLookup_eq_fast]; kernel_rfl
/-- the zip at turn i, as the items that it gave -/
structure Zl (h0 : Heap) (N S z TI TO i1 i2 l1 l2 : Addr) (xs ys : Array Value) (h : Heap) (i : Nat) (as : List Addr) (c : Nat) : Prop where
  ti : IsPair h TI (.ref i1) (.ref i2)
  a : h.IsTupleIter i1 l1 i
  b : h.IsTupleIter i2 l2 i
  la : h.IsTuple l1 xs
  lb : h.IsTuple l2 ys
  st : (IsZip h z TI TO .none ∧ ∃ x y, IsPair h TO x y) ∨ ∃ T f oT, IsZipHeld h z TI TO T f ∧ h.get? T = some oT ∧ N ≤ T
  len : as.length = i
  nd : as.Nodup
  big : ∀ T ∈ as, N ≤ T ∧ T < h.objs.size
  at_ : ∀ (j : Nat) (T : Addr), as[j]? = some T → ∃ x y, xs[j]? = some x ∧ ys[j]? = some y ∧ IsPair h T x y
  out : h.get? S = some { cls := .type "list", dict := none, data := .seq (as.map Value.ref).toArray c, slots := #[] }
  keep : ∀ b o, b ≠ z → b ≠ TO → b ≠ i1 → b ≠ i2 → b ≠ S → h0.get? b = some o → h.get? b = some o
/-- what it leaves -/
structure Zf (h0 : Heap) (N S z TO i1 i2 : Addr) (xs ys : Array Value) (h : Heap) (as : List Addr) (c : Nat) : Prop where
  len : as.length = xs.size
  nd : as.Nodup
  big : ∀ T ∈ as, N ≤ T ∧ T < h.objs.size
  at_ : ∀ (j : Nat) (T : Addr), as[j]? = some T → ∃ x y, xs[j]? = some x ∧ ys[j]? = some y ∧ IsPair h T x y
  out : h.get? S = some { cls := .type "list", dict := none, data := .seq (as.map Value.ref).toArray c, slots := #[] }
  keep : ∀ b o, b ≠ z → b ≠ TO → b ≠ i1 → b ≠ i2 → b ≠ S → h0.get? b = some o → h.get? b = some o
section
variable {prog : Program} {w : World} {A : Around} {s : Shared} {R : Result → Shared → Prop} {h0 : Heap} {N S z TI TO i1 i2 l1 l2 : Addr} {xs ys : Array Value}
theorem neA {a b : Addr} (h : a < b) : b ≠ a := Nat.ne_of_gt h
theorem zl_loop (D : ZipApart z TI TO i1 i2 l1 l2) (hh : A.handled = none) (nz : z < N) (nTI : TI < N) (nTO : TO < N) (n1 : i1 < N) (n2 : i2 < N) (nl1 : l1 < N) (nl2 : l2 < N) (nS : S < N) (Sz : S ≠ z) (STI : S ≠ TI) (STO : S ≠ TO) (S1 : S ≠ i1) (S2 : S ≠ i2) (Sl1 : S ≠ l1) (Sl2 : S ≠ l2) (hxy : xs.size = ys.size) (hz : xs.size ≤ sizeLine) (res : Value) :
    ∀ (k i : Nat) (h : Heap) (as : List Addr) (c tk : Nat), xs.size - i = k → i ≤ xs.size → N ≤ h.objs.size → Zl h0 N S z TI TO i1 i2 l1 l2 xs ys h i as c →
    (∀ h' as' c' tk', Zf h0 N S z TO i1 i2 xs ys h' as' c' → R (.ok (.ret res)) { s with heap := h', toks := tk' }) →
    codeAny (model prog w) A (.builtin "list.extend.loop" ⟨[.ref S, .ref z, res], []⟩) R { s with heap := h, toks := tk } := by
  intro k
  induction k with
  | zero =>
    intro i h as c tk hk hi hsz Z hR
    have hin : i = xs.size := by omega
    subst hin
    refine codeAny_builtin F.entry_extend_loop ?_
    rw [Around.under_plainId F.plain_extend_loop _]
    show wpAny _ A.in1 (pyNext (.ref z) >>= _) _ _ _
    have fin : ∀ h', (∀ b o, b ≠ z → b ≠ TO → b ≠ i1 → b ≠ i2 → h.get? b = some o → h'.get? b = some o) → R (.ok (.ret res)) { s with heap := h', toks := tk } := fun h' hk' => by
      have old : ∀ b o, N ≤ b → h.get? b = some o → h'.get? b = some o := fun b o hb e => hk' b o (neA (Nat.lt_of_lt_of_le nz hb)) (neA (Nat.lt_of_lt_of_le nTO hb)) (neA (Nat.lt_of_lt_of_le n1 hb)) (neA (Nat.lt_of_lt_of_le n2 hb)) e
      refine hR h' as c tk ⟨Z.len, Z.nd, fun T hT => ⟨(Z.big T hT).1, ?_⟩, fun j T e => ?_, hk' _ _ Sz STO S1 S2 Z.out, fun b o b1 b2 b3 b4 b5 e => hk' b o b1 b2 b3 b4 (Z.keep b o b1 b2 b3 b4 b5 e)⟩
      · obtain ⟨j, hj⟩ := List.mem_iff_getElem?.mp hT
        obtain ⟨x, y, _, _, p⟩ := Z.at_ j T hj
        exact Heap.lt_size (old T _ (Z.big T hT).1 p)
      · obtain ⟨x, y, e1, e2, p⟩ := Z.at_ j T e
        exact ⟨x, y, e1, e2, old T _ (Z.big T (List.mem_of_getElem? e)).1 p⟩
    rcases Z.st with ⟨hzz, x, y, hTO⟩ | ⟨T, f, oT, hzz, hT, _⟩
    · refine wpAny_bind (RZ.pyNext_zipT_end (A := A.in1) (s := { s with heap := h, toks := tk }) hh D hzz Z.ti hTO Z.a Z.b Z.la Z.lb (.inl (by simp)) fun h' hk' => wpAny_pure (fin h' fun b o b1 b2 b3 b4 e => hk' b o b1 b2 b3 b4 e))
    · refine wpAny_bind (zl_next_end (A := A.in1) (s := { s with heap := h, toks := tk }) hh D hzz hT Z.ti Z.a Z.b Z.la Z.lb (by simp) fun h' hk' => wpAny_pure (fin h' fun b o b1 b2 b3 b4 e => hk' b o b1 b3 b4 e))
  | succ k ih =>
    intro i h as c tk hk hi hsz Z hR
    have hlt : i < xs.size := by omega
    have ex := Array.getElem?_eq_getElem hlt
    have ey := Array.getElem?_eq_getElem (show i < ys.size by omega)
    refine codeAny_builtin F.entry_extend_loop ?_
    rw [Around.under_plainId F.plain_extend_loop _]
    show wpAny _ A.in1 (pyNext (.ref z) >>= _) _ _ _
    -- the item given stands at the heap's end
    have step : ∀ h', (∀ b o, b ≠ z → b ≠ TO → b ≠ i1 → b ≠ i2 → h.get? b = some o → h'.get? b = some o) → h'.IsTupleIter i1 l1 (i + 1) → h'.IsTupleIter i2 l2 (i + 1) → IsPair h' h.objs.size xs[i] ys[i] → h'.objs.size = h.objs.size + 1 →
        ((IsZip h' z TI TO .none ∧ ∃ x y, IsPair h' TO x y) ∨ ∃ T f oT, IsZipHeld h' z TI TO T f ∧ h'.get? T = some oT ∧ N ≤ T) →
        wpAny (model prog w) A.in1 (updateSeq S (·.push (.ref h.objs.size)) >>= fun _ => again (.builtin "list.extend.loop" ⟨[.ref S, .ref z, res], []⟩)) (fun fin s' => match fin with | .done f => R (.ok f) s' | .again c' => c'.quiet = true ∧ codeAny (model prog w) A c' R s') (fun e s' => R (.error e) s') { s with heap := h', toks := tk } := by
      intro h' hk' ha hb hp hsz' hst
      have hS' := hk' _ _ Sz STO S1 S2 Z.out
      have old : ∀ b o, N ≤ b → h.get? b = some o → h'.get? b = some o := fun b o hb e => hk' b o (neA (Nat.lt_of_lt_of_le nz hb)) (neA (Nat.lt_of_lt_of_le nTO hb)) (neA (Nat.lt_of_lt_of_le n1 hb)) (neA (Nat.lt_of_lt_of_le n2 hb)) e
      have oth : ∀ b o, b ≠ S → h'.get? b = some o → (h'.update S (Obj.mapSeq (·.push (Value.ref h.objs.size)))).get? b = some o := fun b o hb e => (Heap.get?_update_other _ _ (Ne.symm hb)).trans e
      have hz2 : (h'.update S (Obj.mapSeq (·.push (Value.ref h.objs.size)))).objs.size = h.objs.size + 1 := by rw [Heap.size_update, hsz']
      have nbS : ∀ b, N ≤ b → b ≠ S := fun b hb => neA (Nat.lt_of_lt_of_le nS hb)
      have hn1 : h.objs.size ∉ as := fun hm => Nat.lt_irrefl _ (Z.big _ hm).2
      have hS2 := Heap.get?_update_self (Obj.mapSeq (·.push (Value.ref h.objs.size))) hS' rfl
      have hq : ((as.map Value.ref).toArray.push (.ref h.objs.size)) = ((as ++ [h.objs.size]).map Value.ref).toArray := by
        rw [List.map_append]
        simp
      simp only [Obj.mapSeq, hq] at hS2
      obtain ⟨c2, hS2⟩ : ∃ c2, (h'.update S (Obj.mapSeq (·.push (Value.ref h.objs.size)))).get? S = some { cls := .type "list", dict := none, data := .seq ((as ++ [h.objs.size]).map Value.ref).toArray c2, slots := #[] } := ⟨_, hS2⟩
      refine wpAny_bind (wpAny_updateSeq hS' rfl (wpAny_pure ⟨plainId_quiet F.plain_extend_loop _, ih (i + 1) _ (as ++ [h.objs.size]) c2 tk (by omega) hlt (by rw [hz2]; exact Nat.le_succ_of_le hsz) ⟨?_, ?_, ?_, ?_, ?_, ?_, ?_, ?_, ?_, ?_, ?_, ?_⟩ hR⟩) ?_ ?_)
      · exact oth _ _ (Ne.symm STI) (hk' _ _ D.TIz D.TITO D.TIi1 D.TIi2 Z.ti)
      · exact ha.at fun o e => oth _ o (Ne.symm S1) e
      · exact hb.at fun o e => oth _ o (Ne.symm S2) e
      · exact Z.la.at fun o e => oth _ o (Ne.symm Sl1) (hk' _ o D.l1z D.l1TO D.l1i1 D.l1i2 e)
      · exact Z.lb.at fun o e => oth _ o (Ne.symm Sl2) (hk' _ o D.l2z D.l2TO D.l2i1 D.l2i2 e)
      · rcases hst with ⟨q, x, y, q2⟩ | ⟨T, f, oT, q, q2, q3⟩
        · exact .inl ⟨oth _ _ (Ne.symm Sz) q, x, y, oth _ _ (Ne.symm STO) q2⟩
        · exact .inr ⟨T, f, oT, oth _ _ (Ne.symm Sz) q, oth _ _ (nbS T q3) q2, q3⟩
      · rw [List.length_append, Z.len]; rfl
      · rw [List.nodup_append]
        refine ⟨Z.nd, by simp, fun a ha b hb => ?_⟩
        rw [List.mem_singleton] at hb
        subst hb
        exact fun e => hn1 (e ▸ ha)
      · intro T hT
        rw [hz2]
        rcases List.mem_append.mp hT with q | q
        · exact ⟨(Z.big T q).1, Nat.lt_succ_of_lt (Z.big T q).2⟩
        · rw [List.mem_singleton.mp q]
          exact ⟨hsz, Nat.lt_succ_self _⟩
      · intro j T e
        by_cases hj : j < as.length
        · rw [List.getElem?_append_left hj] at e
          obtain ⟨x, y, e1, e2, p⟩ := Z.at_ j T e
          have hb := (Z.big T (List.mem_of_getElem? e)).1
          exact ⟨x, y, e1, e2, oth _ _ (nbS T hb) (old T _ hb p)⟩
        · have hl := Z.len
          have hj2 : j = i := by
            have h3 := (List.getElem?_eq_some_iff.mp e).1
            rw [List.length_append, List.length_singleton] at h3
            omega
          subst hj2
          rw [List.getElem?_append_right (by omega), hl, Nat.sub_self] at e
          have e : h.objs.size = T := Option.some.inj e
          subst e
          exact ⟨_, _, ex, ey, oth _ _ (nbS _ hsz) hp⟩
      · exact hS2
      · intro b o b1 b2 b3 b4 b5 e
        exact oth b o b5 (hk' b o b1 b2 b3 b4 (Z.keep b o b1 b2 b3 b4 b5 e))
      · have hl := Z.len
        simp
        omega
      · show ((as.map Value.ref).toArray.push _).size ≤ sizeLine + 1
        have hl := Z.len
        simp
        omega
    rcases Z.st with ⟨hzz, x, y, hTO⟩ | ⟨T, f, oT, hzz, hT, hTN⟩
    · refine wpAny_bind (RZ.pyNext_zipT_item (A := A.in1) (s := { s with heap := h, toks := tk }) D hzz Z.ti hTO Z.a Z.b Z.la Z.lb ex ey fun h' a1 a2 a3 a4 a5 a6 hk' => ?_)
      exact step h' (fun b o b1 b2 b3 b4 e => hk' b o b1 b2 b3 b4 e) a3 a4 a5 a6 (.inr ⟨h.objs.size, false, _, a1, a5, hsz⟩)
    · refine wpAny_bind (zl_next_item (A := A.in1) (s := { s with heap := h, toks := tk }) D hzz hT Z.ti Z.a Z.b Z.la Z.lb ex ey fun h' a1 a3 a4 a5 a6 hk' => ?_)
      exact step h' (fun b o b1 b2 b3 b4 e => hk' b o b1 b3 b4 e) a3 a4 a5 a6 (.inr ⟨T, true, oT, a1, hk' _ _ (neA (Nat.lt_of_lt_of_le nz hTN)) (neA (Nat.lt_of_lt_of_le n1 hTN)) (neA (Nat.lt_of_lt_of_le n2 hTN)) hT, hTN⟩)
theorem zl_extend (D : ZipApart z TI TO i1 i2 l1 l2) (hh : A.handled = none) (nz : z < N) (nTI : TI < N) (nTO : TO < N) (n1 : i1 < N) (n2 : i2 < N) (nl1 : l1 < N) (nl2 : l2 < N) (nS : S < N) (Sz : S ≠ z) (STI : S ≠ TI) (STO : S ≠ TO) (S1 : S ≠ i1) (S2 : S ≠ i2) (Sl1 : S ≠ l1) (Sl2 : S ≠ l2) (hxy : xs.size = ys.size) (hz : xs.size ≤ sizeLine) (res : Value) (c : Nat)
    (hN : N ≤ s.heap.objs.size) (qz : IsZip s.heap z TI TO .none) (qTI : IsPair s.heap TI (.ref i1) (.ref i2)) (qTO : IsPair s.heap TO .none .none) (q1 : s.heap.IsTupleIter i1 l1 0) (q2 : s.heap.IsTupleIter i2 l2 0) (ql1 : s.heap.IsTuple l1 xs) (ql2 : s.heap.IsTuple l2 ys)
    (qS : s.heap.get? S = some { cls := .type "list", data := .seq #[] c })
    (hR : ∀ h' as' c' tk', Zf s.heap N S z TO i1 i2 xs ys h' as' c' → R (.ok (.ret res)) { s with heap := h', toks := tk' }) :
    wpAny (model prog w) A.in1 (Builtin.List.listExtendWith (.ref S) (.ref z) res)
      (fun fin s' => match fin with | .done f => R (.ok f) s' | .again c' => c'.quiet = true ∧ codeAny (model prog w) A c' R s') (fun e s' => R (.error e) s') s := by
  have hT : s.TypeIs (.ref z) "zip" := ⟨_, qz, rfl⟩
  unfold Builtin.List.listExtendWith
  refine wpAny_bind (wpAny_typeOf hT ?_)
  have h1 : Builtin.List.listSameRef (.ref S) (.ref z) = false := by simp [Builtin.List.listSameRef, Sz]
  have h2 : (Value.type "zip" == Value.type "list") = false := by decide
  have h3 : (Value.type "zip" == Value.type "tuple") = false := by decide
  simp only [h1, h2, h3, Bool.or_false, Bool.false_eq_true, if_false]
  refine wpAny_bind (wpAny_pyIter_zip qz ?_)
  refine wpAny_bind (wpAny_holding ?_)
  unfold Builtin.List.listLengthHint
  refine wpAny_bind (wpAny_specialOf hT zip_no_len ?_)
  show wpAny _ A.in1 (specialOf (Value.ref z) (Str.ofString "__length_hint__") >>= _) _ _ _
  refine wpAny_bind (wpAny_specialOf hT zip_no_hint ?_)
  refine wpAny_pure ?_
  show wpAny _ A.in1 (rule "list.extend.makes-room" >>= fun _ => Builtin.List.listTouch (.ref S) >>= fun _ =>
    again (.builtin "list.extend.loop" ⟨[.ref S, .ref z, res], []⟩)) _ _ _
  refine wpAny_bind (wpAny_rule ?_)
  refine wpAny_bind ?_
  show wpAny _ A.in1 (updateSeq S (·.push .none) >>= fun _ => updateSeq S (·.pop)) _ _ _
  refine wpAny_bind (wpAny_updateSeq qS rfl ?_)
  have hS₂ := Heap.get?_update_self (Obj.mapSeq (·.push Value.none)) qS rfl
  refine wpAny_updateSeq (hz := by seq_fits) hS₂ rfl ?_
  have hS₃ := Heap.get?_update_self (Obj.mapSeq (·.pop)) hS₂ rfl
  have oth : ∀ b o, b ≠ S → s.heap.get? b = some o → ((s.heap.update S (Obj.mapSeq (·.push Value.none))).update S (Obj.mapSeq (·.pop))).get? b = some o :=
    fun b o hb e => (Heap.get?_update_other _ _ (Ne.symm hb)).trans ((Heap.get?_update_other _ _ (Ne.symm hb)).trans e)
  have hsz : ((s.heap.update S (Obj.mapSeq (·.push Value.none))).update S (Obj.mapSeq (·.pop))).objs.size = s.heap.objs.size := by rw [Heap.size_update, Heap.size_update]
  refine wpAny_pure ⟨plainId_quiet F.plain_extend_loop _, zl_loop (h0 := s.heap) D hh nz nTI nTO n1 n2 nl1 nl2 nS Sz STI STO S1 S2 Sl1 Sl2 hxy hz res _ 0 _ [] _ _ rfl (Nat.zero_le _) (by rw [hsz]; exact hN) ⟨?_, ?_, ?_, ?_, ?_, ?_, rfl, List.nodup_nil, (fun T hT => nomatch hT), (fun j T e => by simp at e), hS₃, fun b o _ _ _ _ b5 e => oth b o b5 e⟩ hR⟩
  · exact oth _ _ (Ne.symm STI) qTI
  · exact q1.at fun o e => oth _ o (Ne.symm S1) e
  · exact q2.at fun o e => oth _ o (Ne.symm S2) e
  · exact ql1.at fun o e => oth _ o (Ne.symm Sl1) e
  · exact ql2.at fun o e => oth _ o (Ne.symm Sl2) e
  · exact .inl ⟨oth _ _ (Ne.symm Sz) qz, _, _, oth _ _ (Ne.symm STO) qTO⟩
theorem zl_init (D : ZipApart z TI TO i1 i2 l1 l2) (hh : A.handled = none) (nz : z < N) (nTI : TI < N) (nTO : TO < N) (n1 : i1 < N) (n2 : i2 < N) (nl1 : l1 < N) (nl2 : l2 < N) (nS : S < N) (Sz : S ≠ z) (STI : S ≠ TI) (STO : S ≠ TO) (S1 : S ≠ i1) (S2 : S ≠ i2) (Sl1 : S ≠ l1) (Sl2 : S ≠ l2) (hxy : xs.size = ys.size) (hz : xs.size ≤ sizeLine)
    (hN : N ≤ s.heap.objs.size) (qz : IsZip s.heap z TI TO .none) (qTI : IsPair s.heap TI (.ref i1) (.ref i2)) (qTO : IsPair s.heap TO .none .none) (q1 : s.heap.IsTupleIter i1 l1 0) (q2 : s.heap.IsTupleIter i2 l2 0) (ql1 : s.heap.IsTuple l1 xs) (ql2 : s.heap.IsTuple l2 ys)
    (qS : s.heap.get? S = some { cls := .type "list", data := .seq #[] })
    (hR : ∀ h' as' c' tk', Zf s.heap N S z TO i1 i2 xs ys h' as' c' → R (.ok (.ret .none)) { s with heap := h', toks := tk' }) :
    wpAny (model prog w) A.in1 (Builtin.«list.__init__» ⟨[.ref S, .ref z], []⟩)
      (fun fin s' => match fin with | .done f => R (.ok f) s' | .again c' => c'.quiet = true ∧ codeAny (model prog w) A c' R s') (fun e s' => R (.error e) s') s := by
  show wpAny _ A.in1 (do let old ← Builtin.List.listItems (.ref S); Builtin.List.listUpdate (.ref S) (fun _ => #[]); letGo old.toList.reverse; Builtin.List.listExtendWith (.ref S) (.ref z) .none) _ _ s
  refine wpAny_bind ?_
  unfold Builtin.List.listItems
  refine wpAny_bind (wpAny_seqItems qS rfl (wpAny_pure ?_))
  show wpAny _ A.in1 (updateSeq S (fun _ => #[]) >>= fun _ => letGo (#[] : Array Value).toList.reverse >>= fun _ => Builtin.List.listExtendWith (.ref S) (.ref z) .none) _ _ s
  refine wpAny_bind (wpAny_updateSeq qS rfl ?_)
  have hS₂ := Heap.get?_update_self (Obj.mapSeq (fun _ => (#[] : Array Value))) qS rfl
  have oth : ∀ b o, b ≠ S → s.heap.get? b = some o → (s.heap.update S (Obj.mapSeq (fun _ => (#[] : Array Value)))).get? b = some o :=
    fun b o hb e => (Heap.get?_update_other _ _ (Ne.symm hb)).trans e
  refine wpAny_bind (wpAny_letGo ?_)
  refine zl_extend D hh nz nTI nTO n1 n2 nl1 nl2 nS Sz STI STO S1 S2 Sl1 Sl2 hxy hz .none _ (by rw [Heap.size_update]; exact hN) (oth _ _ (Ne.symm Sz) qz) (oth _ _ (Ne.symm STI) qTI) (oth _ _ (Ne.symm STO) qTO) (q1.at fun o e => oth _ o (Ne.symm S1) e) (q2.at fun o e => oth _ o (Ne.symm S2) e) (ql1.at fun o e => oth _ o (Ne.symm Sl1) e) (ql2.at fun o e => oth _ o (Ne.symm Sl2) e) hS₂ fun h' as' c' tk' z => ?_
  exact hR h' as' c' tk' ⟨z.len, z.nd, z.big, z.at_, z.out, fun b o b1 b2 b3 b4 b5 e => z.keep b o b1 b2 b3 b4 b5 (oth b o b5 e)⟩
end
section
variable {prog : Program} {w : World} {A : Around} {E : Value → Shared → Prop} {s : Shared} {z TI TO i1 i2 l1 l2 : Addr} {xs ys : Array Value}
theorem zl_call {Q : Value → Shared → Prop} (D : ZipApart z TI TO i1 i2 l1 l2) (hh : A.handled = none) (nz : z < s.heap.objs.size) (nTI : TI < s.heap.objs.size) (nTO : TO < s.heap.objs.size) (n1 : i1 < s.heap.objs.size) (n2 : i2 < s.heap.objs.size) (nl1 : l1 < s.heap.objs.size) (nl2 : l2 < s.heap.objs.size) (hxy : xs.size = ys.size) (hz : xs.size ≤ sizeLine)
    (qz : IsZip s.heap z TI TO .none) (qTI : IsPair s.heap TI (.ref i1) (.ref i2)) (qTO : IsPair s.heap TO .none .none) (q1 : s.heap.IsTupleIter i1 l1 0) (q2 : s.heap.IsTupleIter i2 l2 0) (ql1 : s.heap.IsTuple l1 xs) (ql2 : s.heap.IsTuple l2 ys)
    (hQ : ∀ h' as' c' tk', Zf s.heap (s.heap.objs.size + 1) s.heap.objs.size z TO i1 i2 xs ys h' as' c' → Q (.ref s.heap.objs.size) { s with heap := h', toks := tk' }) :
    wpAny (model prog w) A (call (.type "list") [.ref z]) Q E s := by
  refine callType_codes (Q₁ := fun obj s₁ => obj = .ref s.heap.objs.size ∧ s₁ = { s with heap := s.heap.push { cls := .type "list", data := .seq #[] } }) F.called_list (F.typeCall_list_1 _) F.entry_list_init
    (code_list_new _ ⟨rfl, rfl⟩) fun obj s₁ h₁ => ?_
  obtain ⟨rfl, rfl⟩ := h₁
  have hS : (s.heap.push { cls := .type "list", data := .seq #[] }).get? s.heap.objs.size = some { cls := .type "list", data := .seq #[] } := Heap.get?_push_size _ rfl
  have oth : ∀ b o, s.heap.get? b = some o → (s.heap.push { cls := .type "list", data := .seq #[] }).get? b = some o := fun b o e => Heap.get?_push_of_some _ e
  have up : ∀ {b : Addr}, b < s.heap.objs.size → b < s.heap.objs.size + 1 := fun h => Nat.lt_succ_of_lt h
  refine ⟨⟨_, hS, rfl⟩, F.args_list_init_2 _ _, zl_init (A := A.in1) (N := s.heap.objs.size + 1) D hh (up nz) (up nTI) (up nTO) (up n1) (up n2) (up nl1) (up nl2) (Nat.lt_succ_self _) (neA nz) (neA nTI) (neA nTO) (neA n1) (neA n2) (neA nl1) (neA nl2) hxy hz (by show _ ≤ (Heap.push _ _).objs.size; rw [Heap.size_push]; exact Nat.le_refl _) (oth _ _ qz) (oth _ _ qTI) (oth _ _ qTO) (q1.at fun o e => oth _ o e) (q2.at fun o e => oth _ o e) (ql1.at fun o e => oth _ o e) (ql2.at fun o e => oth _ o e) hS fun h' as' c' tk' z => ?_⟩
  exact ⟨rfl, hQ h' as' c' tk' ⟨z.len, z.nd, z.big, z.at_, z.out, fun b o b1 b2 b3 b4 b5 e => z.keep b o b1 b2 b3 b4 b5 (oth b o e)⟩⟩
end
end Bid

namespace Bid
open PySem PySem.Spec PyProof.Rows L2
section
variable {P : Program} {w : World} {K : Frg} {G : Gd} {ρ : Ro} {O : Ow} {σ : L2.St} {h : Heap}
theorem lay_pairs : ∀ {as : List Addr} {xs ys : List V} {ds es : List D} {H B : Hp}, HOk P w H h → SS P w K G ρ O B σ H → as.Nodup → (∀ T ∈ as, H T = none) → as.length = xs.length → as.length = ys.length → DpAll K B xs ds → DpAll K B ys es →
    (∀ (j : Nat) (T : Addr), as[j]? = some T → ∃ x y u v, xs[j]? = some x ∧ ys[j]? = some y ∧ RelV x u ∧ RelV y v ∧ PySem.IsPair h T u v) →
    ∃ B' H', HOk P w H' h ∧ SS P w K G ρ O B' σ H' ∧ Same B B' ∧ DpAll K B' (as.map V.ref) (List.zipWith (fun x y => .tuple [x, y]) ds es) ∧ (∀ b, b ∉ as → H' b = H b)
  | [], [], [], ds, es, H, B, ok, s, _, _, _, _, hd, he, _ => by
    cases hd
    exact ⟨B, H, ok, s, Same.refl B, .nil, fun b _ => rfl⟩
  | T :: as, x :: xs, y :: ys, ds, es, H, B, ok, s, nd, fr, l1, l2, hd, he, hp => by
    cases hd with
    | @cons _ d _ ds h1 t1 =>
      cases he with
      | @cons _ e _ es h2 t2 =>
        obtain ⟨x', y', u, v, e1, e2, r1, r2, p⟩ := hp 0 T rfl
        cases e1
        cases e2
        have nT := fr T (List.mem_cons_self ..)
        rw [List.nodup_cons] at nd
        have sm : Same B (upd B T (.tup [x, y])) := same_upd (s.fresh_b nT)
        obtain ⟨B', H', ok', s', sm', dp, ag⟩ := lay_pairs (as := as) (xs := xs) (ys := ys) (H := upd H T (.tup [x, y])) (B := upd B T (.tup [x, y]))
          (HOk.laidN ok (fun _ _ q => q) nT ⟨by show 2 ≤ _; rw [sizeLine_eq]; omega, [u, v], .cons r1 (.cons r2 .nil), _, p, rfl, _, rfl⟩) (s.laid nT) nd.2
          (fun T' hT' => by rw [upd_ne (fun z : T' = T => nd.1 (z ▸ hT'))]; exact fr T' (List.mem_cons_of_mem _ hT')) (by simpa using l1) (by simpa using l2) (dpAll_mono sm _ _ t1) (dpAll_mono sm _ _ t2)
          (fun j T' e => hp (j + 1) T' e)
        refine ⟨B', H', ok', s', sm.trans sm', .cons (dp_mono sm' _ _ ?_) dp, fun b hb => ?_⟩
        · exact .tup (.inl (.inl upd_same)) (.cons (dp_mono sm _ _ h1) (.cons (dp_mono sm _ _ h2) .nil))
        · rw [ag b fun z => hb (List.mem_cons_of_mem _ z), upd_ne fun z : b = T => hb (z ▸ List.mem_cons_self ..)]
  | [], _ :: _, _, _, _, _, _, _, _, _, _, l1, _, _, _, _ => by simp at l1
  | [], [], _ :: _, _, _, _, _, _, _, _, _, _, l2, _, _, _ => by simp at l2
  | _ :: _, [], _, _, _, _, _, _, _, _, _, l1, _, _, _, _ => by simp at l1
  | _ :: _, _ :: _, [], _, _, _, _, _, _, _, _, _, l2, _, _, _ => by simp at l2
end
theorem un_many {fs ex : List Addr} {H H' : Hp} {h h' : Heap} {P : Program} {w : World} (ok : HOk P w H h) (k : ∀ b u, h.get? b = some u → h'.get? b = some u) (ag : ∀ b, b < h.objs.size → H' b = H b) : Un fs ex H H' h h' where
  keep := fun b u q _ _ _ => k b u q
  slot := fun b u q _ _ _ => ⟨u.slots, k b u q⟩
  free := fun b u q n _ => by rw [ag b (Heap.lt_size q)]; exact n
  there := fun b u q _ => ⟨u, k b u q⟩
  tups := fun b xs q => by rw [ag b (ok.lt q)]; exact q
  frzs := fun b u xs q => by rw [ag b (ok.lt q)]; exact q
  tbls := fun b ps q => ⟨#[], by rw [ag b (ok.lt q), q]; simp⟩
theorem vals_get : ∀ {xs : List V} {us : List Value} {i : Nat} {u : Value}, Vals xs us → us[i]? = some u → ∃ x, xs[i]? = some x ∧ RelV x u
  | _, _, _, _, .nil, e => by simp at e
  | _, _, 0, _, .cons r _, e => by simp at e; subst e; exact ⟨_, rfl, r⟩
  | _, _, i + 1, u, .cons _ t, e => by
    obtain ⟨v, h1, h2⟩ := vals_get (i := i) t (by simpa using e)
    exact ⟨v, by simpa using h1, h2⟩
theorem vals_refs : ∀ (as : List Addr), Vals (as.map V.ref) (as.map Value.ref)
  | [] => .nil
  | a :: as => .cons rfl (vals_refs as)
section
variable {X : Cx} {G : Gd} {ρ : Ro} {O O1 O2 : Ow} {a b : Expr} {pos pos2 : Pos}
/-- list(zip(a, b)) of two tuples of one length -/
theorem de_listZip {ds es : List D} {p p2 : Pos} (hl : ds.length = es.length) (hm : X.mg "list" = none) (hm2 : X.mg "zip" = none) (ha : DE X G ρ O a O1 (.tuple ds)) (hb : DE X G ρ O1 b O2 (.tuple es)) (hc : X.calm = true := by rfl) (hg : Gl X "list" := by rfl) (hg2 : Gl X "zip" := by rfl)
    (na : starEach [a, b] X.env = (false, eval a X.env) :: starEach [b] X.env := by rfl) (nb : starEach [b] X.env = (false, eval b X.env) :: starEach [] X.env := by rfl) (hpl : (backTo pos2 (starEach [b] X.env)).any (·.1) = false := by rfl)
    (nc : starEach [Expr.Call (.Name "zip" p2) [a, b] [] pos2] X.env = (false, eval (.Call (.Name "zip" p2) [a, b] [] pos2) X.env) :: starEach [] X.env := by rfl) (hpl2 : (backTo pos (starEach [] X.env)).any (·.1) = false := by rfl) :
    DE X G ρ O (.Call (.Name "list" p) [.Call (.Name "zip" p2) [a, b] [] pos2] [] pos) O2 (.list (List.zipWith (fun x y => .tuple [x, y]) ds es)) := by
  refine ⟨fun pins s σ H Q I h => ?_⟩
  obtain ⟨B, s0, k⟩ := h
  refine Call_ (ld_blt I hg hm boot_list (PyProof.Rows.callWith_type1 (args_cons ?_ nc) nc hpl2))
  refine Call_ (ld_blt I hg2 hm2 PyProof.Rows.boot_zip (PyProof.Rows.callWith_type1 (thn ((da_cons ha (da_cons hb da_nil nb) na).run pos2 pins s σ H _ I ⟨B, s0, fun vs B' H' s' e' r => (show (fun vs H' => ∃ B', SS X.prog X.w X.K G ρ O2 B' σ H' ∧ Same B B' ∧ Paired (SlR X.K B') vs [.d (.tuple ds), .d (.tuple es)]) vs H' from ⟨B', s', e', r⟩)⟩) fun us s1 ⟨vs, H1, I1, r1, q1⟩ => ?_) na hpl))
  obtain ⟨B1, ss1, sm1, pr⟩ := q1
  cases pr with
  | cons g1 pr =>
    cases pr with
    | cons g2 pr =>
      cases pr
      have g1 : Dp X.K B1 _ (.tuple ds) := g1
      have g2 : Dp X.K B1 _ (.tuple es) := g2
      cases g1 with
      | @tup l1 xs _ hq1 hd1 =>
        cases g2 with
        | @tup l2 ys _ hq2 hd2 =>
          cases r1 with
          | cons r r1 =>
            cases r1 with
            | cons r' r1 =>
              cases r1
              cases r
              cases r'
              obtain ⟨its, rv, p1, sz1⟩ := I1.tuple (same_t ss1.bh hq1)
              obtain ⟨its2, rv2, p2, _⟩ := I1.tuple (same_t ss1.bh hq2)
              obtain ⟨o1, ho1, _⟩ := id p1
              obtain ⟨o2, ho2, _⟩ := id p2
              have nl1 := Heap.lt_size ho1
              have nl2 := Heap.lt_size ho2
              have lx := dpl_length hd1
              have ly := dpl_length hd2
              have lv := rv.length
              have lv2 := rv2.length
              refine RZ.call_zipT (show s1.heap.IsTuple l1 its.toArray from p1) (show s1.heap.IsTuple l2 its2.toArray from p2) fun h0 hz hTI hTO h1 h2 hsz hk => args_nil ?_
              have up : ∀ {b : Addr} (n : Nat), b < s1.heap.objs.size → b < h0.objs.size := fun n hb => by rw [hsz]; exact Nat.lt_of_lt_of_le hb (Nat.le_add_right _ _)
              have up2 : ∀ (n : Nat), n < 5 → s1.heap.objs.size + n < h0.objs.size := fun n hn => by rw [hsz]; exact Nat.add_lt_add_left hn _
              refine zl_call (s := { s1 with heap := h0 }) (PySem.W.ktu_apart s1.heap.objs.size l1 l2 nl1 nl2) (I1.ok.hd hc) (up2 4 (by omega)) (up2 2 (by omega)) (up2 3 (by omega)) (up2 0 (by omega)) (up2 1 (by omega)) (up 0 nl1) (up 0 nl2) (xs := its.toArray) (ys := its2.toArray) (by simp; omega) (by simp; omega) hz hTI hTO h1 h2 (PySem.Heap.IsTuple.at p1 fun o e => hk _ o e) (PySem.Heap.IsTuple.at p2 fun o e => hk _ o e) fun h' as c tk Z => ?_
              have old : ∀ b u, s1.heap.get? b = some u → h'.get? b = some u := fun b u e => by
                have hb := Heap.lt_size e
                have ne : ∀ n, b ≠ s1.heap.objs.size + n := fun n => Nat.ne_of_lt (Nat.lt_of_lt_of_le hb (Nat.le_add_right _ _))
                exact Z.keep b u (ne 4) (ne 3) (ne 0) (ne 1) (fun z => by rw [z, hsz] at hb; exact absurd hb (Nat.not_lt.mpr (Nat.le_add_right _ _))) (hk b u e)
              have big : ∀ T ∈ as, s1.heap.objs.size ≤ T := fun T hT => Nat.le_trans (by rw [hsz]; exact Nat.le_add_right _ 6) (Z.big T hT).1
              have la := Z.len
              have hla : as.length = its.length := by simpa using la
              obtain ⟨B2, H2, ok2, ss2, sm2, dp, ag⟩ := lay_pairs (as := as) (xs := xs) (ys := ys) (I1.hok.kept old) ss1 Z.nd (fun T hT => I1.hok.fresh (big T hT)) (by omega) (by omega) hd1 hd2 (fun j T e => by
                obtain ⟨u, v, e1, e2, pp⟩ := Z.at_ j T e
                obtain ⟨x, e3, r3⟩ := vals_get rv (by simpa using e1)
                obtain ⟨y, e4, r4⟩ := vals_get rv2 (by simpa using e2)
                exact ⟨x, y, u, v, e3, e4, r3, r4, pp⟩)
              have hS : s1.heap.objs.size ≤ h0.objs.size := by rw [hsz]; exact Nat.le_add_right _ _
              have nS : H2 h0.objs.size = none := by
                rw [ag _ fun hm => ?_]
                · exact I1.hok.fresh hS
                · exact absurd (Z.big _ hm).1 (Nat.not_succ_le_self _)
              have ok3 : HOk X.prog X.w (upd H2 h0.objs.size (.lst (as.map V.ref))) h' := HOk.laidN ok2 (fun _ _ q => q) nS ⟨by rw [List.length_map, hla]; omega, as.map Value.ref, c, vals_refs as, Z.out⟩
              refine ⟨.ref h0.objs.size, _, I1.un (h' := h') (t' := tk) (un_many I1.hok old fun b hb => ?_) ok3, rfl, k _ _ _ (ss2.laid nS) ((sm1.trans sm2).trans (same_upd (ss2.fresh_b nS))) (.lst (.inl (.inl upd_same)) (dpAll_mono (same_upd (ss2.fresh_b nS)) _ _ dp))⟩
              rw [upd_ne (fun z => by rw [z] at hb; exact absurd hS (Nat.not_le.mpr hb)), ag b fun hm => absurd (big b hm) (Nat.not_le.mpr hb)]
end

abbrev IsPk (h : Heap) (v : Value) (x : Int) : Prop := ∃ a o t y n, v = .ref a ∧ h.get? a = some o ∧ o.cls = .type "tuple" ∧ o.data = .seq #[.int x t, y] n
theorem IsPk.keeps {h h' : Heap} {v : Value} {x : Int} (p : IsPk h v x) (k : ∀ b o, h.get? b = some o → o.cls = .type "tuple" → h'.get? b = some o) : IsPk h' v x := by
  obtain ⟨a, o, t, u, n, e, ho, hc, hd⟩ := p
  exact ⟨a, o, t, u, n, e, k _ _ ho hc, hc, hd⟩
theorem pk_firsts {h : Heap} : ∀ {vs : List Value}, (∀ v ∈ vs, ∃ x, IsPk h v x) → ∃ fs : List Value, PySem.W.KatTups h vs fs ∧ fs.length = vs.length ∧ ∀ f ∈ fs, ∃ x t, f = Value.int x t
  | [], _ => ⟨[], PySem.W.KatTups.nil, rfl, fun _ hm => by simp at hm⟩
  | v :: vs, hp => by
    obtain ⟨fs, h1, h2, h3⟩ := pk_firsts (vs := vs) fun v' hm => hp v' (List.mem_cons_of_mem _ hm)
    obtain ⟨x, a, o, t, u, n, e, ho, hc, hd⟩ := hp v (List.mem_cons_self ..)
    subst e
    refine ⟨.int x t :: fs, PySem.W.KatTups.cons ho hc hd rfl h1, by rw [List.length_cons, List.length_cons, h2], fun f hm => ?_⟩
    rcases List.mem_cons.mp hm with rfl | hm
    · exact ⟨x, t, rfl⟩
    · exact h3 f hm
section
variable {prog : Program} {w : World} {A : Around} {E : Value → Shared → Prop} {s : Shared}
theorem pk_cmp {vs : List Value} {k : Value → Int} (hp : ∀ v ∈ vs, IsPk s.heap v (k v)) (hu : ∀ v ∈ vs, ∀ u ∈ vs, k v = k u → v = u) : SrtO.Cmp prog w A s (tuples' true) (fun p => p.1 ∈ vs) (SrtO.lt2 fun v u => decide (k v < k u)) := by
  intro p q hm hm'
  have h1 := hp _ hm
  have h2 := hp _ hm'
  have h3 := hu _ hm _ hm'
  show wpAny (model prog w) A (keyLt' (tuples' true) p.1 q.1) (fun r s' => s' = s ∧ r = decide (k p.1 < k q.1)) (fun _ _ => False) s
  generalize k p.1 = x at h1 h3 ⊢
  generalize k q.1 = x' at h2 h3 ⊢
  obtain ⟨a, o, t, u, n, e, ho, hc, hd⟩ := h1
  obtain ⟨a', o', t', u', n', e', ho', hc', hd'⟩ := h2
  rw [e, e'] at h3 ⊢
  refine PySem.W.kat_lt ho hd ho' hd' ?_
  show PySem.W.KatLex prog w A true (decide (2 < 2)) _ [(.int x t, .int x' t'), (u, u')] 0 s
  refine PySem.W.kat_cons (SeqAt.EqAt.int_int x t x' t' prog w _ _ ?_)
  refine PySem.W.kat_go (fun e1 => ?_) (fun e1 => ?_)
  · have ex : x = x' := by simpa using e1
    have ea := h3 ex
    cases ea
    rw [ho] at ho'
    cases ho'
    rw [hd] at hd'
    cases hd'
    refine PySem.W.kat_yes (PySem.W.kat_cons (SeqAt.EqAt.same u prog w _ _ ?_))
    refine PySem.W.kat_yes (PySem.W.kat_nil ⟨rfl, ?_⟩)
    exact (decide_eq_false (Int.lt_irrefl _)).symm
  · exact PySem.W.kat_no (oneLt_int ⟨rfl, rfl⟩)
theorem pk_swo (k : Value → Int) : SrtO.Swo fun v u => decide (k v < k u) := by
  refine ⟨fun x y h => ?_, fun x y z h1 h2 => ?_⟩
  · have a := of_decide_eq_true h
    refine decide_eq_false ?_
    omega
  · have a := of_decide_eq_false h1
    have b := of_decide_eq_false h2
    refine decide_eq_false ?_
    omega
theorem pk_sorted {l : Addr} {vs : List Value} {k : Value → Int} {Q : Value → Shared → Prop} (hl : s.heap.IsList l vs.toArray) (hz : vs.length ≤ sizeLine) (hp : ∀ v ∈ vs, IsPk s.heap v (k v)) (hu : ∀ v ∈ vs, ∀ u ∈ vs, k v = k u → v = u)
    (h : ∀ (h' : Heap) (d : Addr) (out : List Value), SrtO.Srtd (fun v u => decide (k v < k u)) out → out.Perm vs → (∀ b o, s.heap.get? b = some o → h'.get? b = some o) → s.heap.objs.size ≤ d → (∃ n, h'.get? d = some (seqObj "list" out.toArray n)) → Q (.ref d) { s with heap := h' }) :
    wpAny (model prog w) A (call (.builtin "sorted") [.ref l]) Q E s := by
  refine SrtO.sorted_ord (pk_swo k) hl hz (fun h2 h₁ a ha kk => ?_) fun out hs hb => ?_
  · intro h' keep
    have hp' : ∀ v ∈ vs, IsPk h' v (k v) := fun v hm => (hp v hm).keeps fun b o e c => keep b o (kk b o e).1 (kk b o e).2
    obtain ⟨fs, h1, h2', h3⟩ := pk_firsts fun v hm => ⟨_, hp' v hm⟩
    refine ⟨tuples' true, fun Q E hq => ?_, pk_cmp (s := { s with heap := h' }) hp' hu⟩
    refine PySem.W.kat_kind (T := .type "int") h1 (by omega) (fun f hm => ?_) (by rfl) ?_
    · obtain ⟨x, t, rfl⟩ := h3 f hm
      exact PySem.W.Looks.now
    · have e : (Value.type "int" != Value.type "tuple") = true := by first | decide +kernel | rfl | decide
      rw [e]
      exact hq
  · exact h _ _ out hs hb.perm (fun b o e => sortedAll_old e) (Nat.le_succ _) (sortedAll_at s.heap vs out.toArray)
end
theorem paired_perm {α β : Type} {R : α → β → Prop} {xs ys : List α} (p : ys.Perm xs) : ∀ {zs : List β}, Paired R xs zs → ∃ zs', zs'.Perm zs ∧ Paired R ys zs' := by
  induction p with
  | nil => intro zs h; exact ⟨zs, List.Perm.refl _, h⟩
  | cons x _ ih =>
    intro zs h
    cases h with
    | @cons _ z _ zs r t =>
      obtain ⟨zs', p, q⟩ := ih t
      exact ⟨z :: zs', p.cons z, .cons r q⟩
  | swap x y l =>
    intro zs h
    cases h with
    | @cons _ z _ _ r t =>
      cases t with
      | @cons _ z2 _ zs r2 t2 => exact ⟨z2 :: z :: zs, List.Perm.swap .., .cons r2 (.cons r t2)⟩
  | trans _ _ ih1 ih2 =>
    intro zs h
    obtain ⟨z1, p1, q1⟩ := ih2 h
    obtain ⟨z2, p2, q2⟩ := ih1 q1
    exact ⟨z2, p2.trans p1, q2⟩
theorem paired_fst {α β : Type} {R : α → β → Prop} : ∀ {xs : List α} {zs : List β} {i : Nat} {x : α}, Paired R xs zs → xs[i]? = some x → ∃ z, zs[i]? = some z ∧ R x z
  | _, _, _, _, .nil, e => by simp at e
  | _, _, 0, _, .cons r _, e => by simp at e; subst e; exact ⟨_, rfl, r⟩
  | _, _, i + 1, u, .cons _ t, e => by
    obtain ⟨v, h1, h2⟩ := paired_fst (i := i) t (by simpa using e)
    exact ⟨v, by simpa using h1, h2⟩
theorem paired_pw {α β : Type} {R : α → β → Prop} {S : α → α → Prop} {S' : β → β → Prop} (f : ∀ x z x' z', R x z → R x' z' → S x x' → S' z z') : ∀ {xs : List α} {zs : List β}, Paired R xs zs → xs.Pairwise S → zs.Pairwise S'
  | _, _, .nil, _ => List.Pairwise.nil
  | x :: xs, z :: zs, .cons r t, h => by
    rw [List.pairwise_cons] at h ⊢
    refine ⟨fun z' hz' => ?_, paired_pw f t h.2⟩
    have mm : ∀ {xs : List α} {zs : List β}, Paired R xs zs → z' ∈ zs → ∃ x' ∈ xs, R x' z' := by
      intro xs zs h
      induction h with
      | nil => intro m; cases m
      | cons r t ih =>
        intro m
        rcases List.mem_cons.mp m with e | m
        · subst e; exact ⟨_, List.mem_cons_self .., r⟩
        · obtain ⟨x', m', r'⟩ := ih m
          exact ⟨x', List.mem_cons_of_mem _ m', r'⟩
    obtain ⟨x', m', r'⟩ := mm t hz'
    exact f x z x' z' r r' (h.1 x' m')
open Classical in
noncomputable def kFst (K : Frg) (H : Hp) (v : V) : Int := if h : ∃ (n : Int), ∃ (t : Addr) (y : V), v = .ref t ∧ SqT K H t [.int n, y] then Classical.choose h else 0
section
variable {X : Cx}
theorem kFst_eq {pins : List (Addr × Obj)} {σ : L2.St} {H : Hp} {s : Shared} {t : Addr} {n : Int} {y : V} (I : Inv X pins σ H s) (h : SqT X.K H t [.int n, y]) : kFst X.K H (.ref t) = n := by
  have ex : ∃ (n : Int), ∃ (t' : Addr) (y : V), V.ref t = .ref t' ∧ SqT X.K H t' [.int n, y] := ⟨n, t, y, rfl, h⟩
  unfold kFst
  rw [dif_pos ex]
  obtain ⟨t', y', e, h'⟩ := Classical.choose_spec ex
  cases e
  have := I.tuple_inj h' h
  simpa using (List.cons.inj this).1
/-- sorted of pairs, firsts ints and different -/
def rSortedK (K : Frg) : List V → Hp → VK → Prop := fun vs H Q => ∃ (R : V → Int × D → Prop) (a : Addr) (xs : List V) (zs : List (Int × D)), vs = [V.ref a] ∧ SqL K H a xs ∧ (∀ x z, R x z → ∃ t y, x = .ref t ∧ SqT K H t [.int z.1, y]) ∧ Paired R xs zs ∧ (zs.map (·.1)).Nodup ∧
  ∀ ys zs' p, zs'.Perm zs → zs'.Pairwise (fun a b => a.1 < b.1) → Paired R ys zs' → H p = none → Q (.ref p) (upd H p (.lst ys))
theorem cr_sortedK : CallR X (.builtin "sorted") (rSortedK X.K) := by
  intro pins s σ H vs us Q I r h
  obtain ⟨R, a, xs, zs, rfl, hs, hR, pr, nd, q⟩ := h
  obtain ⟨its, rv, hl, hz⟩ := I.list hs
  obtain ⟨u, rfl, ru⟩ := vals1 r
  obtain rfl : u = Value.ref a := ru
  have gx : ∀ (i : Nat) x, xs[i]? = some x → ∃ z, zs[i]? = some z ∧ R x z := fun i x e => paired_fst pr e
  have hx : ∀ x ∈ xs, ∃ z ∈ zs, R x z := fun x m => by
    obtain ⟨i, e⟩ := List.mem_iff_getElem?.mp m
    obtain ⟨z, e2, r2⟩ := gx i x e
    exact ⟨z, List.mem_of_getElem? e2, r2⟩
  have hk : ∀ x z, R x z → kFst X.K H x = z.1 := fun x z r => by
    obtain ⟨t, y, rfl, h1⟩ := hR x z r
    exact kFst_eq I h1
  obtain ⟨e1, e2⟩ := refs_back rv fun x m => by
    obtain ⟨z, _, r⟩ := hx x m
    obtain ⟨t, y, e, _⟩ := hR x z r
    exact ⟨t, e⟩
  have inj : ∀ x ∈ xs, ∀ y ∈ xs, kFst X.K H x = kFst X.K H y → x = y := fun x mx y my e => by
    obtain ⟨i, ei⟩ := List.mem_iff_getElem?.mp mx
    obtain ⟨j, ej⟩ := List.mem_iff_getElem?.mp my
    obtain ⟨z, fi, r1⟩ := gx i x ei
    obtain ⟨z', fj, r2⟩ := gx j y ej
    rw [hk _ _ r1, hk _ _ r2] at e
    have l1 : i < (zs.map (·.1)).length := by rw [List.length_map]; exact (List.getElem?_eq_some_iff.mp fi).1
    have g1 : (zs.map (·.1))[i]? = (zs.map (·.1))[j]? := by rw [List.getElem?_map, List.getElem?_map, fi, fj, Option.map_some, Option.map_some, e]
    have ij : i = j := by first | exact List.getElem?_inj l1 nd g1 | exact (List.getElem?_inj l1 nd).mp g1
    subst ij
    rw [ei] at ej
    cases ej
    rfl
  have bk : ∀ v ∈ its, ∃ t, v = Value.ref t ∧ V.ref t ∈ xs := fun v hv => by
    obtain ⟨t, rfl⟩ := e2 v hv
    exact ⟨t, rfl, by rw [e1]; exact List.mem_map.mpr ⟨_, hv, rfl⟩⟩
  refine pk_sorted (k := fun u => kFst X.K H (backV u)) hl.isList (by rw [← rv.length]; exact hz) (fun v hv => ?_) (fun v hv u hu e => ?_) fun h' d out h1 h2 kp hd hn => ?_
  · obtain ⟨t, rfl, hm⟩ := bk v hv
    obtain ⟨z, _, r⟩ := hx _ hm
    obtain ⟨t', y, e, h1⟩ := hR _ z r
    cases e
    obtain ⟨its2, r2, ⟨o, ho, hc, n, hd⟩, _⟩ := I.tuple h1
    obtain ⟨u1, u2, rfl, ri, rj⟩ := vals2 r2
    obtain ⟨t1, rfl⟩ := ri
    refine ⟨t, o, t1, u2, n, rfl, ho, hc, ?_⟩
    show o.data = .seq #[.int (kFst X.K H (.ref t)) t1, u2] n
    rw [kFst_eq I h1]
    exact hd
  · obtain ⟨t, rfl, hm⟩ := bk v hv
    obtain ⟨t', rfl, hm'⟩ := bk u hu
    have := inj _ hm _ hm' e
    cases this
    rfl
  · have h3 : ∀ u ∈ out, ∃ a, u = Value.ref a := fun u hu => e2 u (h2.mem_iff.mp hu)
    obtain ⟨n, hn⟩ := hn
    have hb : (out.map backV).Perm xs := by
      rw [e1]
      exact h2.map _
    obtain ⟨zs', p1, p2⟩ := paired_perm hb pr
    have pw : (out.map backV).Pairwise fun x y => ¬ kFst X.K H y < kFst X.K H x := List.pairwise_map.mpr (h1.imp fun h => of_decide_eq_false h)
    have pw2 : zs'.Pairwise fun a b => a.1 ≤ b.1 := paired_pw (S' := fun a b : Int × D => a.1 ≤ b.1) (fun x z x' z' r r' h => by rw [hk _ _ r, hk _ _ r'] at h; omega) p2 pw
    have nd2 : (zs'.map (·.1)).Nodup := (p1.map _).nodup_iff.mpr nd
    have pw3 : zs'.Pairwise fun a b => a.1 < b.1 := by
      have h4 : zs'.Pairwise fun a b => a.1 ≠ b.1 := List.pairwise_map.mp nd2
      exact (pw2.and h4).imp fun h => by omega
    refine ⟨.ref d, upd H d (.lst (out.map backV)), I.laid (t' := s.toks) kp hd ⟨?_, out, n, vals_back h3, hn⟩, rfl, q _ zs' d p1 pw3 p2 (I.hok.fresh hd)⟩
    rw [hb.length_eq]
    exact hz
abbrev pk (z : Int × D) : D := .tuple [.int z.1, z.2]
theorem dpl_paired {K : Frg} {B : Hp} : ∀ {xs : List V} {zs : List (Int × D)}, DpAll K B xs (zs.map pk) → Paired (fun x z => Dp K B x (pk z)) xs zs
  | _, [], h => by cases h; exact .nil
  | _, z :: zs, h => by
    cases h with
    | cons r t => exact .cons r (dpl_paired t)
theorem paired_dpl {K : Frg} {B : Hp} : ∀ {xs : List V} {zs : List (Int × D)}, Paired (fun x z => Dp K B x (pk z)) xs zs → DpAll K B xs (zs.map pk)
  | _, [], h => by cases h; exact .nil
  | _, z :: zs, h => by
    cases h with
    | cons r t => exact .cons r (paired_dpl t)
theorem sorted_one {qs : List (Int × D)} : ∀ {zs : List (Int × D)}, zs.Perm qs → zs.Pairwise (fun a b => a.1 < b.1) → qs.Pairwise (fun a b => a.1 < b.1) → zs = qs := fun p h1 h2 =>
  p.eq_of_pairwise (le := fun a b => a.1 < b.1) (fun a b _ _ h h' => by omega) h1 h2
variable {G : Gd} {ρ : Ro} {O O1 O2 : Ow} {a b : Expr} {pos pos2 : Pos}
theorem de_sortedK {zs qs : List (Int × D)} {p : Pos} (hq : qs.Perm zs) (hs : qs.Pairwise (fun a b => a.1 < b.1)) (hm : X.mg "sorted" = none) (ha : DE X G ρ O a O1 (.list (zs.map pk))) (hg : Gl X "sorted" := by rfl) (he : starEach [a] X.env = (false, eval a X.env) :: starEach [] X.env := by rfl) (hpl : (backTo pos (starEach [] X.env)).any (·.1) = false := by rfl) :
    DE X G ρ O (.Call (.Name "sorted" p) [a] [] pos) O1 (.list (qs.map pk)) :=
  de_b1 cr_sortedK (fun G ρ O B σ H x Q s h k => by
    cases h with
    | @lst p xs _ hq' hd =>
      have nd : (zs.map (·.1)).Nodup := (hq.map (·.1)).nodup_iff.mp (List.pairwise_map.mpr (hs.imp fun h => by omega))
      refine ⟨fun x z => Dp X.K B x (pk z), p, xs, zs, rfl, same_l s.bh hq', fun x z r => ?_, dpl_paired hd, nd, fun ys zs' q p1 p2 p3 hn => ?_⟩
      · cases r with
        | @tup t ys _ h1 h2 =>
          cases h2 with
          | cons r1 t1 =>
            cases r1
            cases t1 with
            | cons r2 t2 =>
              cases t2
              exact ⟨t, _, rfl, same_t s.bh h1⟩
      · have e := sorted_one (p1.trans hq.symm) p2 hs
        subst e
        exact k _ _ _ (s.laid hn) (same_upd (s.fresh_b hn)) (.lst (.inl (.inl upd_same)) (dpAll_mono (same_upd (s.fresh_b hn)) _ _ (paired_dpl p3)))) hm (by decide +kernel) ha hg (by decide) (by decide) he hpl
end
end Bid

namespace Bid
open PySem PySem.Spec PyProof.Rows L2
/-- what an expression is worth, as a slot -/
def tV (P : Program) (w : World) (K : Frg) (G : Gd) (ρ : Ro) (O O' : Ow) (x : Sl) : TE := fun σ H Q => ∃ B, SS P w K G ρ O B σ H ∧ ∀ v B' H', SS P w K G ρ O' B' σ H' → Same B B' → SlR K B' v x → Q v H'
abbrev DV (X : Cx) (G : Gd) (ρ : Ro) (O : Ow) (e : Expr) (O' : Ow) (x : Sl) : Prop := PE X e (tV X.prog X.w X.K G ρ O O' x)
section
variable {X : Cx} {G : Gd} {ρ : Ro} {O O1 O2 O3 : Ow} {e a b c : Expr} {d da db dc : D} {pos : Pos} {Φ Ψ : Oc → Prop} {x : Sl}
theorem DV.de (h : DV X G ρ O e O1 (.pt d)) : DE X G ρ O e O1 d := PEw h fun σ H Q ⟨B, s, k⟩ => ⟨B, s, fun v B1 H1 s1 e1 h1 => k v B1 H1 s1 e1 h1.1⟩
theorem cr_tupleP : CallR X (.type "tuple") (fun xs H Q => ∃ p ys, xs = [.ref p] ∧ SqL X.K H p ys ∧ ∀ l (o : Obj), H l = none → o.cls = .type "tuple" → o.dict = none → Q (.ref l) (upd H l (.frz o (.tup ys)))) := by
  intro pins s σ H xs us Q I r h
  obtain ⟨p, ys, rfl, hq, q⟩ := h
  obtain ⟨u, rfl, rx⟩ := vals1 r
  cases rx
  obtain ⟨its, r', pl, hz⟩ := I.list hq
  have hlen := r'.length
  refine call_tuple_list pl.isList (fun h' kp => ?_) (by simp only [List.size_toArray] <;> omega)
  have I1 : Inv X pins σ H { s with heap := h' } := I.kept (t' := s.toks) kp
  have I2 : Inv X pins σ (upd H h'.objs.size (.frz { cls := .type "tuple", data := .seq its.toArray } (.tup ys))) { s with heap := h'.push { cls := .type "tuple", data := .seq its.toArray } } :=
    I1.laid (t' := s.toks) (fun b o e => Heap.get?_push_of_some _ e) (Nat.le_refl _) (show ObjOk X.prog X.w _ _ _ (.frz _ (.tup ys)) from ⟨Heap.get?_push_size _ rfl, hz, its, r', IsTup.new _ _⟩)
  exact ⟨.ref h'.objs.size, _, I2, rfl, q _ _ (I1.hok.fresh (Nat.le_refl _)) rfl rfl⟩
theorem dv_tupleL {ds : List D} {p : Pos} (hm : X.mg "tuple" = none) (ha : DE X G ρ O a O1 (.list ds)) (hg : Gl X "tuple" := by rfl) (he : starEach [a] X.env = (false, eval a X.env) :: starEach [] X.env := by rfl) (hpl : (backTo pos (starEach [] X.env)).any (·.1) = false := by rfl) : DV X G ρ O (.Call (.Name "tuple" p) [a] [] pos) O1 (.pt (.tuple ds)) :=
  PEw (pe_callTy cr_tupleP hg hm boot_tuple (pa_cons ha pa_nil he) (by decide) (by decide) he hpl) fun σ H Q ⟨B, s, k⟩ => ⟨B, s, fun v B1 H1 s1 e1 h1 => by
    cases h1 with
    | @lst p xs _ hq hd =>
      refine ⟨p, xs, rfl, same_l s1.bh hq, fun l o hl hc hd' => ?_⟩
      have sm := same_upd (o := .frz o (.tup xs)) (s1.fresh_b hl)
      exact k _ _ _ (s1.laid hl) (e1.trans sm) ⟨.tup (.inl (.inr ⟨o, upd_same⟩)) (dpAll_mono sm _ _ hd), l, o, _, rfl, upd_same, hc, hd'⟩⟩
/-- a slot's value, whatever it is -/
theorem dv_var (i : Nat) {y : Str} {p : Pos} (hr : ρ[i]? = some (some x) := by rfl) (hN : X.N[i]? = some y := by rfl) (hv : Vis X.env.scope y := by first | exact Or.inl rfl | exact Or.inr (Or.inl rfl) | exact Or.inr (Or.inr rfl)) (hd : (y == ("__debug__" : Str)) = false := by decide) (hcd : (y == ("__classdict__" : Str)) = false := by decide) : DV X G ρ O (.Name y p) O x :=
  PEw (pe_var hN hv hd hcd) fun σ H Q ⟨B, s, k⟩ => by
    obtain ⟨v, h1, h2⟩ := s.env.at_ i x hr
    exact ⟨v, h1, k v B H s (Same.refl B) h2⟩
/-- a plain tuple's name, as a datum -/
theorem de_varP (i : Nat) {y : Str} {p : Pos} (hr : ρ[i]? = some (some (.pt d)) := by rfl) (hN : X.N[i]? = some y := by rfl) (hv : Vis X.env.scope y := by first | exact Or.inl rfl | exact Or.inr (Or.inl rfl) | exact Or.inr (Or.inr rfl)) (hd : (y == ("__debug__" : Str)) = false := by decide) (hcd : (y == ("__classdict__" : Str)) = false := by decide) : DE X G ρ O (.Name y p) O d :=
  (dv_var i hr hN hv hd hcd).de
theorem da_consV {es : List Expr} {ss : List Sl} (h : DV X G ρ O e O1 x) (g : DA X G ρ O1 es O2 ss) (hs : starEach (e :: es) X.env = (false, eval e X.env) :: starEach es X.env := by rfl) : DA X G ρ O (e :: es) O2 (x :: ss) :=
  PAw (pa_cons h g hs) fun σ H Q ⟨B, s, k⟩ => ⟨B, s, fun v B1 H1 s1 e1 h1 => ⟨B1, s1, fun vs B2 H2 s2 e2 r => k (v :: vs) B2 H2 s2 (e1.trans e2) (.cons (SlR.mono e2 h1) r)⟩⟩
theorem ds_setV (i : Nat) {y : Str} {p : Pos} (he : DV X G ρ O e O1 x) (k : Φ (.nx (ρ.set i (some x)) O1)) (hN : X.N.Nodup) (hi : X.N[i]? = some y := by rfl) (hx : Loc X.env.scope y := by first | exact Or.inl rfl | exact Or.inr rfl)
    (hs : swapsWith e (some (.Name y p)) pos.line X.env = pure false := by rfl) (hf : X.fn y = true ∨ X.env.scope.names.lookup y = some .local := by first | exact .inl rfl | exact .inr rfl) : DS X G ρ O (.Assign [.Name y p] e pos) Φ :=
  PSw (ps_set hN hi hx he hs hf) fun Dn σ H ⟨B, s, k1, _⟩ => ⟨B, s, fun v B1 H1 s1 e1 h1 => k1 _ _ B1 _ H1 k (s1.set i h1) e1⟩
theorem ds_retV (he : DV X G ρ O e O1 x) (k : Φ (.rt x O1)) : DS X G ρ O (.Return (some e) pos) Φ := PSw (ps_ret he) fun Dn σ H ⟨B, s, _, k2, _⟩ => ⟨B, s, fun v B1 H1 s1 e1 h1 => k2 _ _ _ B1 _ H1 v k s1 e1 h1⟩
/-- name = [..], a comprehension over pairs -/
theorem ds_lcP {α : Type} {xs : List α} (n : Nat) (fi fj : α → D) (f : α → Bool) (g : α → D) (i j : Nat) {x y z : Str} {elt iter : Expr} {ifs : List Expr} {scope : Scope} {p p2 tp pz spos : Pos} {tk : Nat} (hi : DI X G ρ O (.Tuple [.Name x p, .Name y p2] tk tp) iter O1 (xs.map fun a => .tuple [fi a, fj a]))
    (hf : CompF X G scope ifs xs (fun a => (ρ.set i (some (.d (fi a)))).set j (some (.d (fj a)))) f) (he : CompE X G scope elt xs (fun a => (ρ.set i (some (.d (fi a)))).set j (some (.d (fj a)))) f g) (hz : xs.length ≤ 100000) (k : Φ (.nx (ρ.set n (some (.d (.list ((xs.filter f).map g))))) O1))
    (hN : X.N.Nodup) (hij : i ≠ j := by decide) (hy : X.N[n]? = some z := by rfl) (hyl : X.env.scope.names.lookup z = some .local := by rfl) (hsw : swapsWith (.ListComp elt [⟨.Tuple [.Name x p, .Name y p2] tk tp, iter, ifs, 0⟩] scope pos) (some (.Name z pz)) spos.line X.env = pure true := by exact sw_true rfl rfl rfl (by decide +kernel))
    (ok : BlkOk X.N X.env.scope scope [(x, i), (y, j)] := by exact blkOk_by (by kernel_rfl))
    (hg : CompG X scope (.Tuple [.Name x p, .Name y p2] tk tp) (gTup X.K 2 (gCons (gName i) (gCons (gName j) gNil))) := by exact fun _ _ _ _ _ => pg_tup rfl (pgs_cons (pg_name (by assumption) rfl (by first | exact Or.inl rfl | exact Or.inr rfl)) (pgs_cons (pg_name (by assumption) rfl (by first | exact Or.inl rfl | exact Or.inr rfl)) pgs_nil))) (hc : X.calm = true := by rfl)
    (hs : ∀ y, foldedSetIterable iter X.env y = pure y := by intro _; rfl) : DS X G ρ O (.Assign [.Name z pz] (.ListComp elt [⟨.Tuple [.Name x p, .Name y p2] tk tp, iter, ifs, 0⟩] scope pos) spos) Φ :=
  PSw (ps_setLc hc hN hy hyl hsw hi ok hg (fun s H C cl fp => ttU_ok (G := G) s H C cl fp) (fun s H C cl fp => teU_ok (G := G) s H C cl fp) hs) fun Dn σ H ⟨B, s, k1, _⟩ =>
    lc_read (fun _ _ _ h => h) (tg_pair hij fi fj) hf he hz σ H _ ⟨B, s, fun v B1 H1 s1 e1 h1 => k1 _ _ B1 _ H1 k (s1.setd n h1) e1⟩
/-- t.index(n) -/
theorem de_index {ns : List Int} {z : Int} {apos : Pos} (hz : z ∈ ns) (ho : DV X G ρ O a O1 (.pt (.tuple (ns.map PyData.int)))) (hb : DE X G ρ O1 b O2 (.int z))
    (hbase : attributeBase a "index" X.env (eval a X.env) = eval a X.env := by rfl)
    (hfew : ((backTo pos (starEach [b] X.env)).all (fun x => !x.1) && (backToKw pos (keywordEach [] X.env)).all (fun x => x.1.isSome)
      && decide ([b].length + ([] : List Keyword).length + (if ([] : List Keyword).isEmpty then 0 else 1) < 30)) = true := by rfl)
    (hline : (apos.endLine == pos.line) = true := by rfl) (hs : starEach [b] X.env = (false, eval b X.env) :: starEach [] X.env := by rfl) (hplain : (backTo pos (starEach [] X.env)).any (·.1) = false := by rfl) :
    DE X G ρ O (.Call (.Attribute a "index" apos) [b] [] pos) O2 (.int (ns.idxOf z : Nat)) := by
  refine ⟨fun pins s σ H Q I ⟨B, s0, k⟩ => ?_⟩
  refine wpAny_Call_method_late hbase hfew hline rfl (thn (ho.run pins s σ H (fun v H1 => ∃ B1, SS X.prog X.w X.K G ρ O1 B1 σ H1 ∧ Same B B1 ∧ SlR X.K B1 v (.pt (.tuple (ns.map PyData.int)))) I ⟨B, s0, fun v B1 H1 s1 e1 h1 => ⟨B1, s1, e1, h1⟩⟩) fun v s1 ⟨x, H1, I1, r1, B1, ss1, e1, h1⟩ => ?_)
  obtain ⟨hd, ad, o, u, rfl, fz, hc, hdn⟩ := h1
  cases r1
  have fz' := ss1.bh _ _ fz
  obtain ⟨go, _⟩ := I1.hok _ _ fz'
  refine ⟨"tuple", "tuple.index", PySem.F.plainAttrs_tuple, PySem.F.slot_tuple_index, PySem.F.type_tuple_index, ⟨o, go, hc⟩, fun a e => by cases e; exact ⟨o, go, hdn⟩, ?_⟩
  have hA := (da_cons hb da_nil hs).run pos pins s1 σ H1 (fun vs H2 => ∃ B2, SS X.prog X.w X.K G ρ O2 B2 σ H2 ∧ Same B1 B2 ∧ Paired (SlR X.K B2) vs [.d (.int z)]) I1 ⟨B1, ss1, fun vs B2 H2 s2 e2 r => ⟨B2, s2, e2, r⟩⟩
  rw [hs] at hA ⊢
  refine Calls.callWith_builtin (by show (false || (backTo pos (starEach [] X.env)).any (·.1)) = false; rw [hplain] <;> rfl) (Calls.evalArgs_plain ?_)
  refine thn hA fun us s2 ⟨vs, H2, I2, r2, B2, ss2, e2, pr⟩ => ?_
  cases pr with
  | cons g pr =>
    cases pr
    have g : Dp X.K B2 _ (.int z) := g
    cases g
    obtain ⟨u2, rfl, t2, rfl⟩ := vals1 r2
    have hd2 := dp_mono e2 _ _ hd
    cases hd2 with
    | @tup _ xs _ hq hda =>
      have ex := dp_ints hda
      subst ex
      obtain ⟨its, rv, pl, _⟩ := I2.tuple (same_t ss2.bh hq)
      exact SeqAt.tuple_index_ints pl (intsAre_of rv) hz ⟨.int (ns.idxOf z : Nat), H2, I2.tok _, ⟨_, rfl⟩, k _ B2 H2 ss2 (e1.trans e2) (.int _)⟩
end
def spV (P : Program) (w : World) (K : Frg) (R : List Sl → Sl → Prop) : Sp := fun vs H Q _ => ∃ B ss r, Paired (SlR K B) vs ss ∧ R ss r ∧ Same B H ∧ ∀ v B' H', Rt P w K B H [] [] B' H' → SlR K B' v r → Q v H'
@[reducible] def retV (r : Sl) : Oc → Prop
  | .rt d _ => d = r
  | _ => False
theorem fn_V {P : Program} {w : World} {K : Frg} {mg : Str → Option Value} {base : Heap} {f : Addr} {fd : FuncData} {name qual : Str} {params : Arguments} {body : List Stmt} {scope : Scope} {N ps : List Str} {k : Nat} {R : List Sl → Sl → Prop} (F : FunD K name qual params body scope [] [] f fd) (S : FnScope N ps scope) (len : ∀ ss r, R ss r → ss.length = ps.length)
    (hb : ∀ (cdv : Value) (A : Around) (outer : List PySem.Env) (s : Shared) (H : Hp) (E : XK) (G : Gd) (ss : List Sl) (r : Sl), Room k (A.deeper (envOfC qual scope s.heap.objs.size f cdv)) → R ss r →
      DSs (bodyX P w K mg base N qual scope f cdv A outer s H E) G (startR N ss) [] body (retV r)) : FnOk P w K mg base CX0 (k + 1) f fd ps (spV P w K R) := by
  refine F.ok S (fun vs H Q E h => ?_) (fun cdv A outer s H vs Q E hr h => ?_)
  · obtain ⟨B, ss, r, hp, hR, _⟩ := h
    rw [paired_len hp, len _ _ hR]
  · obtain ⟨B, ss, r, hp, hR, hbh, q⟩ := h
    refine ⟨_, PSs.nox (hb cdv A outer s H E ⟨[], B, H⟩ ss r hr hR), B, ⟨hbh, Same.refl B, fun _ _ _ e => e, fun _ o e => ⟨o, e⟩, fun _ _ _ => rfl, env_start hp, (fun _ h => nomatch h), List.nodup_nil, fun p hp => nomatch hp⟩, fun ρ' O2 B' σ' H' h => h.elim, fun d ρ' O2 B' σ' H' v h s' e' hd => ?_, fun ρ' O2 B' σ' H' h => h.elim, fun ρ' O2 B' σ' H' h => h.elim⟩
    have h1 : d = r := h
    subst h1
    exact q v B' H' (s'.rt (fun _ h => nomatch h)) hd
section
variable {X : Cx} {G : Gd} {ρ : Ro} {O O1 O2 O3 : Ow} {e a b c : Expr} {d da db dc : D} {pos : Pos} {y : Sl}
theorem dv_call {x : Str} {R : List Sl → Sl → Prop} {p : Pos} {es : List Expr} {ss : List Sl} (c : Cal X.prog X.w X.K X.mg X.base X.A x (spV X.prog X.w X.K R)) (ha : DA X G ρ O (e :: es) O1 ss) (hR : R ss y) (hg : Gl X x := by rfl) (hdb : (x == ("__debug__" : Str)) = false := by decide)
    (he : starEach (e :: es) X.env = (false, eval e X.env) :: starEach es X.env := by rfl) (hpl : (backTo pos (starEach es X.env)).any (·.1) = false := by rfl) : DV X G ρ O (.Call (.Name x p) (e :: es) [] pos) O1 y := by
  obtain ⟨f, fd, k, ps, F, hr, hm, hk, hb⟩ := c.ex
  refine PEw (pe_call F hr hg hm hk hb .nil pass0 ha hdb he hpl) fun σ H Q ⟨B, s, q⟩ => ⟨B, s, fun vs B1 H1 s1 e1 r => ?_⟩
  show spV X.prog X.w X.K R (vs ++ []) H1 Q E0
  rw [List.append_nil]
  exact ⟨B1, ss, y, r, hR, s1.bh, fun v B' H' rt hd => q v B' H' (s1.call0 rt) (e1.trans rt.bb) hd⟩
end
end Bid

namespace Bid
open PySem PySem.Spec PyProof.Rows L2
section
variable {P : Program} {w : World} {K : Frg} {G : Gd} {ρ : Ro} {L R : Ow} {a : Addr} {kvs : List (Int × D)} {B H : Hp} {σ : L2.St}
theorem SS.freezeD (s : SS P w K G ρ (L ++ (a, .dK kvs) :: R) B σ H) (hG : a ∉ G.M) {vs : List (Key × V)} (hx : H a = some (.dK vs)) (od : Obj) : SS P w K G ρ (L ++ R) (upd B a (.frz od (.dK vs))) σ (upd H a (.frz od (.dK vs))) ∧ Same B (upd B a (.frz od (.dK vs))) := by
  have hm : (a, OC.dK kvs) ∈ L ++ (a, .dK kvs) :: R := List.mem_append_right _ (List.mem_cons_self ..)
  obtain ⟨hb, _⟩ := s.own _ hm
  have hn : G.H a = none := (s.mo _ hm).resolve_left hG
  have nd := s.nd
  rw [List.map_append, List.map_cons, List.nodup_append, List.nodup_cons] at nd
  obtain ⟨n1, ⟨n2, n3⟩, n4⟩ := nd
  have hne : ∀ q ∈ L ++ R, q.1 ≠ a := fun q hq e => by
    rcases List.mem_append.mp hq with h | h
    · exact n4 q.1 (List.mem_map.mpr ⟨q, h, rfl⟩) a (List.mem_cons_self ..) e
    · exact n2 (List.mem_map.mpr ⟨q, h, e⟩)
  have hin : ∀ q ∈ L ++ R, q ∈ L ++ (a, .dK kvs) :: R := fun q hq => by
    rcases List.mem_append.mp hq with h | h
    · exact List.mem_append_left _ h
    · exact List.mem_append_right _ (List.mem_cons_of_mem _ h)
  refine ⟨⟨fun x o e => ?_, s.bb.trans (same_upd hb), fun x o m e => ?_, fun x o e => ?_, fun x o e => ?_, s.env.mono (same_upd hb), fun q hq => ?_, ?_, fun q hq => s.mo q (hin q hq)⟩, same_upd hb⟩
  · by_cases h : x = a
    · subst h
      rw [upd_same] at e ⊢
      exact e
    · rw [upd_ne h] at e ⊢
      exact s.bh x o e
  · rw [upd_ne (ne_of_none e hn)]
    exact s.hh x o m e
  · rw [upd_ne (ne_of_none e hn)]
    exact s.there x o e
  · rw [upd_ne (ne_of_none e hn)]
    exact s.ag x o e
  · obtain ⟨h1, h2⟩ := s.own q (hin q hq)
    have ne := hne q hq
    exact ⟨by rw [upd_ne ne]; exact h1, h2.mono (same_upd hb) fun u e => by rw [upd_ne ne]; exact e⟩
  · rw [List.map_append, List.nodup_append]
    exact ⟨n1, n3, fun x hx y hy => n4 x hx y (List.mem_cons_of_mem _ hy)⟩
end
/-- what stands at d is not changed any more from here on -/
theorem ps_freeze {X : Cx} {st : Stmt} {t : TS} (h : PS X st t) : PS X st (fun D σ H => ∃ d u, H d = some u ∧ Mut (some u) ∧ ∀ od, t D σ (upd H d (.frz od u))) := ⟨fun pins s σ H D I hw => by
  obtain ⟨d, u, hd, mu, hw⟩ := hw
  obtain ⟨od, I1⟩ := I.lock hd mu
  exact h.run pins s σ _ D I1 (hw od)⟩
section
variable {X : Cx} {G : Gd} {ρ : Ro} {O O1 O2 O3 L R : Ow} {e a b c : Expr} {d da db dc : D} {pos : Pos} {Φ Ψ : Oc → Prop} {kvs : List (Int × D)}
theorem ds_nilF {q : Addr × OC} (h : Φ (.nx ρ O)) : DSs X G ρ (q :: O) [] Φ := PSsw pss_nil fun Dn σ H ⟨B, s, k1, _⟩ => k1 _ _ B σ H h s.forget (Same.refl B)
/-- return (d, e), d an owned dict -/
theorem ds_retTw (i : Nat) {o : Addr} {x : Str} {px tp : Pos} {kk : Nat} (hG : o ∉ G.M) (he : DE X G ρ (L ++ R) e O2 d) (k : Φ (.rt (.tw kvs d) O2)) (hr : ρ[i]? = some (some (.own o)) := by rfl) (hN : X.N[i]? = some x := by rfl) (hv : Vis X.env.scope x := by first | exact Or.inl rfl | exact Or.inr (Or.inl rfl) | exact Or.inr (Or.inr rfl))
    (hd : (x == ("__debug__" : Str)) = false := by decide) (hcd : (x == ("__classdict__" : Str)) = false := by decide) (na : starEach [.Name x px, e] X.env = (false, eval (.Name x px) X.env) :: starEach [e] X.env := by rfl) (nb : starEach [e] X.env = (false, eval e X.env) :: starEach [] X.env := by rfl) :
    DS X G ρ (L ++ (o, .dK kvs) :: R) (.Return (some (.Tuple [.Name x px, e] kk tp)) pos) Φ :=
  PSw (ps_freeze (ps_ret (pe_tup (pa_cons (pe_var hN hv hd hcd) (pa_cons he pa_nil nb) na)))) fun Dn σ H ⟨B, s, _, k2, _⟩ => by
    obtain ⟨hb, vs, hx, hp⟩ := s.own (o, .dK kvs) (List.mem_append_right _ (List.mem_cons_self ..))
    refine ⟨o, .dK vs, hx, trivial, fun od => ?_⟩
    obtain ⟨s1, e1⟩ := s.freezeD hG hx od
    obtain ⟨v, h1, h2⟩ := s.env.at_ i _ hr
    cases h2
    refine ⟨.ref o, h1, _, s1, fun v2 B2 H2 s2 e2 h2 => ⟨by rw [sizeLine_eq]; exact Nat.le_of_ble_eq_true rfl, fun p hp2 => ?_⟩⟩
    have sm := same_upd (o := .tup [.ref o, v2]) (s2.fresh_b hp2)
    refine k2 _ _ _ _ _ _ _ k (s2.laid hp2) ((e1.trans e2).trans sm) ⟨p, .ref o, v2, rfl, .inl (.inl upd_same), FdR.mono (e2.trans sm) ⟨o, od, vs, rfl, upd_same, Paired.mapP hp fun p q h => ⟨h.1, dp_mono e1 _ _ h.2⟩⟩, dp_mono sm _ _ h2⟩
/-- a, b = e, a dict and a datum -/
theorem ds_set2V (i j : Nat) {x y : Str} {p p2 tp : Pos} {tk : Nat} (he : DV X G ρ O e O1 (.tw kvs d)) (k : Φ (.nx ((ρ.set i (some (.fd kvs))).set j (some (.d d))) O1)) (hN : X.N.Nodup)
    (hg : PG X (.Tuple [.Name x p, .Name y p2] tk tp) (gTup X.K 2 (gCons (gName i) (gCons (gName j) gNil))) := by exact pg_tup rfl (pgs_cons (pg_name (by assumption) rfl (by first | exact Or.inl rfl | exact Or.inr rfl)) (pgs_cons (pg_name (by assumption) rfl (by first | exact Or.inl rfl | exact Or.inr rfl)) pgs_nil)))
    (hs : swapsWithSole [.Tuple [.Name x p, .Name y p2] tk tp] e pos.line X.env = pure false := by rfl) (hw : swappedStores [.Tuple [.Name x p, .Name y p2] tk tp] e X.env = pure none := by rfl) (h1 : (assignEach [Expr.Tuple [.Name x p, .Name y p2] tk tp] X.env).map (·.2) = [assign (.Tuple [.Name x p, .Name y p2] tk tp) X.env] := by rfl) :
    DS X G ρ O (.Assign [.Tuple [.Name x p, .Name y p2] tk tp] e pos) Φ :=
  PSw (ps_asg he hg hs hw h1) fun Dn σ H ⟨B, s, k1, _⟩ => ⟨B, s, fun v B1 H1 s1 e1 h => by
    obtain ⟨t, v1, v2, rfl, hq, r1, r2⟩ := h
    exact ⟨t, _, rfl, same_t s1.bh hq, rfl, v1, _, rfl, v2, _, rfl, rfl, k1 _ _ B1 _ H1 k ((s1.set i (x := .fd kvs) r1).setd j r2) e1⟩⟩
/-- e[1] of it -/
theorem de_tw1 {j} {p2 : Pos} (he : DV X G ρ O e O1 (.tw kvs d)) : DE X G ρ O (.Subscript e (.Constant (.int 1) j p2) pos) O1 d :=
  PEw (pe_ix ix_seq he (de_int (G := G) (ρ := ρ) (O := O1)) (fun _ _ => rfl)) fun σ H Q ⟨B, s, k⟩ => ⟨B, s, fun v B1 H1 s1 e1 h => ⟨B1, s1, fun u B2 H2 s2 e2 h2 => by
    cases h2
    obtain ⟨t, v1, v2, rfl, hq, r1, r2⟩ := h
    exact .inr (.inl ⟨t, [v1, v2], 1, v2, rfl, rfl, same_t s2.bh (same_t e2 hq), rfl, k v2 B2 H2 s2 (e1.trans e2) (dp_mono e2 _ _ r2)⟩)⟩⟩
/-- a slot that is a dict nobody changes -/
theorem pe_fd (i : Nat) {x : Str} {p : Pos} (hr : ρ[i]? = some (some (.fd kvs))) (hN : X.N[i]? = some x) (hv : Vis X.env.scope x) (hd : (x == ("__debug__" : Str)) = false) (hcd : (x == ("__classdict__" : Str)) = false) :
    PE X (.Name x p) (fun σ H Q => ∃ B, SS X.prog X.w X.K G ρ O B σ H ∧ ∀ o od vs, B o = some (.frz od (.dK vs)) → PKd X.K B vs kvs → Q (.ref o) H) := PEw (pe_var hN hv hd hcd) fun σ H Q ⟨B, s, q⟩ => by
  obtain ⟨v, h1, h2⟩ := s.env.at_ i _ hr
  obtain ⟨o, od, vs, rfl, hb, hp⟩ := h2
  exact ⟨_, h1, q o od vs hb hp⟩
theorem wk_keys {K : Frg} {B : Hp} {o : Addr} {od : Obj} {vs : List (Key × V)} (hb : B o = some (.frz od (.dK vs))) (hp : PKd K B vs kvs) : Wk (K := K) (Itk o od vs) B (kvs.map fun kv => .int kv.1) := by
  have hl := Paired.length hp
  refine ⟨fun i H hi e => ⟨e _ _ hb, by rw [List.length_map] at hi; omega⟩, fun H e => ⟨e _ _ hb, by rw [List.length_map]; omega⟩, fun i d B' H x H' hd e1 e2 y => ?_⟩
  obtain ⟨rfl, k, v, hk, rfl⟩ := y
  rw [List.getElem?_map] at hd
  cases q : kvs[i]? with
  | none => rw [q] at hd; cases hd
  | some kv =>
    rw [q] at hd
    cases hd
    obtain ⟨z, hz, hr⟩ := paired_fst hp hk
    rw [q] at hz
    cases hz
    refine ⟨B', ?_, .inl ⟨rfl, rfl⟩⟩
    have hk2 : k = Sum.inl kv.1 := hr.1
    subst hk2
    exact .int _
/-- for x in d -/
theorem di_fd (i : Nat) {x : Str} {p : Pos} {tg : Expr} (hr : ρ[i]? = some (some (.fd kvs)) := by rfl) (hN : X.N[i]? = some x := by rfl) (hv : Vis X.env.scope x := by first | exact Or.inl rfl | exact Or.inr (Or.inl rfl) | exact Or.inr (Or.inr rfl))
    (hd : (x == ("__debug__" : Str)) = false := by decide) (hcd : (x == ("__classdict__" : Str)) = false := by decide) : DI X G ρ O tg (.Name x p) O (kvs.map fun kv => .int kv.1) :=
  PIw (pi_keys (pe_fd (G := G) (O := O) i hr hN hv hd hcd)) fun σ H R ⟨B, s, k⟩ => ⟨B, s, fun o od vs hb hp => ⟨o, od, rfl, .inl ⟨vs, s.bh _ _ hb, k _ B H s (Same.refl B) (wk_keys hb hp)⟩⟩⟩
/-- d[n] -/
theorem de_fget (i : Nat) {k : Nat} {x : Str} {n : Int} {px : Pos} (hr : Room k X.A) (hval : valD kvs n = some d) (hb : DE X G ρ O b O1 (.int n)) (hs : ρ[i]? = some (some (.fd kvs)) := by rfl) (hN : X.N[i]? = some x := by rfl) (hv : Vis X.env.scope x := by first | exact Or.inl rfl | exact Or.inr (Or.inl rfl) | exact Or.inr (Or.inr rfl))
    (hd : (x == ("__debug__" : Str)) = false := by decide) (hcd : (x == ("__classdict__" : Str)) = false := by decide) (hn : NoSl b := by exact fun _ _ => rfl) : DE X G ρ O (.Subscript (.Name x px) b pos) O1 d :=
  PEw (pe_dget (hu_of hr) (pe_fd (G := G) (O := O) i hs hN hv hd hcd) hb hn) fun σ H Q ⟨B, s, q⟩ => ⟨B, s, fun o od vs hbo hp => ⟨B, s, fun v B1 H1 s1 e1 h => by
    cases h
    have hp' : PKd X.K B1 vs kvs := Paired.mapP hp fun p q h => ⟨h.1, dp_mono e1 _ _ h.2⟩
    obtain ⟨v, h1, h2⟩ := (pk_val hp').2 d hval
    refine ⟨o, v, rfl, .inl ⟨vs, Sum.inl n, .inr ⟨od, s1.bh _ _ (e1 _ _ hbo)⟩, rfl, h1.symm⟩, q v B1 H1 s1 e1 h2⟩⟩⟩
/-- sorted(d), d owned, its keys ints -/
theorem de_sortedO (i : Nat) {x : Str} {o : Addr} {cs : List Int} {p px : Pos} (ho : (o, OC.dK kvs) ∈ O) (hperm : (kvs.map (·.1)).Perm cs) (hso : cs.Pairwise (· ≤ ·)) (hz : kvs.length < 64) (hm : X.mg "sorted" = none) (hr : ρ[i]? = some (some (.own o)) := by rfl) (hN : X.N[i]? = some x := by rfl) (hv : Vis X.env.scope x := by first | exact Or.inl rfl | exact Or.inr (Or.inl rfl) | exact Or.inr (Or.inr rfl))
    (hd : (x == ("__debug__" : Str)) = false := by decide) (hcd : (x == ("__classdict__" : Str)) = false := by decide) (hc : X.calm = true := by rfl) (hg : Gl X "sorted" := by rfl) (he : starEach [Expr.Name x px] X.env = (false, eval (.Name x px) X.env) :: starEach [] X.env := by rfl) (hpl : (backTo pos (starEach [] X.env)).any (·.1) = false := by rfl) : DE X G ρ O (.Call (.Name "sorted" p) [.Name x px] [] pos) O (.list (cs.map .int)) :=
  PEw (pe_callB (call_sortedDI hc) hg hm (by decide +kernel) (pa_cons (pe_own (G := G) i hr hN hv hd hcd) pa_nil he) (by decide) (by decide) he hpl) fun σ H Q ⟨B, s, k⟩ => by
    obtain ⟨_, vs, hx, hp⟩ := s.own _ ho
    have hkeys : ∀ {vs : List (Key × V)} {kvs : List (Int × D)}, PKd X.K B vs kvs → vs.map (·.1) = (kvs.map (·.1)).map Sum.inl := by
      intro vs kvs h
      induction h with
      | nil => rfl
      | cons r _ ih => rw [List.map_cons, List.map_cons, List.map_cons, ih, r.1]
    refine ⟨⟨O, B, s⟩, o, vs, kvs.map (·.1), rfl, .inl hx, hkeys hp, by rw [List.length_map]; exact hz, fun ys q py sy hq => ?_⟩
    have e : ys = cs := (py.trans hperm).eq_of_pairwise (le := fun a b => a ≤ b) (fun a b _ _ h h' => Int.le_antisymm h h') sy hso
    subst e
    have sm := same_upd (o := .lst (ys.map V.int)) (s.fresh_b hq)
    have dp : ∀ {B : Hp} (l : List Int), DpAll X.K B (l.map V.int) (l.map PyData.int) := fun l => by
      induction l with
      | nil => exact .nil
      | cons n l ih => exact .cons (.int _) ih
    exact k _ _ _ (s.laid hq) sm (.lst (.inl (.inl upd_same)) (dp ys))
theorem flat_rep {α : Type} {x : α} : ∀ n, (List.replicate n [x]).flatten = List.replicate n x
  | 0 => rfl
  | n + 1 => by rw [List.replicate_succ, List.flatten_cons, flat_rep n, List.replicate_succ]; rfl
theorem dp_rep {K : Frg} {B : Hp} : ∀ m, DpAll K B (List.replicate m V.non) (List.replicate m PyData.none)
  | 0 => .nil
  | m + 1 => by rw [List.replicate_succ, List.replicate_succ]; exact .cons .non (dp_rep m)
/-- name = [None] * n -/
theorem ds_newRep (i : Nat) {x : Str} {n : Nat} {p lp np bp : Pos} {j} (he : DE X G ρ O e O1 (.int (n : Int))) (hn : n ≤ 100000) (k : ∀ q, Φ (.nx (ρ.set i (some (.own q))) ((q, .lst (List.replicate n .none)) :: O1))) (hN : X.N.Nodup) (hi : X.N[i]? = some x := by rfl) (hx : Loc X.env.scope x := by first | exact Or.inl rfl | exact Or.inr rfl)
    (hs : swapsWith (.BinOp (.List [.Constant .none j np] lp) .Mult e bp) (some (.Name x p)) pos.line X.env = pure false := by rfl) (hf : X.fn x = true ∨ X.env.scope.names.lookup x = some .local := by first | exact .inl rfl | exact .inr rfl) (na : starEach [Expr.Constant .none j np] X.env = (false, eval (.Constant .none j np) X.env) :: starEach [] X.env := by rfl) :
    DS X G ρ O (.Assign [.Name x p] (.BinOp (.List [.Constant .none j np] lp) .Mult e bp) pos) Φ :=
  PSw (ps_set hN hi hx (pe_op op_rep (pe_lst (pa_cons pe_non pa_nil na)) he) hs hf) fun Dn σ H ⟨B, s, k1, _⟩ => ⟨by rw [sizeLine_eq]; exact Nat.le_of_ble_eq_true rfl, fun l hl => ⟨_, s.laid (o := .lst [.non]) hl, fun u B2 H2 s2 e2 h2 => by
    cases h2
    have e0 := same_upd (o := .lst [.non]) (s.fresh_b hl)
    refine ⟨l, (n : Int), [.non], rfl, rfl, s2.bh _ _ (e2 _ _ upd_same), by omega, by omega, ?_, fun q hq0 => ?_⟩
    · rw [Int.toNat_natCast, sizeLine_eq]
      show 1 * n ≤ _
      omega
    · rw [Int.toNat_natCast, flat_rep]
      exact k1 _ _ B2 _ _ (k q) ((s2.owned (c := .lst (List.replicate n .none)) hq0 ⟨_, upd_same, dp_rep n⟩).set i rfl) (e0.trans e2)⟩⟩
end
/-- a def that gives a slot's value; nothing is owned by the caller -/
theorem fn_W {P : Program} {w : World} {K : Frg} {mg : Str → Option Value} {base : Heap} {f : Addr} {fd : FuncData} {name qual : Str} {params : Arguments} {body : List Stmt} {scope : Scope} {N ps : List Str} {k : Nat} {R : List Sl → Sl → Prop} (F : FunD K name qual params body scope [] [] f fd) (S : FnScope N ps scope) (len : ∀ ss r, R ss r → ss.length = ps.length)
    (hb : ∀ (cdv : Value) (A : Around) (outer : List PySem.Env) (s : Shared) (H : Hp) (E : XK) (G : Gd) (ss : List Sl) (r : Sl), Room k (A.deeper (envOfC qual scope s.heap.objs.size f cdv)) → G.M = [] → R ss r →
      DSs (bodyX P w K mg base N qual scope f cdv A outer s H E) G (startR N ss) [] body (retV r)) : FnOk P w K mg base CX0 (k + 1) f fd ps (spV P w K R) := by
  refine F.ok S (fun vs H Q E h => ?_) (fun cdv A outer s H vs Q E hr h => ?_)
  · obtain ⟨B, ss, r, hp, hR, _⟩ := h
    rw [paired_len hp, len _ _ hR]
  · obtain ⟨B, ss, r, hp, hR, hbh, q⟩ := h
    refine ⟨_, PSs.nox (hb cdv A outer s H E ⟨[], B, H⟩ ss r hr rfl hR), B, ⟨hbh, Same.refl B, fun _ _ _ e => e, fun _ o e => ⟨o, e⟩, fun _ _ _ => rfl, env_start hp, (fun _ h => nomatch h), List.nodup_nil, fun p hp => nomatch hp⟩, fun ρ' O2 B' σ' H' h => h.elim, fun d ρ' O2 B' σ' H' v h s' e' hd => ?_, fun ρ' O2 B' σ' H' h => h.elim, fun ρ' O2 B' σ' H' h => h.elim⟩
    have h1 : d = r := h
    subst h1
    exact q v B' H' (s'.rt (fun _ h => nomatch h)) hd
end Bid

namespace Bid
open PySem PySem.Spec PyProof.Rows L2
def tSortSet (K : Frg) (ta : TE) : TE := fun σ H Q => ta σ H fun x H1 => ∃ (l : Addr) (ns : List Int), x = .ref l ∧ SqT K H1 l (ns.map V.int) ∧ ns.length < 64 ∧ ∀ (ks : List Int) (p : Addr), ks.Pairwise (· < ·) → (∀ k : Int, k ∈ ks ↔ k ∈ ns) → H1 p = none → Q (.ref p) (upd H1 p (.lst (ks.map V.int)))
theorem boot_sortedI : bootBuiltins "sorted" = some (.builtin "sorted") := by decide +kernel
theorem pe_sortSet {X : Cx} {a : Expr} {ta : TE} {p p2 q pos : Pos} (hg : Gl X "sorted") (hm : X.mg "sorted" = none) (hg2 : Gl X "set") (hm2 : X.mg "set" = none) (ha : PE X a ta) (hc : X.calm = true)
    (na : starEach [a] X.env = (false, eval a X.env) :: starEach [] X.env) : PE X (.Call (.Name "sorted" p) [.Call (.Name "set" p2) [a] [] q] [] pos) (tSortSet X.K ta) := by
  refine ⟨fun pins s σ H Q I h => ?_⟩
  refine Call_ (ld_blt I hg hm boot_sortedI ?_)
  refine PyProof.Rows.callWith_builtin1 (PyProof.Rows.args_cons ?_ rfl) rfl rfl
  refine Call_ (ld_blt I hg2 hm2 boot_set ?_)
  refine PyProof.Rows.callWith_type1 (PyProof.Rows.args_cons (thn (ha.run pins s σ H _ I h) fun v s1 ⟨x, H1, I1, r1, q1⟩ => PyProof.Rows.args_nil ?_) na) na rfl
  obtain ⟨l, ns, rfl, hq, hl, q1⟩ := q1
  cases r1
  obtain ⟨its, r, pl, hz⟩ := I1.tuple hq
  refine call_set_tupI ns (I1.ok.hd hc) pl (by simpa using RZ.intsAre_vals r) (by unfold scanBound; omega) fun h' tk c R hcl hk => ?_
  refine PyProof.Rows.args_nil ?_
  have I2 : Inv X pins σ H1 { s1 with heap := h', toks := tk } := I1.kept fun b o e => hk b o e
  generalize hs2 : ({ s1 with heap := h', toks := tk } : Shared) = s2 at I2
  have R : SetR X.w s2.heap s1.heap.objs.size (fun j => decide (j ∈ ns)) c := by rw [← hs2]; exact R
  refine sorted_set R (I2.ok.hd hc) (by omega) fun s' p out c ns2 k g o hp hg hi hs hm hl2 => ?_
  have hlen : (ns2.map V.int).length ≤ sizeLine := by rw [List.length_map, hl2, sizeLine_eq]; omega
  have hn : H1 p = none := I2.hok.fresh hp
  have J : Inv X pins σ (upd H1 p (.lst (ns2.map V.int))) { s2 with heap := s'.heap, gens := s'.gens, drawn := s'.drawn, toks := s'.toks } :=
    I2.call (ch := []) (Un.laid k hp hn) (I2.hok.laid k hp ⟨hlen, out.toList, c, vals_of_ints hi, hg⟩) (by rw [g]; exact I2.bare) (fun _ z => nomatch z)
  have e : s' = { s2 with heap := s'.heap, gens := s'.gens, drawn := s'.drawn, toks := s'.toks } := by
    cases s'
    cases s2
    cases o
    rfl
  rw [e]
  exact ⟨.ref p, _, J, rfl, q1 ns2 p hs (fun z => (hm z).trans decide_eq_true_iff) hn⟩
theorem inc_unique : ∀ {a b : List Int}, a.Pairwise (· < ·) → b.Pairwise (· < ·) → (∀ k, k ∈ a ↔ k ∈ b) → a = b := fun {a b} ha hb h => by
  have nd : ∀ {l : List Int}, l.Pairwise (· < ·) → l.Nodup := fun h => h.imp fun q e => by omega
  exact ((List.perm_ext_iff_of_nodup (nd ha) (nd hb)).mpr h).eq_of_pairwise (le := fun a b => a < b) (fun a b _ _ h h' => by omega) ha hb
section
variable {X : Cx} {G : Gd} {ρ : Ro} {O O1 O2 O3 : Ow} {e a b c : Expr} {d da db dc : D} {pos : Pos}
theorem de_sortSet {ns ks : List Int} {p p2 q : Pos} (hs : ks.Pairwise (· < ·)) (hk : ∀ k, k ∈ ks ↔ k ∈ ns) (hz : ns.length < 64) (hm : X.mg "sorted" = none) (hm2 : X.mg "set" = none) (ha : DE X G ρ O a O1 (.tuple (ns.map .int))) (hc : X.calm = true := by rfl) (hg : Gl X "sorted" := by rfl) (hg2 : Gl X "set" := by rfl)
    (na : starEach [a] X.env = (false, eval a X.env) :: starEach [] X.env := by rfl) : DE X G ρ O (.Call (.Name "sorted" p) [.Call (.Name "set" p2) [a] [] q] [] pos) O1 (.list (ks.map .int)) :=
  PEw (pe_sortSet hg hm hg2 hm2 ha hc na) fun σ H Q ⟨B, s, k⟩ => ⟨B, s, fun v B1 H1 s1 e1 h1 => by
    cases h1 with
    | @tup p xs _ hq hd =>
      refine ⟨p, ns, rfl, by rw [← dp_ints hd]; exact same_t s1.bh hq, hz, fun ks2 q h1 h2 hn => ?_⟩
      have e : ks2 = ks := inc_unique h1 hs fun z => (h2 z).trans (hk z).symm
      subst e
      have sm := same_upd (o := .lst (ks2.map V.int)) (s1.fresh_b hn)
      have dp : ∀ {B : Hp} (l : List Int), DpAll X.K B (l.map V.int) (l.map PyData.int) := fun l => by
        induction l with
        | nil => exact .nil
        | cons n l ih => exact .cons (.int _) ih
      exact k _ _ _ (s1.laid hn) (e1.trans sm) (.lst (.inl (.inl upd_same)) (dp ks2))⟩
end
end Bid

namespace Bid
open PySem PySem.Spec PyProof.Rows L2
section
variable {prog : Program} {w : World} {A : Around} {E : Value → Shared → Prop} {s : Shared}
theorem back_adjust (n : Nat) : Builtin.Slice.sliceAdjust none none (-1) (n : Int) = ((n : Int) - 1, -1) := by
  unfold Builtin.Slice.sliceAdjust
  have h1 : (-1 : Int) < 0 := by omega
  simp only [h1, if_true]
theorem back_places (n : Nat) : Builtin.Slice.slicePlaces ((n : Int) - 1) (-1) (-1) = n := by
  unfold Builtin.Slice.slicePlaces
  have h1 : ¬ ((-1 : Int) > 0) := by omega
  simp only [h1, if_false]
  split
  · have : (n : Int) - 1 - -1 - 1 = (n : Int) - 1 := by omega
    rw [this]
    have : -(-1 : Int) = 1 := rfl
    rw [this, Int.ediv_one]
    omega
  · omega
theorem back_parts {c : Addr} {vs : Value} {n : Nat} {Q : Int × Int × Nat → Shared → Prop} (hc : s.heap.IsSliceOf c .none .none vs) (ps : IsPart vs (some (-1))) (h : Q ((n : Int) - 1, -1, n) s) : wpAny (model prog w) A (Builtin.Slice.sliceApplied (.ref c) (pure (n : Int))) Q E s := by
  obtain ⟨oc, g1, g2, g3⟩ := id hc
  unfold Builtin.Slice.sliceApplied Builtin.Slice.sliceFields
  refine wpAny_bind (wpAny_bind (wpAny_field g1 g3 (x := .none) rfl (wpAny_bind (wpAny_field g1 g3 (x := .none) rfl (wpAny_bind (wpAny_field g1 g3 (x := vs) rfl (wpAny_pure ?_)))))))
  refine wpAny_bind (HT.slicePart_ ps ?_)
  show wpAny _ _ (if ((-1 : Int) == 0) = true then _ else _) _ _ s
  rw [if_neg (by decide)]
  refine wpAny_bind (HT.slicePart_ .none (wpAny_bind (HT.slicePart_ .none (wpAny_bind (wpAny_pure ?_)))))
  show wpAny _ _ (match Builtin.Slice.sliceAdjust none none (-1) (n : Int) with | (a, b) => pure (a, (-1 : Int), Builtin.Slice.slicePlaces a b (-1))) _ _ s
  rw [back_adjust n]
  show wpAny _ _ (pure ((n : Int) - 1, (-1 : Int), Builtin.Slice.slicePlaces ((n : Int) - 1) (-1) (-1))) _ _ s
  rw [back_places]
  exact wpAny_pure h
theorem back_pick (xs : Array Value) : ((List.range xs.size).filterMap fun (m : Nat) => xs[(((xs.size : Int) - 1) + (m : Int) * (-1)).toNat]?).toArray = xs.toList.reverse.toArray := by
  congr 1
  have e : ∀ m, m ∈ List.range xs.size → xs[(((xs.size : Int) - 1) + (m : Int) * (-1)).toNat]? = xs.toList.reverse[m]? := fun m hm => by
    have hm := List.mem_range.mp hm
    have e1 : (((xs.size : Int) - 1) + (m : Int) * (-1)).toNat = xs.size - 1 - m := by omega
    rw [e1, List.getElem?_reverse (by rw [Array.length_toList]; exact hm), Array.getElem?_toList, Array.length_toList]
  have e2 : ∀ l : List Nat, (∀ m ∈ l, m ∈ List.range xs.size) → l.filterMap (fun (m : Nat) => xs[(((xs.size : Int) - 1) + (m : Int) * (-1)).toNat]?) = l.filterMap (fun m => xs.toList.reverse[m]?) := by
    intro l
    induction l with
    | nil => intro _; rfl
    | cons a l ih =>
      intro h
      have i1 := ih fun m hm => h m (List.mem_cons_of_mem _ hm)
      rw [List.filterMap_cons, List.filterMap_cons, i1, e a (h a (List.mem_cons_self ..))]
  rw [e2 _ fun m h => h]
  have e3 := PySem.W.krv_all xs.toList.reverse.toArray
  have e4 : xs.toList.reverse.toArray.size = xs.size := by rw [List.size_toArray, List.length_reverse, Array.length_toList]
  rw [e4] at e3
  refine Eq.trans ?_ e3
  congr 1
  funext m
  exact (List.getElem?_toArray).symm
theorem tup_back {t c : Addr} {items : Array Value} {vs : Value} {Q : Value → Shared → Prop} (ht : IsTup s.heap t items) (hc : s.heap.IsSliceOf c .none .none vs) (ps : IsPart vs (some (-1)))
    (h : Q (.ref s.heap.objs.size) { s with heap := s.heap.push { cls := .type "tuple", data := .seq items.toList.reverse.toArray } }) (hz : items.size ≤ sizeLine) : wpAny (model prog w) A (getItem (.ref t) (.ref c)) Q E s := by
  have ok : sizeOk (.seq items.toList.reverse.toArray) := by
    show items.toList.reverse.toArray.size ≤ sizeLine
    rw [List.size_toArray, List.length_reverse, Array.length_toList]
    exact hz
  obtain ⟨oc, g1, g2, g3⟩ := id hc
  have hT : s.TypeIs (.ref c) "slice" := ⟨oc, g1, g2⟩
  unfold getItem
  try with_reducible refine wpAny_holding ?_
  first | refine wpAny_bind (wpAny_pure ?_) | skip
  refine wpAny_bind (wpAny_sequenceKey ht.typeIs (by decide) ?_)
  refine wpAny_bind (wpAny_callSpecial?_slot (name := Str.ofString "__getitem__") ht.typeIs PyProof.Rows.slot_tuple_getitem (wpAny_call_entry PyProof.Rows.slot_tuple_getitem ht.typeIs entry_tuple_getitem ?_ (args_tuple_getitem _ _)))
  show wpAny _ _ (Builtin.Tuple.tupleItemsOf (.ref t) >>= _) _ _ s
  refine wpAny_bind (tupleItemsOf_ ht (wpAny_bind (wpAny_typeOf hT ?_)))
  rw [if_pos (by decide)]
  refine wpAny_bind (back_parts hc ps ?_)
  have hno : ¬ ((((items.size : Int) - 1) == 0 && (-1 : Int) == 1 && items.size == items.size) = true) := by
    intro q
    rw [Bool.and_eq_true, Bool.and_eq_true] at q
    exact absurd q.1.2 (by decide)
  show wpAny _ _ (if (((items.size : Int) - 1) == 0 && (-1 : Int) == 1 && items.size == items.size) = true then _ else _) _ _ s
  rw [if_neg hno, back_pick]
  first
    | exact wpAny_bind (m := Builtin.Tuple.tupleExact _) (wpAny_newObj_type (wpAny_pure ⟨_, rfl, wpAny_pure h⟩) ok)
    | exact wpAny_bind (m := Builtin.Tuple.tupleExact _) (wpAny_newObj_type (wpAny_bind (wpAny_pure (wpAny_pure ⟨_, rfl, wpAny_pure h⟩))) ok)
    | exact wpAny_bind (wpAny_bind (m := Builtin.Tuple.tupleExact _) (wpAny_newObj_type (wpAny_pure (wpAny_pure ⟨_, rfl, wpAny_pure h⟩)) ok))
    | exact wpAny_bind (wpAny_bind (m := Builtin.Tuple.tupleExact _) (wpAny_newObj_type (wpAny_pure ⟨_, rfl, wpAny_pure h⟩) ok))
end
section
variable {X : Cx} {G : Gd} {ρ : Ro} {O O1 O2 O3 : Ow} {e a b c : Expr} {d da db dc : D} {pos : Pos}
theorem dpl_rev {K : Frg} {H : Hp} : ∀ {vs : List V} {ds : List D}, DpAll K H vs ds → DpAll K H vs.reverse ds.reverse
  | _, _, .nil => .nil
  | _, _, .cons r t => by
    rw [List.reverse_cons, List.reverse_cons]
    exact dpl_app (dpl_rev t) (.cons r .nil)
/-- t[::-1] -/
theorem de_backT {ds : List D} {k : Nat} {p1 p2 p3 : Pos} (ha : DE X G ρ O a O1 (.tuple ds)) :
    DE X G ρ O (.Subscript a (.Slice none none (some (.UnaryOp .USub (.Constant (.int 1) k p1) p2)) p3) pos) O1 (.tuple ds.reverse) := by
  refine ⟨fun pins s σ H Q I ⟨B, s0, kk⟩ => ?_⟩
  refine Subscript_ (thn (ha.run pins s σ H (fun v H1 => ∃ B1, SS X.prog X.w X.K G ρ O1 B1 σ H1 ∧ Same B B1 ∧ Dp X.K B1 v (.tuple ds)) I ⟨B, s0, fun v B1 H1 s1 e1 h1 => ⟨B1, s1, e1, h1⟩⟩) fun v s1 ⟨x, H1, I1, r1, B1, t1, e1, h1⟩ => ?_)
  cases h1 with
  | @tup q xs _ hq hd =>
    cases r1
    have hst : PO X (some (.UnaryOp .USub (.Constant (.int 1) k p1) p2)) (tPart (tUn (rU fun i => .int (-i)) (tC (.int 1)))) := po_some (pe_un un_neg pe_int)
    refine wpAny_Slice (thn (po_none.run pins s1 σ H1 (fun o H2 => o = none ∧ H2 = H1) I1 ⟨rfl, rfl⟩) fun u1 s2 ⟨_, H2, I2, w1, z1, y1⟩ => ?_)
    subst z1 y1
    refine thn (po_none.run pins s2 σ H2 (fun o H3 => o = none ∧ H3 = H2) I2 ⟨rfl, rfl⟩) fun u2 s3 ⟨_, H3, I3, w2, z2, y2⟩ => ?_
    subst z2 y2
    refine thn (hst.run pins s3 σ H3 (fun o H4 => o = some (-1) ∧ H4 = H3) I3 ⟨1, rfl, -1, rfl, rfl, rfl⟩) fun u3 s4 ⟨_, H4, I4, w3, z3, y3⟩ => ?_
    subst z3 y3
    cases w1
    cases w2
    have I5 : Inv X pins σ H4 { s4 with heap := s4.heap.push { cls := .type "slice", data := .fields #[.none, .none, u3] } } := I4.kept (t' := s4.toks) fun b ob z => Heap.get?_push_of_some _ z
    obtain ⟨its, r, pl, hz⟩ := I5.tuple (same_t t1.bh hq)
    have pl : IsTup ({ s4 with heap := s4.heap.push { cls := .type "slice", data := .fields #[.none, .none, u3] } } : Shared).heap q its.toArray := pl
    have hlen := r.length
    show wpAny (model X.prog X.w) X.A (subscriptTail a (.Slice none none (some (.UnaryOp .USub (.Constant (.int 1) k p1) p2)) p3) (.ref q) (.ref s4.heap.objs.size)) (EP X pins σ Q) X.xe { s4 with heap := s4.heap.push { cls := .type "slice", data := .fields #[.none, .none, u3] } }
    refine tail_any (ops := [.ref q, .ref s4.heap.objs.size]) pl.typeIs (PyProof.Rows.slot_tuple_getitem.lookup) ?_ (by with_unfolding_all rfl)
    refine tup_back pl (Heap.IsSliceOf.new _ .none .none u3) w3 ?_ (by rw [List.size_toArray]; omega)
    have hn := I5.hok.fresh (Nat.le_refl _)
    have sm := same_upd (o := .tup xs.reverse) (t1.fresh_b hn)
    refine ⟨.ref _, _, I5.laid (t' := s4.toks) (o := .tup xs.reverse) (fun b ob z => Heap.get?_push_of_some _ z) (Nat.le_refl _) ⟨by rw [List.length_reverse]; exact hz, _, r.reverse, IsTup.new _ _⟩, rfl, ?_⟩
    exact kk _ _ _ (t1.laid hn) (e1.trans sm) (.tup (.inl (.inl upd_same)) (dpAll_mono sm _ _ (dpl_rev hd)))
theorem dpl_repT {K : Frg} {H : Hp} {vs : List V} {ds : List D} (h : DpAll K H vs ds) : ∀ n, DpAll K H (List.replicate n vs).flatten (List.replicate n ds).flatten
  | 0 => .nil
  | n + 1 => by
    rw [List.replicate_succ, List.replicate_succ, List.flatten_cons, List.flatten_cons]
    exact dpl_app h (dpl_repT h n)
/-- t * n, t not empty -/
theorem de_repT {ds : List D} {i : Int} (hne : ds ≠ []) (h1 : 2 ≤ i) (h2 : i ≤ 1000) (hz : ds.length ≤ 1000) (ha : DE X G ρ O a O1 (.tuple ds)) (hb : DE X G ρ O1 b O2 (.int i)) : DE X G ρ O (.BinOp a .Mult b pos) O2 (.tuple (List.replicate i.toNat ds).flatten) :=
  de_op op_repT ha hb fun G ρ O B σ H x y Q s hx hy k => by
    cases hy
    cases hx with
    | @tup p xs _ hq hd =>
      have hl := dpl_length hd
      refine ⟨p, i, xs, rfl, rfl, same_t s.bh hq, (fun e => hne (List.eq_nil_of_length_eq_zero (by rw [← hl, e]; rfl))), h1, h2, by omega, fun r hr => ?_⟩
      exact k _ _ _ (s.laid hr) (same_upd (s.fresh_b hr)) (.tup (.inl (.inl upd_same)) (dpAll_mono (same_upd (s.fresh_b hr)) _ _ (dpl_repT hd _)))
/-- str(n) -/
theorem de_strI {i : Int} {p : Pos} (hz : i.natAbs.log2 < 1920) (hm : X.mg "str" = none) (ha : DE X G ρ O a O1 (.int i)) (hg : Gl X "str" := by rfl) (he : starEach [a] X.env = (false, eval a X.env) :: starEach [] X.env := by rfl) (hpl : (backTo pos (starEach [] X.env)).any (·.1) = false := by rfl) :
    DE X G ρ O (.Call (.Name "str" p) [a] [] pos) O1 (.str (toString i)) :=
  de_t1 call_str_int (fun G ρ O B σ H x Q s h k => by
    cases h
    exact ⟨i, rfl, hz, k _ B H s (Same.refl B) (.str _)⟩) hm (by decide +kernel) ha hg (by decide) (by decide) he hpl
/-- len(d), d owned -/
theorem de_lenO (i : Nat) {x : Str} {o : Addr} {kvs : List (Int × D)} {p px : Pos} (ho : (o, OC.dK kvs) ∈ O) (hm : X.mg "len" = none) (hr : ρ[i]? = some (some (.own o)) := by rfl) (hN : X.N[i]? = some x := by rfl) (hv : Vis X.env.scope x := by first | exact Or.inl rfl | exact Or.inr (Or.inl rfl) | exact Or.inr (Or.inr rfl))
    (hd : (x == ("__debug__" : Str)) = false := by decide) (hcd : (x == ("__classdict__" : Str)) = false := by decide) (hg : Gl X "len" := by rfl) (he : starEach [Expr.Name x px] X.env = (false, eval (.Name x px) X.env) :: starEach [] X.env := by rfl) (hpl : (backTo pos (starEach [] X.env)).any (·.1) = false := by rfl) : DE X G ρ O (.Call (.Name "len" p) [.Name x px] [] pos) O (.int kvs.length) :=
  PEw (pe_callB call_lenD hg hm PySem.boot_len (pa_cons (pe_own (G := G) i hr hN hv hd hcd) pa_nil he) (by decide) (by decide) he hpl) fun σ H Q ⟨B, s, k⟩ => by
    obtain ⟨_, vs, hx, hp⟩ := s.own _ ho
    exact ⟨⟨O, B, s⟩, o, vs, rfl, hx, by rw [Paired.length hp]; exact k _ B H s (Same.refl B) (.int _)⟩
end
end Bid

namespace Bid
open PySem PySem.Spec PyProof.Rows L2
theorem dp_strs {K : Frg} {B : Hp} : ∀ {ys : List Str} {vs : List V}, DpAll K B vs (ys.map PyData.str) → vs = ys.map V.str
  | [], _, h => by cases h; rfl
  | n :: ns, _, h => by
    cases h with
    | cons h1 h2 =>
      cases h1
      rw [dp_strs h2]
      rfl
theorem dp_of_strs {K : Frg} {B : Hp} : ∀ ys : List Str, DpAll K B (ys.map V.str) (ys.map PyData.str)
  | [] => .nil
  | y :: ys => .cons (.str y) (dp_of_strs ys)
section
variable {X : Cx} {G : Gd} {ρ : Ro} {O O1 O2 O3 : Ow} {e a b c o : Expr} {d da db dc : D} {pos apos : Pos}
/-- s.join(xs) -/
theorem de_join {z : Str} {ys : List Str} (hz : (ys.map (·.length)).sum + ys.length * z.length ≤ 16777216) (ho : DE X G ρ O o O1 (.str z)) (he : DE X G ρ O1 e O2 (.list (ys.map .str)))
    (hs : starEach [e] X.env = [(false, eval e X.env)] := by rfl) (hbase : attributeBase o "join" X.env (eval o X.env) = eval o X.env := by rfl) (hline : (apos.endLine == pos.line) = true := by rfl) : DE X G ρ O (.Call (.Attribute o "join" apos) [e] [] pos) O2 (.str (Txt.join z ys)) :=
  PEw (pe_join ho he hs hbase hline) fun σ H Q ⟨B, s, k⟩ => ⟨B, s, fun v B1 H1 s1 e1 h1 => by
    cases h1
    refine ⟨⟨z, rfl⟩, B1, s1, fun u B2 H2 s2 e2 h2 => ?_⟩
    cases h2 with
    | @lst p xs _ hq hd => exact ⟨z, p, ys, rfl, rfl, .inl (by rw [← dp_strs hd]; exact same_l s2.bh hq), hz, k _ B2 H2 s2 (e1.trans e2) (.str _)⟩⟩
/-- s.split(t) -/
theorem de_split {z y : Str} (hy : (y.length == 0) = false) (hz : z.length + 2 ≤ sizeLine) (ho : DE X G ρ O o O1 (.str z)) (he : DE X G ρ O1 e O2 (.str y))
    (hs : starEach [e] X.env = [(false, eval e X.env)] := by rfl) (hbase : attributeBase o "split" X.env (eval o X.env) = eval o X.env := by rfl) (hline : (apos.endLine == pos.line) = true := by rfl) : DE X G ρ O (.Call (.Attribute o "split" apos) [e] [] pos) O2 (.list ((Txt.split z y).map .str)) :=
  PEw (pe_split ho he hs hbase hline) fun σ H Q ⟨B, s, k⟩ => ⟨B, s, fun v B1 H1 s1 e1 h1 => by
    cases h1
    refine ⟨⟨z, rfl⟩, B1, s1, fun u B2 H2 s2 e2 h2 => ?_⟩
    cases h2
    refine ⟨z, y, rfl, rfl, hy, hz, fun p hp => ?_⟩
    have sm := same_upd (o := .lst ((Txt.split z y).map V.str)) (s2.fresh_b hp)
    exact k _ _ _ (s2.laid hp) ((e1.trans e2).trans sm) (.lst (.inl (.inl upd_same)) (dp_of_strs _))⟩
/-- s.find(t) -/
theorem de_find {z y : Str} (ho : DE X G ρ O o O1 (.str z)) (he : DE X G ρ O1 e O2 (.str y))
    (hs : starEach [e] X.env = [(false, eval e X.env)] := by rfl) (hbase : attributeBase o "find" X.env (eval o X.env) = eval o X.env := by rfl) (hline : (apos.endLine == pos.line) = true := by rfl) : DE X G ρ O (.Call (.Attribute o "find" apos) [e] [] pos) O2 (.int (Txt.find z y)) :=
  PEw (pe_m1 PySem.F.slot_str_find PySem.F.type_str_find mt_find ho he hs hbase hline) fun σ H Q ⟨B, s, k⟩ => ⟨B, s, fun v B1 H1 s1 e1 h1 => by
    cases h1
    refine ⟨⟨z, rfl⟩, B1, s1, fun u B2 H2 s2 e2 h2 => ?_⟩
    cases h2
    exact ⟨z, y, rfl, rfl, k _ B2 H2 s2 (e1.trans e2) (.int _)⟩⟩
/-- z[lo:hi] -/
theorem de_cutS {z : Str} {lo hi : Option Expr} {l h : Option Int} {p2 : Pos} (hz : z.length ≤ 1000000) (ha : DE X G ρ O a O1 (.str z)) (hl : DP X G ρ O1 lo O2 l) (hh : DP X G ρ O2 hi O3 h) : DE X G ρ O (.Subscript a (.Slice lo hi none p2) pos) O3 (.str (cutS z l h)) :=
  PEw (pe_slice sl_str ha hl hh) fun σ H Q ⟨B, s, k⟩ => ⟨B, s, fun v B1 H1 s1 e1 h1 => ⟨B1, s1, fun B2 H2 s2 e2 => ⟨B2, s2, fun B3 H3 s3 e3 => by
    cases h1
    exact ⟨z, rfl, by rw [sizeLine_eq]; omega, k _ B3 H3 s3 ((e1.trans e2).trans e3) (.str _)⟩⟩⟩⟩
/-- a sign in a text -/
theorem de_inSign {n : Nat} {z : Str} (ha : DE X G ρ O a O1 (.str ⟨#[n]⟩)) (hb : DE X G ρ O1 b O2 (.str z)) (hm : behindInMarks .In b = false := by rfl) : DE X G ρ O (.Compare a [.In] [b] pos) O2 (.bool (decide (n ∈ z.cps.toList))) :=
  de_cmp op_in_sign ha hb (fun G ρ O B σ H x y Q s hx hy k => by
    cases hx; cases hy
    exact ⟨n, z, rfl, rfl, k _ B H s (Same.refl B) (.bl _)⟩) hm
/-- int(text) -/
theorem de_intT {z : Str} {n : Int} {p : Pos} (hn : PySem.intText? z = some n) (hz : z.length ≤ 640) (hm : X.mg "int" = none) (ha : DE X G ρ O a O1 (.str z)) (hg : Gl X "int" := by rfl) (he : starEach [a] X.env = (false, eval a X.env) :: starEach [] X.env := by rfl) (hpl : (backTo pos (starEach [] X.env)).any (·.1) = false := by rfl) :
    DE X G ρ O (.Call (.Name "int" p) [a] [] pos) O1 (.int n) :=
  de_t1 call_int_str (fun G ρ O B σ H x Q s h k => by
    cases h
    exact ⟨z, n, rfl, hn, hz, k _ B H s (Same.refl B) (.int _)⟩) hm (by decide +kernel) ha hg (by decide) (by decide) he hpl
end
section
variable {X : Cx} {G : Gd} {ρ : Ro} {O : Ow} {pos : Pos} {Φ : Oc → Prop}
/-- try .. except x, the body raises nothing -/
theorem ds_tryO {x : Str} {c : Value} {body suite : List Stmt} {b₀ : Stmt} {np pos' : Pos} (hb : ∀ pn xe, DSs (X.tr pn xe) G ρ O body Φ) (hc : Names X x c) (hs : X.stack = X.env :: X.outer := by rfl) (hf : X.env.frame = some X.env.locals := by rfl) :
    DS X G ρ O (.Try body [.ExceptHandler (some (.Name x np)) none (b₀ :: suite) pos'] [] [] pos) Φ :=
  PSw (ps_try_only (tb := fun _ => tS X.prog X.w X.K G ρ O Φ) (ts := fun _ _ _ => fun _ _ _ => False) hs hf hc takesF (fun W pn xe _ _ => hb pn xe) (fun a oe cls d pn _ _ => ⟨fun pins s σ H Dn I h => h.elim⟩)) fun Dn σ H h => h
/-- the body raises what the clause names -/
theorem ds_tryXO {x : Str} {C : Value} {body suite : List Stmt} {b₀ : Stmt} {np pos' : Pos} (Ξ : Value → Ro → Ow → Prop) (hb : ∀ W pn xe, Takes (X.tr pn xe) W → DRs (X.tr pn xe) G ρ O body Ξ W) (hc : Names X x C) (hx : ∀ cls ρ' O', Ξ cls ρ' O' → PySem.W.exmOne X.K cls C = some true)
    (hsu : ∀ cls ρ' O' (a : Addr) (oe : Obj) (pn : List (Addr × Obj)), Ξ cls ρ' O' → Zc cls none oe → (∃ vs, oe.data = .fields vs) → DSs (X.suite a ((a, oe) :: pn)) G ρ' O' (b₀ :: suite) Φ) (hs : X.stack = X.env :: X.outer := by rfl) (hf : X.env.frame = some X.env.locals := by rfl) :
    DS X G ρ O (.Try body [.ExceptHandler (some (.Name x np)) none (b₀ :: suite) pos'] [] [] pos) Φ := by
  refine PSw (ps_try_only (tb := fun W => tSX X.prog X.w X.K G ρ O Ξ W) (ts := fun a cls d => fun Dn σ H => ∃ ρ O, (∀ (oe : Obj) (pn : List (Addr × Obj)), Zc cls none oe → (∃ vs, oe.data = .fields vs) → DSs (X.suite a ((a, oe) :: pn)) G ρ O (b₀ :: suite) Φ) ∧ d = none ∧ tS X.prog X.w X.K G ρ O Φ Dn σ H)
    hs hf hc takesF (fun W pn xe tk _ => hb W pn xe tk) (fun a oe cls d pn hz hv => ⟨fun pins s σ H Dn I ⟨ρ, O, h, hd, q⟩ => by subst hd; exact (h oe pn hz hv).run pins s σ H Dn I q⟩)) fun Dn σ H ⟨B, s, k1, k2, k3, k4⟩ => ⟨B, s, fun cls ρ' O' B' σ' H' hΞ s' e' => ?_⟩
  exact ⟨true, hx cls ρ' O' hΞ, fun _ a _ => ⟨ρ', O', fun oe pn hz hv => hsu cls ρ' O' a oe pn hΞ hz hv, rfl, tS_from e' s' k1 k2 k3 k4⟩, fun h => by cases h⟩
end
open TL
theorem joinL_cons (S : List Nat) : ∀ (p : List Nat) (ps : List (List Nat)), joinL S (p :: ps) = p ++ (ps.map (S ++ ·)).flatten
  | p, [] => by
    show p = p ++ []
    rw [List.append_nil]
  | p, q :: r => by
    show p ++ (S ++ joinL S (q :: r)) = _
    rw [joinL_cons S q r, List.map_cons, List.flatten_cons, List.append_assoc]
def txt (b : Int) : Str := Str.ofString (toString b)
abbrev sgA : List Nat := [32]
abbrev sgB : List Nat := [32, 59, 32]
theorem tl_A : tl (Str.ofString " ") = sgA := by decide +kernel
theorem tl_B : tl (Str.ofString " ; ") = sgB := by decide +kernel
def rowL (r : List Int) : List Nat := (r.zipIdx.map fun a => (if a.2 = 0 then sgB else sgA) ++ tl (txt a.1)).flatten
theorem zip_up (n : Nat) : ∀ (r : List Int), ((r.zipIdx (n + 1)).map fun a => (if a.2 = 0 then sgB else sgA) ++ tl (txt a.1)) = r.map fun b => sgA ++ tl (txt b)
  | [] => rfl
  | b :: r => by
    rw [List.zipIdx_cons, List.map_cons, List.map_cons, zip_up (n + 1) r]
    congr 1
theorem rowL_eq : ∀ {r : List Int}, r ≠ [] → rowL r = sgB ++ joinL sgA (r.map fun b => tl (txt b))
  | [], h => absurd rfl h
  | b :: r, _ => by
    unfold rowL
    rw [List.zipIdx_cons, List.map_cons, List.flatten_cons, zip_up 0 r, List.map_cons, joinL_cons, List.map_map, if_pos rfl, List.append_assoc]
    rfl
theorem rows_eq : ∀ {S : List (List Int)}, S ≠ [] → (∀ r ∈ S, r ≠ []) → (S.map rowL).flatten = sgB ++ joinL sgB (S.map fun r => joinL sgA (r.map fun b => tl (txt b)))
  | [], h, _ => absurd rfl h
  | r :: S, _, h => by
    have e : S.map rowL = (S.map fun r => joinL sgA (r.map fun b => tl (txt b))).map (sgB ++ ·) := by
      rw [List.map_map]
      exact List.map_congr_left fun q hq => rowL_eq (h q (List.mem_cons_of_mem _ hq))
    rw [List.map_cons, List.flatten_cons, rowL_eq (h r (List.mem_cons_self ..)), e, List.map_cons, joinL_cons, List.append_assoc]
/-- a sale's text -/
def rowS (r : List Int) : Str := Txt.join (Str.ofString " ") (r.map txt)
def wrS (S : List (List Int)) : Str := Txt.join (Str.ofString " ; ") (S.map rowS)
theorem tl_rowS (r : List Int) : tl (rowS r) = joinL sgA (r.map fun b => tl (txt b)) := by
  unfold rowS
  rw [join_eq, tl_join, tl_A, List.map_map]
  rfl
theorem tl_wrS (S : List (List Int)) : tl (wrS S) = joinL sgB (S.map fun r => joinL sgA (r.map fun b => tl (txt b))) := by
  unfold wrS
  rw [join_eq, tl_join, tl_B, List.map_map]
  congr 1
  exact List.map_congr_left fun r _ => tl_rowS r
theorem tl_cut3 (z : Str) : tl (cutS z (some 3) none) = (tl z).drop 3 := by
  show ((z.cps.toList.drop (HT.sIx z.length 0 (some 3))).take (HT.sIx z.length z.length none - HT.sIx z.length 0 (some 3))) = _
  have h1 : HT.sIx z.length 0 (some 3) = min 3 z.length := HT.sIx_nat z.length 0 3
  rw [h1, HT.sIx_none]
  have hl : z.cps.toList.length = z.length := (len_tl z).symm
  by_cases h : 3 ≤ z.length
  · rw [Nat.min_eq_left h, List.take_of_length_le (by rw [List.length_drop]; omega)]
  · rw [Nat.min_eq_right (by omega), List.drop_of_length_le (by omega), List.drop_of_length_le (by rw [len_tl] at h; omega)]
    exact List.take_nil
theorem sum_le {α : Type} (f : α → Nat) (c : Nat) : ∀ (l : List α), (∀ x ∈ l, f x ≤ c) → (l.map f).sum ≤ l.length * c
  | [], _ => by simp
  | x :: l, h => by
    have h1 := h x (List.mem_cons_self ..)
    have h2 := sum_le f c l fun y hy => h y (List.mem_cons_of_mem _ hy)
    rw [List.map_cons, List.sum_cons, List.length_cons, Nat.succ_mul]
    omega
theorem flat_le {α : Type} (f : α → List Nat) (c : Nat) : ∀ (l : List α), (∀ x ∈ l, (f x).length ≤ c) → (l.map f).flatten.length ≤ l.length * c
  | [], _ => by simp
  | x :: l, h => by
    have h1 := h x (List.mem_cons_self ..)
    have h2 := flat_le f c l fun y hy => h y (List.mem_cons_of_mem _ hy)
    rw [List.map_cons, List.flatten_cons, List.length_append, List.length_cons, Nat.succ_mul]
    omega
theorem txt_len {b : Int} (h0 : 0 ≤ b) (h1 : b ≤ 1000000) : (txt b).length ≤ 7 := by
  obtain ⟨n, rfl⟩ : ∃ n : Nat, b = (n : Int) := ⟨b.toNat, (Int.toNat_of_nonneg h0).symm⟩
  unfold txt
  rw [len_tl, tl_num]
  exact numL_len (by decide) (Nat.lt_of_le_of_lt (show n ≤ 1000000 by omega) (by decide))
end Bid

namespace Bid
open PySem PySem.Spec PyProof.Rows L2
theorem note_congr {x : Value} {e1 e2 : PySem.Env} (h : e1.frame = e2.frame) : noteFrame x e1 = noteFrame x e2 := by
  unfold noteFrame PySem.frameOf
  rw [h]
section
variable {M : Model} {A : Around} {E : Value → Shared → Prop} {s : Shared} {B : Heap} {env : PySem.Env} {outer l : List PySem.Env} {L a : Addr} {Z : Obj → Prop}
theorem sky_held {Q : Unit → Shared → Prop} (hZ : HandSPX.Steady Z) (hfr : A.frames = some (env :: outer)) (hf : env.frame = some L) (x : Sky B (env :: outer) a Z L s.heap)
    (hQ : ∀ h', HandSPX.HeldZ B (env :: outer) a Z L h' → s.heap.UpToSlots h' → Q () { s with heap := h' }) : wpAny M A (noteFrame (.ref a) env) Q E s := by
  rcases x with ⟨k1, k2, k3, oe, vs, k4, k5, k6, k7⟩ | fl | hh
  · exact HandSPX.look_newZ hZ hfr k3 hf k4 k1 k2 k6 k7 k5 hQ
  · exact HandSPX.looks_onZ hZ hfr hf fl hQ
  · exact HandSPX.againZ hf hh.2.2.2 (hQ s.heap hh (Heap.UpToSlots.refl _))
theorem pass_held {α : Type} {what : String} {Q : α → Shared → Prop} (hf : env.frame = some L) (hh : HandSPX.HeldZ B l a Z L s.heap) (hE : ∀ h', HandSPX.HeldZ B l a Z L h' → s.heap.UpToSlots h' → E (.ref a) { s with heap := h' }) :
    wpAny M A (PySem.passOn what (.ref a) env : Sem α) Q E s := by
  obtain ⟨_, _, _, oe, vs, T, oT, ts, k1, _, k2, k3, _⟩ := id hh
  unfold PySem.passOn
  refine wpAny_bind (wpAny_field k1 k2 k3 ?_)
  rw [if_neg (show ¬ ((Value.ref T == Value.none) = true) from by simp), hf]
  first
    | exact wpAny_bind (HandSPX.setFlight_onZ hh fun h' q1 q2 => wpAny_throw (hE h' q1 q2))
    | exact wpAny_bind (wpAny_pure (wpAny_bind (HandSPX.setFlight_onZ hh fun h' q1 q2 => wpAny_throw (hE h' q1 q2))))
end
/-- what XE tells, the flight at L's hand -/
def XL (X : Cx) (L : Addr) (W : WX) (u : Value) (s' : Shared) : Prop :=
  ∃ (a : Addr) (B : Heap) (sI : Shared) (pins : List (Addr × Obj)) (σ : L2.St) (H : Hp) (cls : Value) (d : Option Addr),
    u = .ref a ∧ L2.Inv X pins σ H sI ∧ (∀ b o, sI.heap.get? b = some o → b ∉ frs X.stack → B.get? b = some o) ∧ sI.heap.UpToSlots s'.heap ∧
      Sky B X.stack a (Zc cls d) L s'.heap ∧ H a = none ∧ s'.os = sI.os ∧ AllBare s'.gens ∧ W cls d σ H
def TakesL (X : Cx) (L : Addr) (W : WX) : Prop := ∀ u s', XL X L W u s' → X.xe u s'
theorem takesL_of {X : Cx} {W : WX} (tk : Takes X W) : TakesL X X.env.locals W := tk
theorem passAtL {X : Cx} {L : Addr} {W : WX} (tk : TakesL X L W) (σ : L2.St) : PassesAt (L2.CX X.prog X.w) X σ (WE W σ) := fun pins H s e s' I c => by
  have hx := XE.of_call (W := W) I (fun cls d H' h => h) c
  obtain ⟨a, B, sI, pins', σ', H', cls, d, rfl, J, nb, up, sky, na, os, ag, hw⟩ := hx
  obtain ⟨a2, B2, H2, c2, d2, e2, fl, _⟩ := c
  cases e2
  refine tk _ _ ⟨a, B, sI, pins', σ', H', cls, d, rfl, J, nb, up, ?_, na, os, ag, hw⟩
  obtain ⟨_, _, _, oe, vs, T, oT, ts, k1, _, k2, k3, _, _, k4, k5, k6⟩ := fl
  rcases sky with ⟨_, _, _, oe', vs', q1, _, q2, q3⟩ | f | ⟨_, _, _, oe', vs', T', oT', ts', q1, _, q2, q3, _, _, q4, q5, q6⟩
  · rw [k1] at q1
    cases q1
    rw [k2] at q2
    cases q2
    rw [k3] at q3
    cases q3
  · exact .inr (.inl f)
  · rw [k1] at q1
    cases q1
    rw [k2] at q2
    cases q2
    rw [k3] at q3
    cases q3
    rw [k4] at q4
    cases q4
    rw [k5] at q5
    cases q5
    rw [k6] at q6
    exact absurd (Option.some.inj q6) (by simp [rawInt])
theorem comp_raise {M : Model} {A : Around} {E : Value → Shared → Prop} {s : Shared} {env : PySem.Env} {e : Expr} {scope : Scope} {pos : Pos} {newAcc first : Sem Value} {g : Comprehension} {gs : List Comprehension} {cl : List (Str × Addr)} {Q : Value → Shared → Prop}
    (hcl : clausesOf e = g :: gs) (hs : ∀ x, foldedSetIterable g.iter env x = pure x) (hclos : closureFor scope env = pure cl) (hkind : scope.kind = .function) (hnames : ∀ x ∈ scope.names, x.2 = .local → scope.names.lookup x.1 = some .local)
    (h : wpAny M A first (fun x s₁ => wpAny M A (pyIter x) (fun it s₂ => wpAny M A newAcc (fun acc s₃ => wpAny M A (newFunctionEnv scope env.globals cl [] env.qual none .none (some env)) (fun cenv s₄ =>
      codeAny M A (.compStart e 0 it acc { cenv with scope := relabel scope env }) (fun r s' => ∃ m, s'.heap.Ns cenv.locals m ∧ ∀ h', Heap.SameBut cenv.locals s'.heap h' → match r with
        | .ok _ => Q acc { s' with heap := h' }
        | .error x => ∀ ce : PySem.Env, ce.frame = cenv.frame → wpAny M A (PySem.passOn "comprehension.variables-let-go" x ce : Sem Value) (fun _ _ => False) E { s' with heap := h' }) s₄) E s₃) E s₂) E s₁) E s) :
    wpAny M A (comprehension e scope env pos newAcc false first none) Q E s := by
  unfold comprehension
  rw [hclos, hcl]
  refine wpAny_bind (wpAny_mono h (fun x t₁ k₁ => ?_) fun _ _ q => q)
  refine wpAny_bind (wpAny_standAt (wpAny_bind (wpAny_of_eq (hs x) (wpAny_bind (wpAny_holding (wpAny_mono k₁ (fun it t₂ k₂ => ?_) fun _ _ q => q))))))
  refine wpAny_standIf (wpAny_bind (wpAny_mono k₂ (fun acc t₃ k₃ => wpAny_bind (wpAny_pure (wpAny_bind (wpAny_mono k₃ (fun ce t₄ k₄ => ?_) fun _ _ q => q)))) fun _ _ q => q))
  dsimp only
  have hv : ∀ x ∈ (scope.names.filter fun x => (x.2 == .local || x.2 == .cell) && x.1 != (".0" : Str)).reverse, x.2 = .local → PySem.Env.kindOf { ce with scope := relabel scope env } x.1 = some .local :=
    fun x hx q => lookup_relabel_local (hnames x (List.mem_filter.mp (List.mem_reverse.mp hx)).1 q)
  refine wpAny_holding (wpAny_bind (wpAny_attempt (wpAny_holding (wpAny_run (codeAny_mono k₄ fun r s' hr => ?_)))))
  obtain ⟨m, hn, hr⟩ := hr
  cases r with
  | ok f => exact wpAny_bind (wpAny_holding (wpAny_comp_letGo (cenv := { ce with scope := relabel scope env }) hkind _ s' m hv hn fun h' _ _ hb => wpAny_pure (hr h' hb)))
  | error x => exact wpAny_bind (wpAny_holding (wpAny_comp_letGo (cenv := { ce with scope := relabel scope env }) hkind _ s' m hv hn fun h' _ _ hb => wpAny_mono (hr h' hb { ce with scope := relabel scope env } rfl) (fun _ _ f => f.elim) fun _ _ q => q))
theorem frames_same {h h' B B' : Heap} : ∀ {l : List PySem.Env}, h.FunFrames B l → (∀ L ∈ frs l, h'.get? L = h.get? L ∧ (B.get? L = none → B'.get? L = none)) → h'.FunFrames B' l
  | [], _, _ => trivial
  | env :: l, k, q => by
    obtain ⟨k1, ⟨L, o, k2, k3, k4, k5⟩, k6⟩ := k
    have hL : L ∈ frs (env :: l) := List.mem_filterMap.mpr ⟨env, List.mem_cons_self .., k2⟩
    exact ⟨k1, ⟨L, o, k2, (q L hL).2 k3, by rw [(q L hL).1]; exact k4, k5⟩, frames_same k6 fun b hb => q b (by
      obtain ⟨e, he, z⟩ := List.mem_filterMap.mp hb
      exact List.mem_filterMap.mpr ⟨e, List.mem_cons_of_mem _ he, z⟩)⟩
theorem held_less {B h h' : Heap} {l : List PySem.Env} {a L C : Addr} {Z : Obj → Prop} {oC : Obj} (x : HandSPX.HeldZ B l a Z L h) (hC : B.get? C = some oC) (hl : C ∉ frs l) (sb : Heap.SameBut C h h') : HandSPX.HeldZ (PySem.W.hideAll B [C]) l a Z L h' := by
  obtain ⟨k1, k2, k3, oe, vs, T, oT, ts, q1, q2, q3, q4, q5, q6, q7, q8, q9⟩ := x
  have hn : ∀ b, B.get? b = none → (PySem.W.hideAll B [C]).get? b = none := fun b hb => by
    cases q : (PySem.W.hideAll B [C]).get? b with
    | none => rfl
    | some o =>
      have z := PySem.W.of_hideAll [C] q
      rw [hb] at z; cases z
  have ne : ∀ b, B.get? b = none → b ≠ C := fun b hb e => by rw [e, hC] at hb; cases hb
  have hc : (PySem.W.hideAll B [C]).get? C = none := PySem.W.hideAll_none [C] (List.mem_singleton.mpr rfl)
  refine ⟨fun b o e => ?_, hn a k2, frames_same k3 fun b hb => ⟨sb.2 b fun e => hl (e ▸ hb), hn b⟩, oe, vs, T, oT, ts, by rw [sb.2 a (ne a k2)]; exact q1, q2, q3, q4, hn T q5, q6, by rw [sb.2 T (ne T q5)]; exact q7, q8, q9⟩
  have hb : b ≠ C := fun z => by rw [z, hc] at e; cases e
  rw [sb.2 b hb]
  exact k1 b o (PySem.W.of_hideAll [C] e)
/-- a block that may raise -/
abbrev blkx (X : Cx) (s : Shared) (H : Hp) (scope : Scope) (cenv : PySem.Env) (fp : List Addr) (xe : Value → Shared → Prop) : Cx := (X.blk s H scope cenv fp).tr [] xe
section
variable {X : Cx}
theorem lcx_core {L : Addr} {W : WX} {env0 : PySem.Env} {out0 : List PySem.Env} {pins : List (Addr × Obj)} {s : Shared} {σ : L2.St} {H : Hp} {Q : VK} {elt tg iter : Expr} {ifs : List Expr} {scope : Scope} {own : List (Str × Nat)} {pos pos' : Pos} {wi : TI} {g : TG} {tt : TT} {te : WX → TE} {Qf : Value → Shared → Prop}
    (hst : X.stack = env0 :: out0) (hf0 : env0.frame = some L) (hfX : X.env.frame = some L) (tk : TakesL X L W)
    (hc : X.calm = true) (hN : X.N.Nodup) (I : L2.Inv X pins σ H s) (hi : PI X tg iter wi) (ok : BlkOk X.N X.env.scope scope own)
    (hg : ∀ (s : Shared) (H : Hp) (C : Addr) (cl : List (Str × Addr)) (fp : List Addr) (xe : Value → Shared → Prop), PG (blkx X s H scope (compEnvC scope cl C X.env) fp xe) tg g) (ht : ∀ (s : Shared) (H : Hp) (C : Addr) (cl : List (Str × Addr)) (fp : List Addr) (xe : Value → Shared → Prop), PTs (blkx X s H scope (compEnvC scope cl C X.env) fp xe) ifs tt)
    (he : ∀ (s : Shared) (H : Hp) (C : Addr) (cl : List (Str × Addr)) (fp : List Addr) (xe : Value → Shared → Prop) (Wb : WX), TakesL (blkx X s H scope (compEnvC scope cl C X.env) fp xe) L Wb → PE (blkx X s H scope (compEnvC scope cl C X.env) fp xe) elt (te Wb)) (hs : ∀ x, foldedSetIterable iter X.env x = pure x)
    (h : tLc wi g tt (te fun cls d _ H' => W cls d σ H') (own.map (·.2)) σ H Q)
    (hRR : ∀ D C s' m H', L2.Inv X pins σ H' s' → Q (.ref D) H' → s'.heap.Ns C m → FpOk X pins H' C → ∀ h', Heap.SameBut C s'.heap h' → Qf (.ref D) { s' with heap := h' }) :
    wpAny (model X.prog X.w) X.A (comprehension (.ListComp elt [⟨tg, iter, ifs, 0⟩] scope pos) scope X.env pos' (newList []) false (eval iter X.env) none) Qf X.xe s := by
  have hfree : ∀ y ∈ scope.names, y.2 = .free → ∃ c, X.env.cells.lookup y.1 = some c := fun y hy e => (ok.free y hy e).elim (fun k => I.ok.has _ (.inl k)) fun k => I.ok.has _ (.inr k)
  refine comp_raise rfl hs (closure_ok hfree) ok.kind (fun y hy e => by rw [ok.uniq y hy, e]) (thn (hi.run pins s σ H _ I h) fun xv s1 hx => thn hx fun itv s2 h2 => ?_)
  obtain ⟨it, fp, tn, J, H2, rfl, I2, T, st2, f2, q⟩ := h2
  refine wpAny_newObj_type (newEnv_comp ?_) (by show 0 ≤ sizeLine; decide)
  generalize hD : s2.heap.objs.size = D
  have hDn : H2 D = none := I2.hok.fresh (Nat.le_of_eq hD)
  obtain ⟨Wt, ⟨m0, w0⟩, turn⟩ := q D hDn
  generalize hs3 : ({ s2 with heap := s2.heap.push { cls := .type "list", data := .seq ([] : List Value).toArray } } : Shared) = s3
  have h3 : s3.heap = s2.heap.push { cls := .type "list", data := .seq ([] : List Value).toArray } := by rw [← hs3]
  have I3 : L2.Inv X pins σ (upd H2 D (.lst [])) s3 := by
    rw [← hs3]
    refine I2.laid (t' := s2.toks) (fun b o e => Heap.get?_push_of_some _ e) (Nat.le_of_eq hD) ⟨Nat.zero_le _, [], 0, .nil, ?_⟩
    rw [← hD]
    exact Heap.get?_push_size _ rfl
  have sz : ∀ b ∈ fp, b < s2.heap.objs.size := fun b hb => let ⟨o, e, _⟩ := T.obj _ _ st2 b hb; Heap.lt_size e
  have f3 : ∀ b ∈ fp, FpOk X pins (upd H2 D (.lst [])) b ∧ b < s3.heap.objs.size := fun b hb => by
    refine ⟨⟨?_, (f2 b hb).2⟩, by rw [h3, Heap.size_push]; exact Nat.lt_succ_of_lt (sz b hb)⟩
    rw [upd_ne (by rw [← hD]; exact Nat.ne_of_lt (sz b hb))]
    exact (f2 b hb).1
  have st3 : tn 0 s3.heap := T.keep _ _ _ st2 fun b _ o e => by rw [h3]; exact Heap.get?_push_of_some _ e
  have I4' := block_start I3 ok hN f3
  have nfp : ∀ b ∈ fp, (upd H2 D (.lst [])) b = none := fun b hb => (f3 b hb).1.1
  show codeAny _ _ (.compStart (.ListComp elt [⟨tg, iter, ifs, 0⟩] scope pos) 0 (.ref it) (.ref D) (compEnvC scope (cellsFrom (s3.heap.objs.size + 1) scope.names (cloFrom X.env.cells scope.names [])) s3.heap.objs.size X.env)) (fun r s' => ∃ m, s'.heap.Ns s3.heap.objs.size m ∧ ∀ h', Heap.SameBut s3.heap.objs.size s'.heap h' → match r with
    | .ok _ => Qf (.ref D) { s' with heap := h' }
    | .error x => ∀ ce : PySem.Env, ce.frame = X.env.frame → wpAny (model X.prog X.w) X.A (PySem.passOn "comprehension.variables-let-go" x ce : Sem Value) (fun _ _ => False) X.xe { s' with heap := h' }) { s3 with heap := pushCells (s3.heap.push { cls := .type "dict", data := .dict #[] }) scope.names }
  generalize hR : (fun (r : Result) (s' : Shared) => ∃ m, s'.heap.Ns s3.heap.objs.size m ∧ ∀ h', Heap.SameBut s3.heap.objs.size s'.heap h' → (match r with
    | .ok _ => Qf (.ref D) { s' with heap := h' }
    | .error x => ∀ ce : PySem.Env, ce.frame = X.env.frame → wpAny (model X.prog X.w) X.A (PySem.passOn "comprehension.variables-let-go" x ce : Sem Value) (fun _ _ => False) X.xe { s' with heap := h' } : Prop)) = R
  generalize hH3 : upd H2 D (.lst []) = H3 at I3 I4' w0 nfp f3
  have pg := fun xe => hg s3 H3 s3.heap.objs.size (cellsFrom (s3.heap.objs.size + 1) scope.names (cloFrom X.env.cells scope.names [])) fp xe
  have pt := fun xe => ht s3 H3 s3.heap.objs.size (cellsFrom (s3.heap.objs.size + 1) scope.names (cloFrom X.env.cells scope.names [])) fp xe
  have pe := fun xe => he s3 H3 s3.heap.objs.size (cellsFrom (s3.heap.objs.size + 1) scope.names (cloFrom X.env.cells scope.names [])) fp xe (fun cls d _ H' => W cls d σ H')
  generalize hce : compEnvC scope (cellsFrom (s3.heap.objs.size + 1) scope.names (cloFrom X.env.cells scope.names [])) s3.heap.objs.size X.env = ce at I4' pg pt pe ⊢
  have cL : ce.locals = s3.heap.objs.size := by subst hce; rfl
  have cF : ce.frame = X.env.frame := by subst hce; rfl
  generalize hs4 : ({ s3 with heap := pushCells (s3.heap.push { cls := .type "dict", data := .dict #[] }) scope.names } : Shared) = s4 at I4' ⊢
  obtain ⟨XB, hXB⟩ : ∃ XB, XB = blkx X s3 H3 scope ce fp (notedBy (model X.prog X.w) X.A ce fun e s' => R (.error e) s') := ⟨_, rfl⟩
  have I4 : L2.Inv XB [] (wipe σ (own.map (·.2))) H3 s4 := by rw [hXB]; exact I4'.toTry _
  have pg := pg (notedBy (model X.prog X.w) X.A ce fun e s' => R (.error e) s')
  have pt := pt (notedBy (model X.prog X.w) X.A ce fun e s' => R (.error e) s')
  have pe := pe (notedBy (model X.prog X.w) X.A ce fun e s' => R (.error e) s')
  rw [← hXB] at pg pt pe
  have xB : XB.xe = notedBy (model X.prog X.w) X.A ce fun e s' => R (.error e) s' := by rw [hXB]
  have xP : XB.prog = X.prog := by rw [hXB]
  have xw : XB.w = X.w := by rw [hXB]
  have xK : XB.K = X.K := by rw [hXB]
  have xA : XB.A = X.A := by rw [hXB]
  have xS : XB.stack = X.stack := by rw [hXB]
  have xc : XB.calm = X.calm := by rw [hXB]
  have xE : XB.env = ce := by rw [hXB]
  have xos : ∀ {pn σ H s}, L2.Inv XB pn σ H s → s.os = s3.os ∧ Un (frs X.stack) fp H3 H s3.heap s.heap ∧ H s3.heap.objs.size = none ∧ (∃ m, s.heap.Ns s3.heap.objs.size m) ∧ HOk X.prog X.w H s.heap := fun {pn σ H s} J => by
    subst hXB
    refine ⟨J.os, J.base, ?_, ?_, J.hok⟩
    · have z : H ce.locals = none := J.free
      rw [cL] at z
      exact z
    · obtain ⟨m, hn, _⟩ := J.loc
      have hn : s.heap.Ns ce.locals m := hn
      rw [cL] at hn
      exact ⟨m, hn⟩
  -- back in the context of the def
  have back : ∀ {pn σ8 H8 s8}, L2.Inv XB pn σ8 H8 s8 → L2.Inv X pins σ H8 s8 := fun {pn σ8 H8 s8} J => by
    obtain ⟨j1, j2, _, _, j5⟩ := xos J
    exact I3.call' (ch := fp) j1 j2 j5 J.bare fun b hb => ⟨(f3 b hb).1.2.2.2.1, (f3 b hb).1.2.1, (f3 b hb).1.2.2.2.2.1, (f3 b hb).1.2.2.2.2.2⟩
  have st4 : tn 0 s4.heap := T.keep _ _ _ st3 fun b _ o e => by rw [← hs4]; exact pushCells_keeps _ _ _ _ (Heap.get?_push_of_some _ e)
  have hnC : s3.heap.objs.size ∉ frs X.stack := fun hm => by
    have hst' := I3.stack.mem hm
    obtain ⟨_, o, e, _⟩ := hst'
    exact absurd (Heap.lt_size e) (Nat.lt_irrefl _)
  -- what the block lets out
  have tkB : TakesL XB L (fun cls d _ H' => W cls d σ H') := fun u s' ⟨a, B, sI, pn, σ8, H8, cls, d, eu, J, nb, up, sky, na, os, ag, hw⟩ => by
    subst eu
    rw [xB]
    obtain ⟨j1, j2, j3, ⟨m, hn⟩, j5⟩ := xos J
    have bJ := back J
    rw [xS] at nb sky
    show wpAny (model X.prog X.w) X.A (noteFrame (.ref a) ce) (fun _ s'' => R (.error (.ref a)) s'') _ s'
    have hfr : X.A.frames = some (env0 :: out0) := by rw [I.ok.frames, hst]
    rw [note_congr (e2 := env0) (by rw [cF, hfX, hf0])]
    rw [hst] at sky
    refine sky_held Zc.steady hfr hf0 sky fun h1 hh up1 => ?_
    rw [← hst] at hh
    rw [← hR]
    refine ⟨m, (up.trans up1).ns hn, fun h2 sb ce2 hce2 => ?_⟩
    obtain ⟨oC, hoC⟩ : ∃ oC, B.get? s3.heap.objs.size = some oC := by
      obtain ⟨o, es, ep, ho, _⟩ := hn
      exact ⟨o, nb _ o ho hnC⟩
    refine pass_held (by rw [hce2, hfX]) (held_less hh hoC hnC sb) fun h3' hh3 up3 => ?_
    have cmp : ∀ b, b ≠ s3.heap.objs.size → ∀ o, sI.heap.get? b = some o → (∀ vs, o.data ≠ .fields vs) → ∃ sl, h3'.get? b = some { o with slots := sl } := fun b hb o e hnf => by
      obtain ⟨sl, e1⟩ := (up.trans up1) b o e hnf
      have e2 : h2.get? b = some { o with slots := sl } := (sb.2 b hb).trans e1
      obtain ⟨sl3, e3⟩ := up3 b _ e2 hnf
      exact ⟨sl3, e3⟩
    have hidC : ∀ h : Heap, (PySem.W.hideAll h [s3.heap.objs.size]).get? s3.heap.objs.size = none := fun h => PySem.W.hideAll_none [s3.heap.objs.size] (List.mem_singleton.mpr rfl)
    have hid : ∀ (h : Heap) b o, h.get? b = some o → b ≠ s3.heap.objs.size → (PySem.W.hideAll h [s3.heap.objs.size]).get? b = some o := fun h b o e hb => PySem.W.hideAll_get _ e fun z => hb (List.mem_singleton.mp z)
    have old : ∀ b o, s3.heap.get? b = some o → b ≠ s3.heap.objs.size := fun b o e z => absurd (Heap.lt_size e) (by rw [z]; exact Nat.lt_irrefl _)
    refine tk (.ref a) _ ⟨a, PySem.W.hideAll B [s3.heap.objs.size], { sI with heap := PySem.W.hideAll sI.heap [s3.heap.objs.size] }, pins, σ, H8, cls, d, rfl, ?_, fun b o e hb => ?_, fun b o e hnf => ?_, .inr (.inr hh3), na, os, ag, hw⟩
    · refine I3.call' (ch := fp) j1 ⟨fun b o e n hb hx => hid _ b o (j2.keep b o e n hb hx) (old b o e), fun b o e n hb hx => ?_, j2.free, fun b o e hx => ?_, j2.tups, j2.frzs, j2.tbls⟩ (fun b o e => ?_) J.bare fun b hb => ⟨(f3 b hb).1.2.2.2.1, (f3 b hb).1.2.1, (f3 b hb).1.2.2.2.2.1, (f3 b hb).1.2.2.2.2.2⟩
      · obtain ⟨sl, z⟩ := j2.slot b o e n hb hx
        exact ⟨sl, hid _ b _ z (old b o e)⟩
      · obtain ⟨o', z⟩ := j2.there b o e hx
        exact ⟨o', hid _ b o' z (old b o e)⟩
      · refine (j5 b o e).stay (fun c u hc r => hid _ c u r fun z => ?_) (fun _ r => r) fun _ _ r => r
        rcases hc with hc | hc
        · rw [← hc, z, j3] at e; cases e
        · rw [z, j3] at hc; cases hc
    · have hbC : b ≠ s3.heap.objs.size := fun z => by
        have e' : (PySem.W.hideAll sI.heap [s3.heap.objs.size]).get? b = some o := e
        rw [z, hidC] at e'
        cases e'
      exact hid B b o (nb b o (PySem.W.of_hideAll _ e) hb) hbC
    · have hbC : b ≠ s3.heap.objs.size := fun z => by
        have e' : (PySem.W.hideAll sI.heap [s3.heap.objs.size]).get? b = some o := e
        rw [z, hidC] at e'
        cases e'
      exact cmp b hbC o (PySem.W.of_hideAll _ e) hnf
  have pe := pe tkB
  have stat : ∀ {σ' : L2.St} {H' : Hp} {s' : Shared}, L2.Inv XB [] σ' H' s' → (∀ b ∈ fp, H' b = none) → ∀ b ∈ fp, FpOk XB [] H' b := fun {σ' H' s'} I' hn b hb => by
    subst hXB
    exact ⟨hn b hb, (I'.ok.exf b hb).1, I'.ok.exfs b hb, .inl hb, fun x c e => (I'.ok.exf b hb).2 x c e, fun p hp => absurd (show p ∈ ([] : List (Addr × Obj)) ++ [] from hp) (by simp)⟩
  have loop : codeAny (model X.prog X.w) X.A (.compLoop (.ListComp elt [⟨tg, iter, ifs, 0⟩] scope pos) 0 (.ref it) (.ref D) ce) R s4 := by
    refine compLoop_any (fun n s' => ∃ i H', L2.Inv XB [] (wipe σ (own.map (·.2))) H' s' ∧ tn i s'.heap ∧ (∀ b ∈ fp, H' b = none) ∧ Wt i n H') ?_ m0 ⟨0, H3, I4, st4, nfp, w0⟩
    rw [← xB, ← xP, ← xw, ← xA]
    rintro n s5 ⟨i, H5, I5, st5, n5, w5⟩
    rcases turn i n H5 w5 with ⟨stop, qq⟩ | ⟨go, Nx, hNx, step⟩
    · have td := T.done XB xP xw xK (xc.trans hc) i [] s5 _ H5 (fun _ _ => False) I5 (stat I5 n5) st5 stop
      rw [← xP, ← xw] at td
      refine thnF td fun r s6 ⟨hr, I6⟩ => ?_
      subst hr
      obtain ⟨_, _, j3, ⟨m, hn⟩, _⟩ := xos I6
      show R (.ok .next) s6
      rw [← hR]
      exact ⟨m, hn, hRR D s3.heap.objs.size s6 m H5 (back I6) qq hn (I3.fpOk (Nat.le_refl _) j3)⟩
    · have ti := T.item XB xP xw xK (xc.trans hc) i [] s5 _ H5 (fun _ _ => False) I5 (stat I5 n5) st5 go
      rw [← xP, ← xw] at ti
      refine thnF ti fun r s6 ⟨u, hr, h6⟩ => ?_
      subst hr
      refine thnF h6 fun _ s7 ⟨x, H7, I7, r7, y7, st7, n7⟩ => ?_
      have I7' := I7.pinned (stat I7 n7) (T.obj _ _ st7)
      rw [← xE]
      refine thn (pg.run _ s7 _ H7 x u _ I7' r7 (step x H7 y7)) fun _ s8 ⟨σ8, H8, I8, hw8, q8⟩ => ?_
      refine thn (pt.run _ s8 σ8 H8 _ I8 q8) fun b s9 ⟨H9, I9, q9⟩ => ?_
      have fin : ∀ {s' : Shared} {H' : Hp}, L2.Inv XB ([] ++ pinsAt fp s7.heap) σ8 H' s' → Nx H' → ∃ m, m < n ∧ ∃ i H', L2.Inv XB [] (wipe σ (own.map (·.2))) H' s' ∧ tn i s'.heap ∧ (∀ b ∈ fp, H' b = none) ∧ Wt i m H' := fun {s' H'} I' nx => by
        obtain ⟨m', hm, w'⟩ := hNx H' nx
        have pin' : ∀ b ∈ fp, ∀ o, s7.heap.get? b = some o → s'.heap.get? b = some o ∧ H' b = none := fun b hb o e =>
          let z := I'.pin (b, o) (List.mem_append_right _ (List.mem_append_right _ (mem_pinsAt hb e)))
          ⟨z.1, z.2.1⟩
        refine ⟨m', hm, i + 1, H', (I'.unpinned (pins := [])).weak (by rw [← hw8, wipe_length]) (fun j v e => ?_), T.keep _ _ _ st7 fun b hb o e => (pin' b hb o e).1, fun b hb => ?_, w'⟩
        · rw [← hw8] at e
          exact (wipe_some e).1
        · obtain ⟨o, e, _⟩ := T.obj _ _ st7 b hb
          exact (pin' b hb o e).2
      cases b with
      | false =>
        simp only [Bool.false_eq_true, if_false] at q9 ⊢
        exact fin I9 q9
      | true =>
        simp only [if_true] at q9 ⊢
        refine thn (pe.run _ s9 σ8 H9 _ I9 q9) fun z s10 ⟨yv, H10, I10, r10, acc, hD10, hz10, nx⟩ => ?_
        exact app_ok (X := XB) I10 hD10 hz10 r10 fun s11 I11 => fin I11 nx
  exact codeAny_compStart_list loop (T.self X.A 0 _ _ _ st4 loop)
theorem pe_lcx {L : Addr} {W : WX} {env0 : PySem.Env} {out0 : List PySem.Env} {elt tg iter : Expr} {ifs : List Expr} {scope : Scope} {own : List (Str × Nat)} {pos : Pos} {wi : TI} {g : TG} {tt : TT} {te : WX → TE} (hst : X.stack = env0 :: out0) (hf0 : env0.frame = some L) (hfX : X.env.frame = some L) (tk : TakesL X L W)
    (hc : X.calm = true) (hN : X.N.Nodup) (hi : PI X tg iter wi) (ok : BlkOk X.N X.env.scope scope own)
    (hg : ∀ (s : Shared) (H : Hp) (C : Addr) (cl : List (Str × Addr)) (fp : List Addr) (xe : Value → Shared → Prop), PG (blkx X s H scope (compEnvC scope cl C X.env) fp xe) tg g) (ht : ∀ (s : Shared) (H : Hp) (C : Addr) (cl : List (Str × Addr)) (fp : List Addr) (xe : Value → Shared → Prop), PTs (blkx X s H scope (compEnvC scope cl C X.env) fp xe) ifs tt)
    (he : ∀ (s : Shared) (H : Hp) (C : Addr) (cl : List (Str × Addr)) (fp : List Addr) (xe : Value → Shared → Prop) (Wb : WX), TakesL (blkx X s H scope (compEnvC scope cl C X.env) fp xe) L Wb → PE (blkx X s H scope (compEnvC scope cl C X.env) fp xe) elt (te Wb)) (hs : ∀ x, foldedSetIterable iter X.env x = pure x) :
    PE X (.ListComp elt [⟨tg, iter, ifs, 0⟩] scope pos) (fun σ H Q => tLc wi g tt (te fun cls d _ H' => W cls d σ H') (own.map (·.2)) σ H Q) := by
  refine ⟨fun pins s σ H Q I h => ?_⟩
  rw [eval_ListComp]
  refine lcx_core hst hf0 hfX tk hc hN I hi ok hg ht he hs h fun D C s' m H' I' q hn f h'' sb => ?_
  obtain ⟨f0, f1, f2, f3, f4, f5⟩ := f
  exact ⟨.ref D, H', I'.turned (t' := s'.toks) (fun b o hb e => (sb.2 b hb).trans e) f0 f1 f3 f4 f5, rfl, q⟩
end
def ttN : TT := fun _ H Q => Q true H
theorem ttN_ok {X : Cx} : PTs X [] ttN := ⟨fun pins s σ H Q I h => pts_nil.run pins s σ H Q I h⟩
def teX (X : Cx) (L : Addr) (G : Gd) (scope : Scope) (elt : Expr) (W : WX) : TE := fun σ H Q =>
  (∃ ρ O O' d, (∀ (s : Shared) (H0 : Hp) (C : Addr) (cl : List (Str × Addr)) (fp : List Addr) (xe : Value → Shared → Prop), DE (blkx X s H0 scope (compEnvC scope cl C X.env) fp xe) G ρ O elt O' d) ∧ tE X.prog X.w X.K G ρ O O' d σ H Q) ∨
  (∃ ρ O O1 cls, (∀ (s : Shared) (H0 : Hp) (C : Addr) (cl : List (Str × Addr)) (fp : List Addr) (xe : Value → Shared → Prop) (Wb : WX), TakesL (blkx X s H0 scope (compEnvC scope cl C X.env) fp xe) L Wb → PE (blkx X s H0 scope (compEnvC scope cl C X.env) fp xe) elt (tEX X.prog X.w X.K G ρ O O1 cls Wb)) ∧ tEX X.prog X.w X.K G ρ O O1 cls W σ H Q)
theorem teX_ok {X : Cx} {L : Addr} {G : Gd} {scope : Scope} {elt : Expr} (s : Shared) (H : Hp) (C : Addr) (cl : List (Str × Addr)) (fp : List Addr) (xe : Value → Shared → Prop) (Wb : WX) (tk : TakesL (blkx X s H scope (compEnvC scope cl C X.env) fp xe) L Wb) : PE (blkx X s H scope (compEnvC scope cl C X.env) fp xe) elt (teX X L G scope elt Wb) :=
  ⟨fun pins s' σ H' Q I h => by
    rcases h with ⟨ρ, O, O', d, h, q⟩ | ⟨ρ, O, O1, cls, h, q⟩
    · exact (h s H C cl fp xe).run pins s' σ H' Q I q
    · exact (h s H C cl fp xe Wb tk).run pins s' σ H' Q I q⟩
section
variable {X : Cx} {G : Gd} {ρ : Ro} {O O1 O2 : Ow} {e a b c : Expr} {d : D} {pos : Pos}
theorem dx_callL {L : Addr} {W : WX} {x : Str} {R : List Sl → D → Prop} {Rx : List Sl → Value → Prop} {p : Pos} {es : List Expr} {ss : List Sl} {cls : Value} (c : CalX X.prog X.w X.K X.mg X.base X.A x (spX X.prog X.w X.K R Rx)) (tk : TakesL X L W) (ha : DA X G ρ O (e :: es) O1 ss) (hR : Rx ss cls) (hg : Gl X x := by rfl) (hdb : (x == ("__debug__" : Str)) = false := by decide)
    (he : starEach (e :: es) X.env = (false, eval e X.env) :: starEach es X.env := by rfl) (hpl : (backTo pos (starEach es X.env)).any (·.1) = false := by rfl) : PE X (.Call (.Name x p) (e :: es) [] pos) (tEX X.prog X.w X.K G ρ O O1 cls W) := by
  obtain ⟨f, fd, k, ps, F, hr, hm, hk, hb⟩ := c.ex
  refine PEw (pe_callS F hr hg hm hk hb (fun σ => passAtL tk σ) ha hdb he hpl) fun σ H Q ⟨B, s, q⟩ => ⟨B, s, fun vs B1 H1 s1 e1 r => ?_⟩
  exact ⟨B1, ss, r, s1.bh, .inr ⟨cls, hR, fun B' H' rt => q B' H' (s1.call0 rt) (e1.trans rt.bb)⟩⟩
theorem dx_tuple {W : WX} {cls : Value} {p : Pos} (hm : X.mg "tuple" = none) (ha : PE X a (tEX X.prog X.w X.K G ρ O O1 cls W)) (hg : Gl X "tuple" := by rfl) (he : starEach [a] X.env = (false, eval a X.env) :: starEach [] X.env := by rfl) : PE X (.Call (.Name "tuple" p) [a] [] pos) (tEX X.prog X.w X.K G ρ O O1 cls W) :=
  PEw (pe_tupleOf hg hm ha he) fun σ H Q h => h
/-- a step raises -/
theorem dx_lc {L : Addr} {W : WX} {env0 : PySem.Env} {out0 : List PySem.Env} {α : Type} {xs : List α} {n : Nat} {an : α} (inj : α → D) (g : α → D) (j : Nat) {cls : Value} {x : Str} {elt iter : Expr} {scope : Scope} {p : Pos} (tk : TakesL X L W) (hi : DI X G ρ O (.Name x p) iter O1 (xs.map inj)) (hn : xs[n]? = some an)
    (he : ∀ (i : Nat) (a : α), i < n → xs[i]? = some a → ∀ (O : Ow) (s : Shared) (H0 : Hp) (C : Addr) (cl : List (Str × Addr)) (fp : List Addr) (xe : Value → Shared → Prop), DE (blkx X s H0 scope (compEnvC scope cl C X.env) fp xe) G (ρ.set j (some (.d (inj a)))) O elt O (g a))
    (hx : ∀ (O : Ow) (s : Shared) (H0 : Hp) (C : Addr) (cl : List (Str × Addr)) (fp : List Addr) (xe : Value → Shared → Prop) (Wb : WX), TakesL (blkx X s H0 scope (compEnvC scope cl C X.env) fp xe) L Wb → PE (blkx X s H0 scope (compEnvC scope cl C X.env) fp xe) elt (tEX X.prog X.w X.K G (ρ.set j (some (.d (inj an)))) O O cls Wb))
    (hz : xs.length ≤ 100000) (hst : X.stack = env0 :: out0) (hf0 : env0.frame = some L) (hfX : X.env.frame = some L) (hN : X.N.Nodup) (ok : BlkOk X.N X.env.scope scope [(x, j)] := by exact blkOk_by (by kernel_rfl))
    (hg : ∀ (s : Shared) (H : Hp) (C : Addr) (cl : List (Str × Addr)) (fp : List Addr) (xe : Value → Shared → Prop), PG (blkx X s H scope (compEnvC scope cl C X.env) fp xe) (.Name x p) (gName j) := by exact fun _ _ _ _ _ _ => pg_name (by assumption) rfl (by first | exact Or.inl rfl | exact Or.inr rfl)) (hc : X.calm = true := by rfl)
    (hs : ∀ y, foldedSetIterable iter X.env y = pure y := by intro _; rfl) : PE X (.ListComp elt [⟨.Name x p, iter, [], 0⟩] scope pos) (tEX X.prog X.w X.K G ρ O O1 cls W) := by
  refine PEw (pe_lcx hst hf0 hfX tk hc hN hi ok hg (fun _ _ _ _ _ _ => ttN_ok) (fun s H C cl fp xe Wb tk => teX_ok (G := G) s H C cl fp xe Wb tk) hs) fun σ H Q ⟨B, s, k⟩ => ?_
  have hnl : n < xs.length := (List.getElem?_eq_some_iff.mp hn).1
  refine ⟨B, s, fun J B1 H1 s1 e1 hw Dd hD => ?_⟩
  refine ⟨fun i m H2 => ∃ B2, SS X.prog X.w X.K G ρ ((Dd, .lst ((xs.take i).map g)) :: O1) B2 σ H2 ∧ Same B1 B2 ∧ m = xs.length - i ∧ i ≤ n, ⟨xs.length, B1, s1.owned hD ⟨[], upd_same, .nil⟩, Same.refl B1, rfl, Nat.zero_le _⟩, ?_⟩
  rintro i m H2 ⟨B2, s2, e2, rfl, hin⟩
  have hl : (xs.map inj).length = xs.length := List.length_map ..
  have hlt : i < xs.length := by omega
  have ha : xs[i]? = some xs[i] := List.getElem?_eq_getElem hlt
  refine .inr ⟨hw.go i H2 (by rw [hl]; exact hlt) (e2.trans s2.bh), fun H3 => ∃ B3, SS X.prog X.w X.K G ρ ((Dd, .lst ((xs.take (i + 1)).map g)) :: O1) B3 σ H3 ∧ Same B1 B3 ∧ i + 1 ≤ n, fun H' ⟨B3, s3, e3, h3⟩ => ⟨xs.length - (i + 1), by omega, B3, s3, e3, rfl, h3⟩, fun x H3 y => ?_⟩
  obtain ⟨B3, hxv, hnew⟩ := hw.yld i (inj xs[i]) B2 H2 x H3 (by rw [List.getElem?_map, ha]; rfl) e2 s2.bh y
  have s3 : SS X.prog X.w X.K G ρ ((Dd, .lst ((xs.take i).map g)) :: O1) B3 σ H3 ∧ Same B2 B3 := by
    rcases hnew with ⟨q1, q2⟩ | ⟨p, o, hp, q1, q2⟩
    · subst q1 q2
      exact ⟨s2, Same.refl _⟩
    · subst q1 q2
      exact ⟨s2.laid hp, same_upd (s2.fresh_b hp)⟩
  obtain ⟨s3, e3⟩ := s3
  refine (tg_name (P := X.prog) (w := X.w) (K := X.K) (G := G) (ρ := ρ) j inj).ok xs[i] σ x _ B3 H3 _ s3.env (s3.slots env_nil) hxv fun σ2 hw2 he2 => ⟨hw2, ?_⟩
  show teX X L G scope elt _ σ2 H3 _
  by_cases hi2 : i < n
  · refine .inl ⟨_, _, _, _, he i xs[i] hi2 ha _, B3, s3.slots he2, fun y B5 H5 s5 e5 hy => ?_⟩
    obtain ⟨_, acc, hacc, hdp⟩ := s5.own _ (List.mem_cons_self ..)
    have htk : xs.take (i + 1) = xs.take i ++ [xs[i]] := by rw [List.take_add_one, ha]; rfl
    refine ⟨acc, hacc, ?_, B5, ?_, (e2.trans e3).trans e5, hi2⟩
    · have l1 := dpl_length hdp
      rw [List.length_map, List.length_take] at l1
      rw [sizeLine_eq]
      omega
    · have s6 := (s5.slots (s3.env.mono e5)).wrote (o := .lst (acc ++ [y])) (c := .lst ((xs.take (i + 1)).map g)) (List.mem_cons_self ..) ⟨acc ++ [y], upd_same, by
        rw [htk, List.map_append]
        exact dpl_app hdp (.cons hy .nil)⟩
      have e7 : setO ((Dd, OC.lst ((xs.take i).map g)) :: O1) Dd (.lst ((xs.take (i + 1)).map g)) = (Dd, .lst ((xs.take (i + 1)).map g)) :: O1 := by
        have nd := s5.nd
        rw [List.map_cons, List.nodup_cons] at nd
        unfold setO
        rw [List.map_cons, if_pos rfl]
        congr 1
        have : ∀ p ∈ O1, (fun p : Addr × OC => if p.1 = Dd then (Dd, OC.lst ((xs.take (i + 1)).map g)) else p) p = p := fun p hp => if_neg fun z => nd.1 (List.mem_map.mpr ⟨p, hp, z⟩)
        rw [List.map_congr_left this, List.map_id']
      rw [e7] at s6
      exact s6
  · have e : i = n := by omega
    subst e
    rw [ha] at hn
    cases hn
    refine .inr ⟨_, _, _, cls, hx _, B3, s3.slots he2, fun B5 H5 s5 e5 => ?_⟩
    exact k B5 H5 ((s5.slots (s3.env.mono e5)).forget) (((e1.trans e2).trans e3).trans e5)
end
end Bid

namespace Bid
open PySem PySem.Spec PyProof.Rows L2
theorem shp_all {n : Nat} : ∀ {ds : List D}, (∀ d ∈ ds, d.canLay0 = true ∧ d.depth ≤ n) → PyData.canLayAll0 ds = true ∧ PyData.depthAll ds ≤ n
  | [], _ => ⟨by simp [PyData.canLayAll0], by simp [PyData.depthAll]⟩
  | d :: ds, h => by
    obtain ⟨h1, h2⟩ := h d (List.mem_cons_self ..)
    obtain ⟨h3, h4⟩ := shp_all (n := n) (ds := ds) fun x hx => h x (List.mem_cons_of_mem _ hx)
    exact ⟨by simp [PyData.canLayAll0, h1, h3], by simp only [PyData.depthAll]; omega⟩
theorem shp_tup {n : Nat} {ds : List D} (h : ∀ d ∈ ds, d.canLay0 = true ∧ d.depth ≤ n) : (PyData.tuple ds).canLay0 = true ∧ (PyData.tuple ds).depth ≤ n + 1 := by
  obtain ⟨h1, h2⟩ := shp_all h
  exact ⟨by simp [PyData.canLay0, h1], by simp only [PyData.depth]; omega⟩
theorem shp_lst {n : Nat} {ds : List D} (h : ∀ d ∈ ds, d.canLay0 = true ∧ d.depth ≤ n) : (PyData.list ds).canLay0 = true ∧ (PyData.list ds).depth ≤ n + 1 := by
  obtain ⟨h1, h2⟩ := shp_all h
  exact ⟨by simp [PyData.canLay0, h1], by simp only [PyData.depth]; omega⟩
theorem shp_int (i : Int) : (PyData.int i).canLay0 = true ∧ (PyData.int i).depth ≤ 0 := ⟨by simp [PyData.canLay0], by simp [PyData.depth]⟩
theorem shp_non : PyData.none.canLay0 = true ∧ PyData.none.depth ≤ 0 := ⟨by simp [PyData.canLay0], by simp [PyData.depth]⟩
theorem shp_ints {ns : List Int} : ∀ d ∈ ns.map PyData.int, d.canLay0 = true ∧ d.depth ≤ 0 := fun d hd => by
  obtain ⟨i, _, rfl⟩ := List.mem_map.mp hd
  exact shp_int i
theorem shaped_of {d : D} {n : Nat} (h : d.canLay0 = true ∧ d.depth ≤ n) (hn : n ≤ 64 := by decide) : SeqAt.shaped d = true := by
  unfold SeqAt.shaped
  rw [h.1, decide_eq_true (Nat.le_trans h.2 hn)]
  rfl
theorem shp_row (r : List Int) : (PyData.tuple (r.map PyData.int)).canLay0 = true ∧ (PyData.tuple (r.map PyData.int)).depth ≤ 1 := shp_tup shp_ints
theorem shp_sal (S : List (List Int)) : (PyData.tuple (S.map fun r => PyData.tuple (r.map PyData.int))).canLay0 = true ∧ (PyData.tuple (S.map fun r => PyData.tuple (r.map PyData.int))).depth ≤ 2 := shp_tup fun d hd => by
  obtain ⟨r, _, rfl⟩ := List.mem_map.mp hd
  exact shp_row r
theorem eqvAll_ints : ∀ a b : List Int, PyData.eqvAll (a.map PyData.int) (b.map PyData.int) = decide (a = b)
  | [], [] => by simp [PyData.eqvAll]
  | [], _ :: _ => by simp [PyData.eqvAll]
  | _ :: _, [] => by simp [PyData.eqvAll]
  | x :: a, y :: b => by
    rw [List.map_cons, List.map_cons, PyData.eqvAll, eqvAll_ints a b, PyData.eqv]
    by_cases h : x = y <;> by_cases g : a = b <;> simp [h, g]
theorem eqv_row (a b : List Int) : PyData.eqv (.tuple (a.map .int)) (.tuple (b.map .int)) = decide (a = b) := by rw [PyData.eqv]; exact eqvAll_ints a b
theorem eqv_lsI (a b : List Int) : PyData.eqv (.list (a.map .int)) (.list (b.map .int)) = decide (a = b) := by rw [PyData.eqv]; exact eqvAll_ints a b
theorem eqvAll_sal : ∀ a b : List (List Int), PyData.eqvAll (a.map fun r => PyData.tuple (r.map PyData.int)) (b.map fun r => PyData.tuple (r.map PyData.int)) = decide (a = b)
  | [], [] => by simp [PyData.eqvAll]
  | [], _ :: _ => by simp [PyData.eqvAll]
  | _ :: _, [] => by simp [PyData.eqvAll]
  | x :: a, y :: b => by
    rw [List.map_cons, List.map_cons, PyData.eqvAll, eqvAll_sal a b, eqv_row]
    by_cases h : x = y <;> by_cases g : a = b <;> simp [h, g]
theorem eqv_sal (a b : List (List Int)) : PyData.eqv (.tuple (a.map fun r => PyData.tuple (r.map PyData.int))) (.tuple (b.map fun r => PyData.tuple (r.map PyData.int))) = decide (a = b) := by rw [PyData.eqv]; exact eqvAll_sal a b
/-- a datum that may be compared -/
def Shp (n : Nat) (d : D) : Prop := d.canLay0 = true ∧ d.depth ≤ n
theorem shp_mems {n : Nat} : ∀ {ds : List D}, PyData.canLayAll0 ds = true → PyData.depthAll ds ≤ n → ∀ d ∈ ds, Shp n d
  | [], _, _, _, h => nomatch h
  | x :: ds, h1, h2, d, h => by
    simp only [PyData.canLayAll0, Bool.and_eq_true] at h1
    simp only [PyData.depthAll] at h2
    rcases List.mem_cons.mp h with e | h
    · subst e; exact ⟨h1.1, by omega⟩
    · exact shp_mems h1.2 (by omega) d h
theorem Shp.tup {n : Nat} {ds : List D} (h : Shp (n + 1) (.tuple ds)) : ∀ d ∈ ds, Shp n d := by
  obtain ⟨h1, h2⟩ := h
  simp only [PyData.canLay0] at h1
  simp only [PyData.depth] at h2
  exact shp_mems h1 (by omega)
theorem Shp.lst {n : Nat} {ds : List D} (h : Shp (n + 1) (.list ds)) : ∀ d ∈ ds, Shp n d := by
  obtain ⟨h1, h2⟩ := h
  simp only [PyData.canLay0] at h1
  simp only [PyData.depth] at h2
  exact shp_mems h1 (by omega)
end Bid

namespace Bid
abbrev Bst := Int × List (Option Int)
abbrev Mem := List ((Int × List Int) × Bst)
def at2 (S : List (List Int)) (g : Nat) (t : Int) : Int := (S.getD g []).getD t.toNat 0
def lessT (free : List Int) (t : Int) : List Int := free.filter fun o => !decide (o = t)
def valM (kvs : Mem) (k : Int × List Int) : Option Bst := (kvs.find? fun kv => decide (kv.1 = k)).map (·.2)
def putM (kvs : Mem) (k : Int × List Int) (v : Bst) : Mem := if (valM kvs k).isSome = true then kvs.map (fun kv => if kv.1 = k then (kv.1, v) else kv) else kvs ++ [(k, v)]
def pick (a : Int) (t : Int) (b found : Bst) : Bst := if found.1 < b.1 + a then (b.1 + a, some t :: b.2) else found
/-- the search from guest g on, n guests left, as the program does it -/
def bestS (S : List (List Int)) : Nat → Nat → List Int → Mem → Bst × Mem
  | 0, _, _, kvs => ((0, []), kvs)
  | n + 1, g, free, kvs =>
    match valM kvs ((g : Int), free) with
    | some x => (x, kvs)
    | none =>
      let b0 := bestS S n (g + 1) free kvs
      let r := free.foldl (fun (s : Bst × Mem) t =>
        let b := bestS S n (g + 1) (lessT free t) s.2
        (pick (at2 S g t) t b.1 s.1, b.2)) ((b0.1.1, none :: b0.1.2), b0.2)
      (r.1, putM r.2 ((g : Int), free) r.1)
/-- .. without memory -/
def bestF : List (List Int) → List Int → Bst
  | [], _ => (0, [])
  | r :: rs, free => free.foldl (fun found t => pick (r.getD t.toNat 0) t (bestF rs (lessT free t)) found) ((bestF rs free).1, none :: (bestF rs free).2)
theorem bestF_cons (r : List Int) (rs : List (List Int)) (free : List Int) : bestF (r :: rs) free = free.foldl (fun found t => pick (r.getD t.toNat 0) t (bestF rs (lessT free t)) found) ((bestF rs free).1, none :: (bestF rs free).2) := by rw [bestF]
def MemOk (S : List (List Int)) (kvs : Mem) : Prop := ∀ p ∈ kvs, ∃ g : Nat, p.1.1 = (g : Int) ∧ p.2 = bestF (S.drop g) p.1.2
theorem valM_mem {kvs : Mem} {k : Int × List Int} {v : Bst} (h : valM kvs k = some v) : (k, v) ∈ kvs := by
  unfold valM at h
  obtain ⟨p, hp, e⟩ := Option.map_eq_some_iff.mp h
  have h1 := List.mem_of_find?_eq_some hp
  have h3 : p.1 = k := of_decide_eq_true (List.find?_some (p := fun kv : (Int × List Int) × Bst => decide (kv.1 = k)) hp)
  rw [← e, ← h3]
  exact h1
theorem putM_mem {kvs : Mem} {k : Int × List Int} {v : Bst} {p : (Int × List Int) × Bst} (h : p ∈ putM kvs k v) : p ∈ kvs ∨ p = (k, v) := by
  unfold putM at h
  split at h
  · obtain ⟨q, hq, e⟩ := List.mem_map.mp h
    by_cases hk : q.1 = k
    · rw [if_pos hk] at e
      exact .inr (by rw [← e, hk])
    · rw [if_neg hk] at e
      exact .inl (e ▸ hq)
  · rcases List.mem_append.mp h with q | q
    · exact .inl q
    · exact .inr (List.mem_singleton.mp q)
theorem putM_len (kvs : Mem) (k : Int × List Int) (v : Bst) : (putM kvs k v).length ≤ kvs.length + 1 := by
  unfold putM
  split
  · rw [List.length_map]; omega
  · rw [List.length_append, List.length_cons, List.length_nil]; omega
theorem drop_cons (S : List (List Int)) {g : Nat} (h : g < S.length) : S.drop g = S.getD g [] :: S.drop (g + 1) := by
  rw [List.drop_eq_getElem_cons h, List.getD_eq_getElem?_getD, List.getElem?_eq_getElem h]
  rfl
/-- the memory's answers are the plain ones -/
theorem bestS_ok (S : List (List Int)) : ∀ (n g : Nat) (free : List Int) (kvs : Mem), S.length = g + n → MemOk S kvs → (bestS S n g free kvs).1 = bestF (S.drop g) free ∧ MemOk S (bestS S n g free kvs).2
  | 0, g, free, kvs, h, m => by
    rw [List.drop_of_length_le (by omega)]
    exact ⟨rfl, m⟩
  | n + 1, g, free, kvs, h, m => by
    unfold bestS
    split
    · rename_i x hx
      obtain ⟨g', h1, h2⟩ := m _ (valM_mem hx)
      have e : g = g' := by exact Int.ofNat.inj h1
      subst e
      exact ⟨h2, m⟩
    · have hS : S.drop g = S.getD g [] :: S.drop (g + 1) := drop_cons S (by omega)
      obtain ⟨b1, b2⟩ := bestS_ok S n (g + 1) free kvs (by omega) m
      have loop : ∀ (l : List Int) (f0 : Bst) (k0 : Mem), MemOk S k0 →
          (l.foldl (fun (s : Bst × Mem) t => (pick (at2 S g t) t (bestS S n (g + 1) (lessT free t) s.2).1 s.1, (bestS S n (g + 1) (lessT free t) s.2).2)) (f0, k0)).1
            = l.foldl (fun found t => pick ((S.getD g []).getD t.toNat 0) t (bestF (S.drop (g + 1)) (lessT free t)) found) f0 ∧
          MemOk S (l.foldl (fun (s : Bst × Mem) t => (pick (at2 S g t) t (bestS S n (g + 1) (lessT free t) s.2).1 s.1, (bestS S n (g + 1) (lessT free t) s.2).2)) (f0, k0)).2 := by
        intro l
        induction l with
        | nil => intro f0 k0 hk; exact ⟨rfl, hk⟩
        | cons t l ih =>
          intro f0 k0 hk
          obtain ⟨c1, c2⟩ := bestS_ok S n (g + 1) (lessT free t) k0 (by omega) hk
          rw [List.foldl_cons, List.foldl_cons]
          have := ih (pick (at2 S g t) t (bestS S n (g + 1) (lessT free t) k0).1 f0) (bestS S n (g + 1) (lessT free t) k0).2 c2
          rw [c1] at this
          dsimp only
          rw [c1]
          exact this
      obtain ⟨l1, l2⟩ := loop free ((bestS S n (g + 1) free kvs).1.1, none :: (bestS S n (g + 1) free kvs).1.2) (bestS S n (g + 1) free kvs).2 b2
      dsimp only
      rw [hS, bestF_cons]
      rw [b1] at l1 l2 ⊢
      refine ⟨l1, fun p hp => ?_⟩
      rcases putM_mem hp with q | q
      · exact l2 p q
      · subst q
        refine ⟨g, rfl, ?_⟩
        show _ = bestF (S.drop g) free
        rw [hS, bestF_cons]
        exact l1
theorem fold_inv {α β : Type} (Q : β → Prop) {f : β → α → β} : ∀ (l : List α) (b : β), Q b → (∀ b a, a ∈ l → Q b → Q (f b a)) → Q (l.foldl f b)
  | [], b, h, _ => h
  | a :: l, b, h, g => fold_inv Q l (f b a) (g b a (List.mem_cons_self ..) h) fun b c hc q => g b c (List.mem_cons_of_mem _ hc) q
theorem bestF_len : ∀ (rs : List (List Int)) (free : List Int), (bestF rs free).2.length = rs.length
  | [], _ => rfl
  | r :: rs, free => by
    rw [bestF_cons]
    refine fold_inv (fun b : Bst => b.2.length = (r :: rs).length) free _ ?_ fun b t _ h => ?_
    · show ((bestF rs free).2).length + 1 = rs.length + 1
      rw [bestF_len rs free]
    · unfold pick
      split
      · show ((bestF rs (lessT free t)).2).length + 1 = rs.length + 1
        rw [bestF_len rs _]
      · exact h
theorem one_le_pow (a n : Nat) : 1 ≤ (a + 2) ^ n := Nat.pos_of_ne_zero (by
  intro h
  have := Nat.pow_eq_zero.mp h
  omega)
theorem lessT_len (free : List Int) (t : Int) : (lessT free t).length ≤ free.length := List.length_filter_le ..
/-- how much is remembered -/
theorem bestS_len (S : List (List Int)) : ∀ (n g : Nat) (free : List Int) (kvs : Mem), (bestS S n g free kvs).2.length ≤ kvs.length + (free.length + 2) ^ n
  | 0, g, free, kvs => Nat.le_add_right _ _
  | n + 1, g, free, kvs => by
    unfold bestS
    split
    · exact Nat.le_add_right _ _
    · have loop : ∀ (l : List Int) (f0 : Bst) (k0 : Mem),
          (l.foldl (fun (s : Bst × Mem) t => (pick (at2 S g t) t (bestS S n (g + 1) (lessT free t) s.2).1 s.1, (bestS S n (g + 1) (lessT free t) s.2).2)) (f0, k0)).2.length ≤ k0.length + l.length * (free.length + 2) ^ n := by
        intro l
        induction l with
        | nil => intro f0 k0; rw [List.foldl_nil]; exact Nat.le_add_right _ _
        | cons t l ih =>
          intro f0 k0
          rw [List.foldl_cons]
          have h1 := ih (pick (at2 S g t) t (bestS S n (g + 1) (lessT free t) k0).1 f0) (bestS S n (g + 1) (lessT free t) k0).2
          have h2 := bestS_len S n (g + 1) (lessT free t) k0
          have h3 : ((lessT free t).length + 2) ^ n ≤ (free.length + 2) ^ n := Nat.pow_le_pow_left (by have := lessT_len free t; omega) n
          rw [List.length_cons, Nat.succ_mul]
          dsimp only at h1 ⊢
          omega
      have h1 := bestS_len S n (g + 1) free kvs
      have h2 := loop free ((bestS S n (g + 1) free kvs).1.1, none :: (bestS S n (g + 1) free kvs).1.2) (bestS S n (g + 1) free kvs).2
      dsimp only at h2 ⊢
      refine Nat.le_trans (putM_len _ _ _) ?_
      have h4 := one_le_pow free.length n
      rw [Nat.pow_succ, Nat.mul_comm, show free.length + 2 = free.length + 1 + 1 from rfl, Nat.succ_mul, Nat.succ_mul]
      rw [show free.length + 1 + 1 = free.length + 2 from rfl]
      omega
end Bid

namespace Bid
abbrev rv (r : List Int) (t : Int) : Int := r.getD t.toNat 0
def V (rs : List (List Int)) (fr : List Int) : Int := (bestF rs fr).1
theorem V_nil (fr : List Int) : V [] fr = 0 := rfl
theorem pick_ge1 (a t : Int) (b f : Bst) : f.1 ≤ (pick a t b f).1 := by unfold pick; split <;> simp_all <;> omega
theorem pick_ge2 (a t : Int) (b f : Bst) : b.1 + a ≤ (pick a t b f).1 := by unfold pick; split <;> simp_all
theorem fold_ge1 (r : List Int) (rs : List (List Int)) (g : Int → Bst) : ∀ (l : List Int) (b : Bst), b.1 ≤ (l.foldl (fun found t => pick (rv r t) t (g t) found) b).1
  | [], b => Int.le_refl _
  | t :: l, b => Int.le_trans (pick_ge1 _ _ _ _) (fold_ge1 r rs g l _)
theorem fold_ge2 (r : List Int) (rs : List (List Int)) (g : Int → Bst) : ∀ (l : List Int) (b : Bst) (t : Int), t ∈ l → (g t).1 + rv r t ≤ (l.foldl (fun found t => pick (rv r t) t (g t) found) b).1
  | s :: l, b, t, h => by
    rcases List.mem_cons.mp h with e | h
    · subst e
      exact Int.le_trans (pick_ge2 _ _ _ _) (fold_ge1 r rs g l _)
    · exact fold_ge2 r rs g l _ t h
theorem fold_cases (r : List Int) (rs : List (List Int)) (g : Int → Bst) : ∀ (l : List Int) (b : Bst), (l.foldl (fun found t => pick (rv r t) t (g t) found) b) = b ∨ ∃ t ∈ l, (l.foldl (fun found t => pick (rv r t) t (g t) found) b) = ((g t).1 + rv r t, some t :: (g t).2)
  | [], b => .inl rfl
  | s :: l, b => by
    rw [List.foldl_cons]
    rcases fold_cases r rs g l (pick (rv r s) s (g s) b) with e | ⟨t, ht, e⟩
    · rw [e]
      unfold pick
      split
      · exact .inr ⟨s, List.mem_cons_self .., rfl⟩
      · exact .inl rfl
    · exact .inr ⟨t, List.mem_cons_of_mem _ ht, e⟩
theorem V_le (r : List Int) (rs : List (List Int)) (fr : List Int) : V rs fr ≤ V (r :: rs) fr := by
  unfold V
  rw [bestF_cons]
  exact fold_ge1 r rs (fun t => bestF rs (lessT fr t)) fr _
theorem V_ge {r : List Int} {rs : List (List Int)} {fr : List Int} {t : Int} (h : t ∈ fr) : rv r t + V rs (lessT fr t) ≤ V (r :: rs) fr := by
  have := fold_ge2 r rs (fun t => bestF rs (lessT fr t)) fr ((bestF rs fr).1, none :: (bestF rs fr).2) t h
  unfold V
  rw [bestF_cons, Int.add_comm]
  exact this
theorem bestF_cases (r : List Int) (rs : List (List Int)) (fr : List Int) : bestF (r :: rs) fr = ((bestF rs fr).1, none :: (bestF rs fr).2) ∨ ∃ t ∈ fr, bestF (r :: rs) fr = ((bestF rs (lessT fr t)).1 + rv r t, some t :: (bestF rs (lessT fr t)).2) := by
  rw [bestF_cons]
  exact fold_cases r rs (fun t => bestF rs (lessT fr t)) fr _
theorem V_cases (r : List Int) (rs : List (List Int)) (fr : List Int) : V (r :: rs) fr = V rs fr ∨ ∃ t ∈ fr, V (r :: rs) fr = rv r t + V rs (lessT fr t) := by
  unfold V
  rcases bestF_cases r rs fr with e | ⟨t, ht, e⟩
  · exact .inl (by rw [e])
  · exact .inr ⟨t, ht, by rw [e, Int.add_comm]⟩
def uu (r : List Int) (x : Int → Int) : List Int → Int
  | [] => 0
  | t :: fr => max (rv r t - x t) (uu r x fr)
theorem uu_nn (r : List Int) (x : Int → Int) : ∀ fr, 0 ≤ uu r x fr
  | [] => Int.le_refl _
  | t :: fr => by have := uu_nn r x fr; unfold uu; omega
theorem uu_ge {r : List Int} {x : Int → Int} : ∀ {fr : List Int} {t : Int}, t ∈ fr → rv r t - x t ≤ uu r x fr
  | s :: fr, t, h => by
    unfold uu
    rcases List.mem_cons.mp h with e | h
    · subst e; omega
    · have := uu_ge (r := r) (x := x) h; omega
theorem uu_cases (r : List Int) (x : Int → Int) : ∀ fr, uu r x fr = 0 ∨ ∃ t ∈ fr, uu r x fr = rv r t - x t
  | [] => .inl rfl
  | t :: fr => by
    unfold uu
    rcases Int.le_total (rv r t - x t) (uu r x fr) with h | h
    · rw [Int.max_eq_right h]
      rcases uu_cases r x fr with e | ⟨s, hs, e⟩
      · exact .inl e
      · exact .inr ⟨s, List.mem_cons_of_mem _ hs, e⟩
    · rw [Int.max_eq_left h]
      exact .inr ⟨t, List.mem_cons_self .., rfl⟩
theorem uu_le {r : List Int} {x : Int → Int} {fr : List Int} {b : Int} (h0 : 0 ≤ b) (h : ∀ t ∈ fr, rv r t - x t ≤ b) : uu r x fr ≤ b := by
  rcases uu_cases r x fr with e | ⟨t, ht, e⟩
  · omega
  · rw [e]; exact h t ht
theorem uu_mono {r : List Int} {x y : Int → Int} {fr fr' : List Int} (h : ∀ t ∈ fr, t ∈ fr' ∧ y t ≤ x t) : uu r x fr ≤ uu r y fr' :=
  uu_le (uu_nn _ _ _) fun t ht => by have := uu_ge (r := r) (x := y) (h t ht).1; have := (h t ht).2; omega
theorem uu_congr {r r' : List Int} {x y : Int → Int} {fr : List Int} (h : ∀ t ∈ fr, rv r t = rv r' t ∧ x t = y t) : uu r x fr = uu r' y fr := by
  refine Int.le_antisymm (uu_le (uu_nn _ _ _) fun t ht => ?_) (uu_le (uu_nn _ _ _) fun t ht => ?_)
  · rw [(h t ht).1, (h t ht).2]; exact uu_ge ht
  · rw [← (h t ht).1, ← (h t ht).2]; exact uu_ge ht
def sx (x : Int → Int) (fr : List Int) : Int := (fr.map x).sum
theorem sx_nil (x : Int → Int) : sx x [] = 0 := rfl
theorem sx_cons (x : Int → Int) (t : Int) (fr : List Int) : sx x (t :: fr) = x t + sx x fr := by unfold sx; rw [List.map_cons, List.sum_cons]
theorem sx_app (x : Int → Int) (a b : List Int) : sx x (a ++ b) = sx x a + sx x b := by unfold sx; rw [List.map_append, List.sum_append]
theorem sx_congr {x y : Int → Int} {fr : List Int} (h : ∀ t ∈ fr, x t = y t) : sx x fr = sx y fr := by unfold sx; rw [List.map_congr_left h]
theorem sx_nn {x : Int → Int} : ∀ {fr : List Int}, (∀ t ∈ fr, 0 ≤ x t) → 0 ≤ sx x fr
  | [], _ => Int.le_refl _
  | t :: fr, h => by have := sx_nn fun s hs => h s (List.mem_cons_of_mem _ hs); have := h t (List.mem_cons_self ..); rw [sx_cons]; omega
theorem sx_le {x y : Int → Int} : ∀ {fr : List Int}, (∀ t ∈ fr, x t ≤ y t) → sx x fr ≤ sx y fr
  | [], _ => Int.le_refl _
  | t :: fr, h => by have := sx_le fun s hs => h s (List.mem_cons_of_mem _ hs); have := h t (List.mem_cons_self ..); rw [sx_cons, sx_cons]; omega
theorem sx_less_le {x : Int → Int} {t : Int} : ∀ {fr : List Int}, (∀ s ∈ fr, 0 ≤ x s) → sx x (lessT fr t) ≤ sx x fr
  | [], _ => Int.le_refl _
  | s :: fr, h => by
    have ih := sx_less_le (t := t) fun a ha => h a (List.mem_cons_of_mem _ ha)
    have h0 := h s (List.mem_cons_self ..)
    unfold lessT at ih ⊢
    rw [sx_cons]
    by_cases e : s = t
    · rw [List.filter_cons_of_neg (by simp [e])]; omega
    · rw [List.filter_cons_of_pos (by simp [e]), sx_cons]; omega
theorem sx_less {x : Int → Int} {t : Int} : ∀ {fr : List Int}, (∀ s ∈ fr, 0 ≤ x s) → t ∈ fr → sx x (lessT fr t) + x t ≤ sx x fr
  | s :: fr, h, ht => by
    have ih := sx_less_le (t := t) fun a ha => h a (List.mem_cons_of_mem _ ha)
    have h0 := h s (List.mem_cons_self ..)
    by_cases e : s = t
    · subst e
      unfold lessT at ih ⊢
      rw [sx_cons, List.filter_cons_of_neg (by simp)]; omega
    · have h1 : t ∈ fr := by rcases List.mem_cons.mp ht with q | q; exact absurd q.symm e; exact q
      have ih2 := sx_less (fun a ha => h a (List.mem_cons_of_mem _ ha)) h1
      unfold lessT at ih2 ⊢
      rw [sx_cons, List.filter_cons_of_pos (by simp [e]), sx_cons]; omega
theorem lessT_self {t : Int} : ∀ {fr : List Int}, t ∉ fr → lessT fr t = fr := fun {fr} h => by
  unfold lessT
  rw [List.filter_eq_self]
  intro a ha
  by_cases e : a = t
  · exact absurd (e ▸ ha) h
  · simp [e]
theorem sx_less_eq {x : Int → Int} {t : Int} : ∀ {fr : List Int}, fr.Nodup → t ∈ fr → sx x (lessT fr t) + x t = sx x fr
  | s :: fr, nd, ht => by
    rw [List.nodup_cons] at nd
    by_cases e : s = t
    · subst e
      have := lessT_self nd.1
      unfold lessT at this ⊢
      rw [List.filter_cons_of_neg (by simp), this, sx_cons, Int.add_comm]
    · have h1 : t ∈ fr := by rcases List.mem_cons.mp ht with q | q; exact absurd q.symm e; exact q
      have ih2 := sx_less_eq (x := x) nd.2 h1
      unfold lessT at ih2 ⊢
      rw [sx_cons, List.filter_cons_of_pos (by simp [e]), sx_cons]; omega
theorem mem_less {fr : List Int} {t s : Int} : s ∈ lessT fr t ↔ s ∈ fr ∧ s ≠ t := by unfold lessT; rw [List.mem_filter]; simp
theorem nodup_less {fr : List Int} {t : Int} (h : fr.Nodup) : (lessT fr t).Nodup := by unfold lessT; exact h.filter _
def su (rs : List (List Int)) (x : Int → Int) (fr : List Int) : Int := (rs.map fun r => uu r x fr).sum
theorem su_cons (r : List Int) (rs : List (List Int)) (x : Int → Int) (fr : List Int) : su (r :: rs) x fr = uu r x fr + su rs x fr := by unfold su; rw [List.map_cons, List.sum_cons]
theorem su_nn (x : Int → Int) (fr : List Int) : ∀ rs, 0 ≤ su rs x fr
  | [] => Int.le_refl _
  | r :: rs => by have := su_nn x fr rs; have := uu_nn r x fr; rw [su_cons]; omega
theorem su_mono {x y : Int → Int} {fr fr' : List Int} (h : ∀ t ∈ fr, t ∈ fr' ∧ y t ≤ x t) : ∀ rs, su rs x fr ≤ su rs y fr'
  | [] => Int.le_refl _
  | r :: rs => by have := su_mono h rs; have := uu_mono (r := r) h; rw [su_cons, su_cons]; omega
theorem su_congr {x y : Int → Int} {fr : List Int} (h : ∀ t ∈ fr, x t = y t) : ∀ rs, su rs x fr = su rs y fr
  | [] => rfl
  | r :: rs => by rw [su_cons, su_cons, su_congr h rs, uu_congr fun t ht => ⟨rfl, h t ht⟩]
def DD (rs : List (List Int)) (x : Int → Int) (fr : List Int) : Int := su rs x fr + sx x fr
theorem DD_congr {rs : List (List Int)} {x y : Int → Int} {fr : List Int} (h : ∀ t ∈ fr, x t = y t) : DD rs x fr = DD rs y fr := by unfold DD; rw [su_congr h, sx_congr h]
abbrev Nn (x : Int → Int) (fr : List Int) : Prop := ∀ t ∈ fr, 0 ≤ x t
/-- weak duality -/
theorem weak : ∀ (rs : List (List Int)) (fr : List Int) (x : Int → Int), Nn x fr → V rs fr ≤ DD rs x fr
  | [], fr, x, h => by have := sx_nn h; rw [V_nil]; unfold DD; show 0 ≤ 0 + _; omega
  | r :: rs, fr, x, h => by
    unfold DD
    rw [su_cons]
    have h0 := uu_nn r x fr
    rcases V_cases r rs fr with e | ⟨t, ht, e⟩
    · have := weak rs fr x h
      unfold DD at this
      omega
    · have h1 := weak rs (lessT fr t) x fun s hs => h s (mem_less.mp hs).1
      have h2 := sx_less h ht
      have h3 := uu_ge (r := r) (x := x) ht
      have h4 : su rs x (lessT fr t) ≤ su rs x fr := su_mono (fun s hs => ⟨(mem_less.mp hs).1, Int.le_refl _⟩) rs
      unfold DD at h1
      omega
structure Opt (rs : List (List Int)) (fr : List Int) (x : Int → Int) : Prop where
  nn : Nn x fr
  le : DD rs x fr ≤ V rs fr
theorem Opt.eq {rs : List (List Int)} {fr : List Int} {x : Int → Int} (h : Opt rs fr x) : DD rs x fr = V rs fr := Int.le_antisymm h.le (weak rs fr x h.nn)
theorem Opt.congr {rs : List (List Int)} {fr : List Int} {x y : Int → Int} (h : Opt rs fr x) (e : ∀ t ∈ fr, x t = y t) : Opt rs fr y := ⟨fun t ht => by rw [← e t ht]; exact h.nn t ht, by rw [← DD_congr e]; exact h.le⟩
def lo (c : Int) (z y : Int → Int) : Int → Int := fun t => min (z t + c) (y t)
def hi (c : Int) (z y : Int → Int) : Int → Int := fun t => max (z t) (y t - c)
theorem uu_nat {r : List Int} {z y : Int → Int} {fr : List Int} {c : Int} (hc : 0 ≤ c) : uu r (lo c z y) fr + uu r (hi c z y) fr ≤ uu r z fr + uu r y fr := by
  have a0 := uu_nn r z fr
  have b0 := uu_nn r y fr
  have h1 : uu r (hi c z y) fr ≤ uu r z fr := uu_mono fun t ht => ⟨ht, by unfold hi; omega⟩
  have h2 : uu r (hi c z y) fr ≤ uu r y fr + c := uu_le (by omega) fun t ht => by have := uu_ge (r := r) (x := y) ht; unfold hi; omega
  rcases uu_cases r (lo c z y) fr with e | ⟨t, ht, e⟩
  · omega
  · have h3 := uu_ge (r := r) (x := y) ht
    have h4 := uu_ge (r := r) (x := z) ht
    have e : uu r (lo c z y) fr = rv r t - min (z t + c) (y t) := e
    rcases Int.le_total (z t + c) (y t) with q | q
    · rw [Int.min_eq_left q] at e
      omega
    · rw [Int.min_eq_right q] at e
      omega
theorem su_nat {z y : Int → Int} {fr : List Int} {c : Int} (hc : 0 ≤ c) : ∀ rs, su rs (lo c z y) fr + su rs (hi c z y) fr ≤ su rs z fr + su rs y fr
  | [] => Int.le_refl _
  | r :: rs => by have := su_nat (z := z) (y := y) (fr := fr) hc rs; have := uu_nat (r := r) (z := z) (y := y) (fr := fr) hc; rw [su_cons, su_cons, su_cons, su_cons]; omega
theorem sx_nat {z y : Int → Int} {c : Int} : ∀ fr, sx (lo c z y) fr + sx (hi c z y) fr = sx z fr + sx y fr
  | [] => rfl
  | t :: fr => by have := sx_nat (z := z) (y := y) (c := c) fr; rw [sx_cons, sx_cons, sx_cons, sx_cons]; unfold lo hi at *; omega
theorem DD_nat {rs : List (List Int)} {z y : Int → Int} {fr : List Int} {c : Int} (hc : 0 ≤ c) : DD rs (lo c z y) fr + DD rs (hi c z y) fr ≤ DD rs z fr + DD rs y fr := by
  have := su_nat (z := z) (y := y) (fr := fr) hc rs
  have := sx_nat (z := z) (y := y) (c := c) fr
  unfold DD
  omega
theorem lo_nn {z y : Int → Int} {fr : List Int} {c : Int} (hc : 0 ≤ c) (hz : Nn z fr) (hy : Nn y fr) : Nn (lo c z y) fr := fun t ht => by have := hz t ht; have := hy t ht; unfold lo; omega
theorem hi_nn {z y : Int → Int} {fr : List Int} {c : Int} (hz : Nn z fr) : Nn (hi c z y) fr := fun t ht => by have := hz t ht; unfold hi; omega
theorem Opt.join {rs : List (List Int)} {fr : List Int} {z y : Int → Int} (hz : Opt rs fr z) (hy : Opt rs fr y) : Opt rs fr (hi 0 z y) := by
  refine ⟨hi_nn hz.nn, ?_⟩
  have h1 := DD_nat (rs := rs) (z := z) (y := y) (fr := fr) (c := 0) (Int.le_refl _)
  have h2 := weak rs fr _ (lo_nn (c := 0) (Int.le_refl _) hz.nn hy.nn)
  have := hz.le
  have := hy.le
  omega
theorem Opt.meet {rs : List (List Int)} {fr : List Int} {z y : Int → Int} (hz : Opt rs fr z) (hy : Opt rs fr y) : Opt rs fr (lo 0 z y) := by
  refine ⟨lo_nn (Int.le_refl _) hz.nn hy.nn, ?_⟩
  have h1 := DD_nat (rs := rs) (z := z) (y := y) (fr := fr) (c := 0) (Int.le_refl _)
  have h2 := weak rs fr _ (hi_nn (c := 0) (y := y) hz.nn)
  have := hz.le
  have := hy.le
  omega
/-- above the greatest price of j all grows at least as fast -/
theorem grow_up {rs : List (List Int)} {fr : List Int} {j : Int} {y : Int → Int} (hj : j ∈ fr) (hy : Opt rs fr y) (hm : ∀ x, Opt rs fr x → x j ≤ y j) : ∀ (N : Nat) (z : Int → Int), Nn z fr → z j = y j + N → V rs fr + N ≤ DD rs z fr
  | 0, z, hz, _ => by have := weak rs fr z hz; omega
  | N + 1, z, hz, e => by
    have h1 := DD_nat (rs := rs) (z := y) (y := z) (fr := fr) (c := 1) (by decide)
    have h2 : V rs fr + N ≤ DD rs (hi 1 y z) fr := grow_up hj hy hm N _ (hi_nn hy.nn) (by unfold hi; omega)
    have h3 : V rs fr + 1 ≤ DD rs (lo 1 y z) fr := by
      have hn := lo_nn (c := 1) (by decide) hy.nn hz
      have h4 := weak rs fr _ hn
      by_cases q : DD rs (lo 1 y z) fr ≤ V rs fr
      · have := hm _ ⟨hn, q⟩
        unfold lo at this
        omega
      · omega
    have := hy.le
    omega
theorem grow_dn {rs : List (List Int)} {fr : List Int} {j : Int} {y : Int → Int} (hj : j ∈ fr) (hy : Opt rs fr y) (hm : ∀ x, Opt rs fr x → y j ≤ x j) : ∀ (N : Nat) (z : Int → Int), Nn z fr → z j = y j - N → V rs fr + N ≤ DD rs z fr
  | 0, z, hz, _ => by have := weak rs fr z hz; omega
  | N + 1, z, hz, e => by
    have h1 := DD_nat (rs := rs) (z := z) (y := y) (fr := fr) (c := 1) (by decide)
    have h2 : V rs fr + N ≤ DD rs (lo 1 z y) fr := grow_dn hj hy hm N _ (lo_nn (by decide) hz hy.nn) (by unfold lo; omega)
    have h3 : V rs fr + 1 ≤ DD rs (hi 1 z y) fr := by
      have hn := hi_nn (c := 1) (y := y) hz
      have h4 := weak rs fr _ hn
      by_cases q : DD rs (hi 1 z y) fr ≤ V rs fr
      · have := hm _ ⟨hn, q⟩
        unfold hi at this
        omega
      · omega
    have := hy.le
    omega
theorem max_at {rs : List (List Int)} {fr : List Int} {j b : Int} (hb : ∀ x, Opt rs fr x → x j ≤ b) : ∀ (n : Nat) (y : Int → Int), Opt rs fr y → b - y j ≤ n → ∃ y, Opt rs fr y ∧ ∀ x, Opt rs fr x → x j ≤ y j
  | 0, y, hy, e => ⟨y, hy, fun x hx => by have := hb x hx; omega⟩
  | n + 1, y, hy, e => by
    by_cases q : ∃ x, Opt rs fr x ∧ y j < x j
    · obtain ⟨x, hx, h⟩ := q
      exact max_at hb n x hx (by omega)
    · exact ⟨y, hy, fun x hx => by
        rcases Int.lt_or_le (y j) (x j) with h | h
        · exact absurd ⟨x, hx, h⟩ q
        · exact h⟩
theorem min_at {rs : List (List Int)} {fr : List Int} {j : Int} (hj : j ∈ fr) : ∀ (n : Nat) (y : Int → Int), Opt rs fr y → y j ≤ n → ∃ y, Opt rs fr y ∧ ∀ x, Opt rs fr x → y j ≤ x j
  | 0, y, hy, e => ⟨y, hy, fun x hx => by have := hx.nn j hj; omega⟩
  | n + 1, y, hy, e => by
    by_cases q : ∃ x, Opt rs fr x ∧ x j < y j
    · obtain ⟨x, hx, h⟩ := q
      exact min_at hj n x hx (by omega)
    · exact ⟨y, hy, fun x hx => by
        rcases Int.lt_or_le (x j) (y j) with h | h
        · exact absurd ⟨x, hx, h⟩ q
        · exact h⟩
def qv (rs : List (List Int)) (fr : List Int) (t : Int) : Int := V rs fr - V rs (lessT fr t)
theorem Opt.le_q {rs : List (List Int)} {fr : List Int} {x : Int → Int} (h : Opt rs fr x) {j : Int} (hj : j ∈ fr) : x j ≤ qv rs fr j := by
  have h1 := weak rs (lessT fr j) x fun s hs => h.nn s (mem_less.mp hs).1
  have h2 := sx_less h.nn hj
  have h4 : su rs x (lessT fr j) ≤ su rs x fr := su_mono (fun s hs => ⟨(mem_less.mp hs).1, Int.le_refl _⟩) rs
  have := h.le
  unfold DD at *
  unfold qv
  omega
def big (rs : List (List Int)) (j : Int) : Nat := (rs.map fun r => (rv r j).natAbs).sum
theorem big_ge {j : Int} : ∀ {rs : List (List Int)} {r}, r ∈ rs → rv r j ≤ big rs j
  | s :: rs, r, h => by
    unfold big
    rw [List.map_cons, List.sum_cons]
    rcases List.mem_cons.mp h with e | h
    · subst e; omega
    · have := big_ge (j := j) h
      unfold big at this
      omega
theorem su_out {rs : List (List Int)} {z : Int → Int} {fr : List Int} {j M : Int} : (∀ r ∈ rs, rv r j ≤ M) → su rs (fun t => if t = j then M else z t) fr ≤ su rs z (lessT fr j) := by
  induction rs with
  | nil => intro _; exact Int.le_refl _
  | cons r rs ih =>
    intro h
    have h1 := ih fun s hs => h s (List.mem_cons_of_mem _ hs)
    have h2 : uu r (fun t => if t = j then M else z t) fr ≤ uu r z (lessT fr j) := uu_le (uu_nn _ _ _) fun t ht => by
      by_cases e : t = j
      · have := h r (List.mem_cons_self ..)
        have := uu_nn r z (lessT fr j)
        rw [if_pos e, e]
        omega
      · rw [if_neg e]
        exact uu_ge (mem_less.mpr ⟨ht, e⟩)
    rw [su_cons, su_cons]
    omega
theorem q_at {rs : List (List Int)} (F : ∀ fr : List Int, fr.Nodup → ∃ x, Opt rs fr x) {fr : List Int} (nd : fr.Nodup) {j : Int} (hj : j ∈ fr) : ∃ y, Opt rs fr y ∧ y j = qv rs fr j := by
  obtain ⟨y0, hy0⟩ := F fr nd
  have hb : ∀ x, Opt rs fr x → x j ≤ qv rs fr j := fun x hx => hx.le_q hj
  obtain ⟨y, hy, hm⟩ := max_at hb (qv rs fr j - y0 j).toNat y0 hy0 (by omega)
  refine ⟨y, hy, Int.le_antisymm (hb y hy) ?_⟩
  obtain ⟨z, hz⟩ := F (lessT fr j) (nodup_less nd)
  have hyj := hy.nn j hj
  let z' : Int → Int := fun t => if t = j then y j + big rs j else z t
  have e1 : z' j = y j + big rs j := if_pos rfl
  have hn : Nn z' fr := fun t ht => by
    by_cases e : t = j
    · show 0 ≤ (if t = j then _ else _)
      rw [if_pos e]; omega
    · show 0 ≤ (if t = j then _ else _)
      rw [if_neg e]; exact hz.nn t (mem_less.mpr ⟨ht, e⟩)
  have h1 := grow_up hj hy hm (big rs j) z' hn e1
  have h2 : su rs z' fr ≤ su rs z (lessT fr j) := su_out fun r hr => by have := big_ge (j := j) hr; omega
  have h3 := sx_less_eq (x := z') nd hj
  have h4 : sx z' (lessT fr j) = sx z (lessT fr j) := sx_congr fun t ht => if_neg (mem_less.mp ht).2
  have h5 := hz.le
  unfold DD at *
  unfold qv
  omega
theorem q_opt {rs : List (List Int)} (F : ∀ fr : List Int, fr.Nodup → ∃ x, Opt rs fr x) {fr : List Int} (nd : fr.Nodup) : Opt rs fr (qv rs fr) := by
  have : ∀ l : List Int, (∀ t ∈ l, t ∈ fr) → ∃ y, Opt rs fr y ∧ ∀ t ∈ l, y t = qv rs fr t := by
    intro l
    induction l with
    | nil => intro _; obtain ⟨y, hy⟩ := F fr nd; exact ⟨y, hy, fun t ht => nomatch ht⟩
    | cons j l ih =>
      intro h
      obtain ⟨y, hy, e⟩ := ih fun t ht => h t (List.mem_cons_of_mem _ ht)
      obtain ⟨z, hz, e2⟩ := q_at F nd (h j (List.mem_cons_self ..))
      refine ⟨hi 0 y z, hy.join hz, fun t ht => ?_⟩
      have a1 := hy.le_q (h t ht)
      have a2 := hz.le_q (h t ht)
      rcases List.mem_cons.mp ht with q | q
      · subst q; unfold hi; omega
      · have := e t q; unfold hi; omega
  obtain ⟨y, hy, e⟩ := this fr fun _ h => h
  exact hy.congr e
theorem strong : ∀ (rs : List (List Int)) (fr : List Int), fr.Nodup → ∃ x, Opt rs fr x
  | [], fr, _ => ⟨fun _ => 0, fun _ _ => Int.le_refl _, by
      have : ∀ fr : List Int, sx (fun _ => 0) fr = 0 := fun fr => by induction fr with
        | nil => rfl
        | cons t fr ih => rw [sx_cons, ih]; rfl
      unfold DD; rw [this]; exact Int.le_refl _⟩
  | r :: rs, fr, nd => by
    have h := q_opt (strong rs) nd
    refine ⟨qv rs fr, h.nn, ?_⟩
    have h1 := h.le
    unfold DD at *
    rw [su_cons]
    have h0 := V_le r rs fr
    have h2 : uu r (qv rs fr) fr ≤ V (r :: rs) fr - V rs fr := uu_le (by omega) fun t ht => by
      have := V_ge (r := r) (rs := rs) ht
      unfold qv
      omega
    omega
theorem q_is (rs : List (List Int)) {fr : List Int} (nd : fr.Nodup) : Opt rs fr (qv rs fr) := q_opt (strong rs) nd
end Bid

namespace Bid
def Giv : List (List Int) → List (Option Int) → List Int → Prop
  | [], [], _ => True
  | _ :: rs, none :: os, fr => Giv rs os fr
  | _ :: rs, some t :: os, fr => t ∈ fr ∧ Giv rs os (lessT fr t)
  | _, _, _ => False
def wo : List (List Int) → List (Option Int) → Int
  | _ :: rs, none :: os => wo rs os
  | r :: rs, some t :: os => rv r t + wo rs os
  | _, _ => 0
theorem giv_len : ∀ {rs : List (List Int)} {os : List (Option Int)} {fr : List Int}, Giv rs os fr → os.length = rs.length
  | [], [], _, _ => rfl
  | _ :: rs, none :: os, fr, h => congrArg (· + 1) (giv_len (rs := rs) h)
  | _ :: rs, some t :: os, fr, h => congrArg (· + 1) (giv_len (rs := rs) h.2)
theorem giv_le : ∀ {rs : List (List Int)} {os : List (Option Int)} {fr : List Int}, Giv rs os fr → wo rs os ≤ V rs fr
  | [], [], _, _ => Int.le_refl _
  | r :: rs, none :: os, fr, h => Int.le_trans (giv_le (rs := rs) h) (V_le r rs fr)
  | r :: rs, some t :: os, fr, h => by
    have h1 := giv_le (rs := rs) h.2
    have h2 := V_ge (r := r) (rs := rs) h.1
    show rv r t + wo rs os ≤ _
    omega
theorem best_giv : ∀ (rs : List (List Int)) (fr : List Int), Giv rs (bestF rs fr).2 fr ∧ wo rs (bestF rs fr).2 = V rs fr
  | [], _ => ⟨trivial, rfl⟩
  | r :: rs, fr => by
    unfold V
    rcases bestF_cases r rs fr with e | ⟨t, ht, e⟩
    · rw [e]
      exact best_giv rs fr
    · rw [e]
      obtain ⟨h1, h2⟩ := best_giv rs (lessT fr t)
      exact ⟨⟨ht, h1⟩, by show rv r t + wo rs _ = _; rw [h2]; unfold V; omega⟩
theorem giv_mem : ∀ {rs : List (List Int)} {os : List (Option Int)} {fr : List Int} {t : Int}, Giv rs os fr → some t ∈ os → t ∈ fr
  | [], [], _, _, _, h => nomatch h
  | _ :: rs, none :: os, fr, t, h, hm => by
    rcases List.mem_cons.mp hm with e | hm
    · cases e
    · exact giv_mem (rs := rs) h hm
  | _ :: rs, some s :: os, fr, t, h, hm => by
    rcases List.mem_cons.mp hm with e | hm
    · cases e; exact h.1
    · exact (mem_less.mp (giv_mem (rs := rs) h.2 hm)).1
/-- what is given is given once -/
theorem giv_of : ∀ {rs : List (List Int)} {os : List (Option Int)} {fr : List Int}, os.length = rs.length → (∀ t, some t ∈ os → t ∈ fr) → (os.filterMap id).Nodup → Giv rs os fr
  | [], [], _, _, _, _ => trivial
  | r :: rs, none :: os, fr, hl, hm, hn => giv_of (rs := rs) (by simpa using hl) (fun t ht => hm t (List.mem_cons_of_mem _ ht)) (by simpa using hn)
  | r :: rs, some t :: os, fr, hl, hm, hn => by
    have hn' : t ∉ os.filterMap id ∧ (os.filterMap id).Nodup := by
      have e : (some t :: os).filterMap id = t :: os.filterMap id := by simp
      rw [e, List.nodup_cons] at hn
      exact hn
    refine ⟨hm t (List.mem_cons_self ..), giv_of (rs := rs) (by simpa using hl) (fun s hs => mem_less.mpr ⟨hm s (List.mem_cons_of_mem _ hs), fun e => ?_⟩) hn'.2⟩
    subst e
    exact hn'.1 (List.mem_filterMap.mpr ⟨some s, hs, rfl⟩)
theorem giv_nodup : ∀ {rs : List (List Int)} {os : List (Option Int)} {fr : List Int}, Giv rs os fr → (os.filterMap id).Nodup
  | [], [], _, _ => List.nodup_nil
  | _ :: rs, none :: os, fr, h => by
    have := giv_nodup (rs := rs) h
    simpa using this
  | _ :: rs, some t :: os, fr, h => by
    have h1 := giv_nodup (rs := rs) h.2
    have e : (some t :: os).filterMap id = t :: os.filterMap id := by simp
    rw [e, List.nodup_cons]
    refine ⟨fun hm => ?_, h1⟩
    obtain ⟨o, ho, e⟩ := List.mem_filterMap.mp hm
    simp at e
    subst e
    exact (mem_less.mp (giv_mem (rs := rs) h.2 ho)).2 rfl
def gn (r : List Int) (x : Int → Int) : Option Int → Int
  | none => 0
  | some t => rv r t - x t
def px (x : Int → Int) : List (Option Int) → Int
  | [] => 0
  | none :: os => px x os
  | some t :: os => x t + px x os
def gs (x : Int → Int) : List (List Int) → List (Option Int) → Int
  | r :: rs, o :: os => gn r x o + gs x rs os
  | _, _ => 0
def rest (fr : List Int) (os : List (Option Int)) : List Int := fr.filter fun t => !os.contains (some t)
theorem gs_eq (x : Int → Int) : ∀ {rs : List (List Int)} {os : List (Option Int)}, os.length = rs.length → gs x rs os + px x os = wo rs os
  | [], [], _ => rfl
  | r :: rs, none :: os, h => by
    have := gs_eq x (rs := rs) (os := os) (by simpa using h)
    show 0 + gs x rs os + px x os = wo rs os
    omega
  | r :: rs, some t :: os, h => by
    have := gs_eq x (rs := rs) (os := os) (by simpa using h)
    show rv r t - x t + gs x rs os + (x t + px x os) = rv r t + wo rs os
    omega
theorem rest_cons (fr : List Int) (t : Int) (os : List (Option Int)) : rest fr (some t :: os) = rest (lessT fr t) os := by
  unfold rest lessT
  rw [List.filter_filter]
  refine List.filter_congr fun s _ => ?_
  by_cases e : s = t <;> simp [e]
theorem rest_none (fr : List Int) (os : List (Option Int)) : rest fr (none :: os) = rest fr os := by
  unfold rest
  refine List.filter_congr fun s _ => ?_
  simp
theorem sx_rest (x : Int → Int) : ∀ {rs : List (List Int)} {os : List (Option Int)} {fr : List Int}, Giv rs os fr → fr.Nodup → sx x fr = px x os + sx x (rest fr os)
  | [], [], fr, _, _ => by
    have : rest fr [] = fr := by unfold rest; rw [List.filter_eq_self]; intro a _; simp
    rw [this]
    show sx x fr = 0 + sx x fr
    omega
  | _ :: rs, none :: os, fr, h, nd => by
    rw [rest_none]
    exact sx_rest x (rs := rs) (os := os) h nd
  | _ :: rs, some t :: os, fr, h, nd => by
    have := sx_rest x (rs := rs) h.2 (nodup_less nd)
    have h2 := sx_less_eq (x := x) nd h.1
    rw [rest_cons]
    show sx x fr = x t + px x os + _
    omega
theorem mem_rest {fr : List Int} {os : List (Option Int)} {t : Int} : t ∈ rest fr os ↔ t ∈ fr ∧ some t ∉ os := by unfold rest; rw [List.mem_filter]; simp
/-- each guest has what is best to it -/
def Best (x : Int → Int) (fr : List Int) : List (List Int) → List (Option Int) → Prop
  | r :: rs, o :: os => gn r x o = uu r x fr ∧ Best x fr rs os
  | _, _ => True
theorem gn_le {r : List Int} {x : Int → Int} {fr : List Int} {o : Option Int} (h : ∀ t, o = some t → t ∈ fr) : gn r x o ≤ uu r x fr := by
  cases o with
  | none => exact uu_nn r x fr
  | some t => exact uu_ge (h t rfl)
theorem gs_le {x : Int → Int} {fr : List Int} : ∀ {rs : List (List Int)} {os : List (Option Int)}, os.length = rs.length → (∀ t, some t ∈ os → t ∈ fr) → gs x rs os ≤ su rs x fr ∧ (su rs x fr ≤ gs x rs os ↔ Best x fr rs os)
  | [], [], _, _ => ⟨Int.le_refl _, ⟨fun _ => trivial, fun _ => Int.le_refl _⟩⟩
  | r :: rs, o :: os, h, hm => by
    obtain ⟨h1, h2⟩ := gs_le (x := x) (fr := fr) (rs := rs) (os := os) (by simpa using h) fun t ht => hm t (List.mem_cons_of_mem _ ht)
    have h3 : gn r x o ≤ uu r x fr := gn_le fun t e => hm t (by rw [e]; exact List.mem_cons_self ..)
    rw [su_cons]
    show gn r x o + gs x rs os ≤ _ ∧ (_ ≤ gn r x o + gs x rs os ↔ gn r x o = uu r x fr ∧ Best x fr rs os)
    refine ⟨by omega, fun q => ⟨by omega, h2.mp (by omega)⟩, fun ⟨q1, q2⟩ => ?_⟩
    have := h2.mpr q2
    omega
def Fair (rs : List (List Int)) (os : List (Option Int)) (fr : List Int) (x : Int → Int) : Prop := Best x fr rs os ∧ ∀ t ∈ fr, some t ∉ os → x t = 0
theorem sx_zero {x : Int → Int} : ∀ {fr : List Int}, Nn x fr → sx x fr ≤ 0 → ∀ t ∈ fr, x t = 0
  | [], _, _, _, h => nomatch h
  | s :: fr, hn, hz, t, h => by
    have h1 := sx_nn fun a ha => hn a (List.mem_cons_of_mem _ ha)
    have h2 := hn s (List.mem_cons_self ..)
    rw [sx_cons] at hz
    rcases List.mem_cons.mp h with e | h
    · subst e; omega
    · exact sx_zero (fun a ha => hn a (List.mem_cons_of_mem _ ha)) (by omega) t h
theorem sx_of_zero {x : Int → Int} : ∀ {fr : List Int}, (∀ t ∈ fr, x t = 0) → sx x fr = 0
  | [], _ => rfl
  | s :: fr, h => by rw [sx_cons, h s (List.mem_cons_self ..), sx_of_zero fun t ht => h t (List.mem_cons_of_mem _ ht)]; rfl
/-- fair prices are those whose sum with the gains is the worth -/
theorem fair_iff {rs : List (List Int)} {os : List (Option Int)} {fr : List Int} {x : Int → Int} (g : Giv rs os fr) (nd : fr.Nodup) (hn : Nn x fr) : Fair rs os fr x ↔ DD rs x fr ≤ wo rs os := by
  have h1 := gs_eq x (giv_len g)
  have h2 := sx_rest x g nd
  obtain ⟨h3, h4⟩ := gs_le (x := x) (fr := fr) (giv_len g) fun t ht => giv_mem g ht
  have h5 : Nn x (rest fr os) := fun t ht => hn t (mem_rest.mp ht).1
  have h6 := sx_nn h5
  unfold DD
  constructor
  · rintro ⟨a, b⟩
    have := h4.mpr a
    have := sx_of_zero (x := x) (fr := rest fr os) fun t ht => b t (mem_rest.mp ht).1 (mem_rest.mp ht).2
    omega
  · intro h
    refine ⟨h4.mp (by omega), fun t ht hq => ?_⟩
    exact sx_zero h5 (by omega) t (mem_rest.mpr ⟨ht, hq⟩)
theorem fair_of_opt {rs : List (List Int)} {os : List (Option Int)} {fr : List Int} {x : Int → Int} (g : Giv rs os fr) (nd : fr.Nodup) (hw : wo rs os = V rs fr) (h : Opt rs fr x) : Fair rs os fr x := (fair_iff g nd h.nn).mpr (by rw [hw]; exact h.le)
theorem opt_of_fair {rs : List (List Int)} {os : List (Option Int)} {fr : List Int} {x : Int → Int} (g : Giv rs os fr) (nd : fr.Nodup) (hn : Nn x fr) (h : Fair rs os fr x) : Opt rs fr x ∧ wo rs os = V rs fr := by
  have h1 := (fair_iff g nd hn).mp h
  have h2 := giv_le g
  have h3 := weak rs fr x hn
  exact ⟨⟨hn, by omega⟩, by omega⟩
theorem opt_between {rs : List (List Int)} {fr : List Int} {p q : Int → Int} {c : Int} (hc : 0 ≤ c) (hp : Opt rs fr p) (hq : Opt rs fr q) : Opt rs fr (lo c p q) := by
  refine ⟨lo_nn hc hp.nn hq.nn, ?_⟩
  have h1 := DD_nat (rs := rs) (z := p) (y := q) (fr := fr) hc
  have h2 := weak rs fr _ (hi_nn (c := c) (y := q) hp.nn)
  have := hp.le
  have := hq.le
  omega
theorem q_bound {rs : List (List Int)} {fr : List Int} {j B : Int} (nd : fr.Nodup) (hj : j ∈ fr) (h0 : 0 ≤ B) (hb : ∀ r ∈ rs, rv r j ≤ B) : qv rs fr j ≤ B := by
  obtain ⟨z, hz⟩ := strong rs (lessT fr j) (nodup_less nd)
  let z' : Int → Int := fun t => if t = j then B else z t
  have hn : Nn z' fr := fun t ht => by
    by_cases e : t = j
    · show 0 ≤ (if t = j then _ else _)
      rw [if_pos e]; omega
    · show 0 ≤ (if t = j then _ else _)
      rw [if_neg e]; exact hz.nn t (mem_less.mpr ⟨ht, e⟩)
  have h1 := weak rs fr z' hn
  have h2 : su rs z' fr ≤ su rs z (lessT fr j) := su_out hb
  have h3 := sx_less_eq (x := z') nd hj
  have h4 : sx z' (lessT fr j) = sx z (lessT fr j) := sx_congr fun t ht => if_neg (mem_less.mp ht).2
  have h5 := hz.le
  have e1 : z' j = B := if_pos rfl
  unfold DD at *
  unfold qv
  omega
/-- rows' is rows with a thing k more, of which each bid is that for j -/
inductive Twin (fr : List Int) (j k : Int) : List (List Int) → List (List Int) → Prop
  | nil : Twin fr j k [] []
  | cons {r r' rs rs'} : (∀ t ∈ fr, rv r' t = rv r t) → rv r' k = rv r j → Twin fr j k rs rs' → Twin fr j k (r :: rs) (r' :: rs')
theorem twin_up {fr : List Int} {j k : Int} {x : Int → Int} (hj : j ∈ fr) : ∀ {rs rs' : List (List Int)}, Twin fr j k rs rs' → su rs' (fun t => if t = k then x j else x t) (fr ++ [k]) ≤ su rs x fr
  | _, _, .nil => Int.le_refl _
  | _, _, .cons (r := r) (r' := r') h1 h2 h => by
    have ih := twin_up (x := x) hj h
    rw [su_cons, su_cons]
    have : uu r' (fun t => if t = k then x j else x t) (fr ++ [k]) ≤ uu r x fr := uu_le (uu_nn _ _ _) fun t ht => by
      by_cases e : t = k
      · rw [if_pos e, e, h2]; exact uu_ge hj
      · rw [if_neg e]
        have ht' : t ∈ fr := by
          rcases List.mem_append.mp ht with q | q
          · exact q
          · exact absurd (List.mem_singleton.mp q) e
        rw [h1 t ht']
        exact uu_ge ht'
    omega
theorem twin_dn {fr : List Int} {j k : Int} {z : Int → Int} (hj : j ∈ fr) : ∀ {rs rs' : List (List Int)}, Twin fr j k rs rs' → su rs (fun t => if t = j then min (z j) (z k) else z t) fr ≤ su rs' z (fr ++ [k])
  | _, _, .nil => Int.le_refl _
  | _, _, .cons (r := r) (r' := r') h1 h2 h => by
    have ih := twin_dn (z := z) hj h
    rw [su_cons, su_cons]
    have : uu r (fun t => if t = j then min (z j) (z k) else z t) fr ≤ uu r' z (fr ++ [k]) := uu_le (uu_nn _ _ _) fun t ht => by
      have a := uu_ge (r := r') (x := z) (List.mem_append_left [k] ht)
      have b := uu_ge (r := r') (x := z) (List.mem_append_right fr (List.mem_singleton.mpr rfl : k ∈ [k]))
      rw [h1 t ht] at a
      by_cases e : t = j
      · subst e
        rw [if_pos rfl]
        rw [h2] at b
        omega
      · rw [if_neg e]
        exact a
    omega
theorem twin_v {fr : List Int} {j k : Int} {rs rs' : List (List Int)} (nd : fr.Nodup) (hj : j ∈ fr) (hk : k ∉ fr) (h : Twin fr j k rs rs') :
    (∃ y, Opt rs fr y ∧ V rs' (fr ++ [k]) - V rs fr = y j) ∧ ∀ x, Opt rs fr x → V rs' (fr ++ [k]) - V rs fr ≤ x j := by
  have hjk : j ≠ k := fun e => hk (e ▸ hj)
  have up : ∀ x, Opt rs fr x → V rs' (fr ++ [k]) - V rs fr ≤ x j := fun x hx => by
    have h1 := twin_up (x := x) hj h
    have h2 : sx (fun t => if t = k then x j else x t) (fr ++ [k]) = sx x fr + x j := by
      rw [sx_app, sx_cons, sx_nil, if_pos rfl, Int.add_zero]
      congr 1
      exact sx_congr fun t ht => if_neg fun e => hk (by rw [← e]; exact ht)
    have h3 := weak rs' (fr ++ [k]) (fun t => if t = k then x j else x t) fun t ht => by
      show 0 ≤ (if t = k then _ else _)
      by_cases e : t = k
      · rw [if_pos e]; exact hx.nn j hj
      · rw [if_neg e]
        rcases List.mem_append.mp ht with q | q
        · exact hx.nn t q
        · exact absurd (List.mem_singleton.mp q) e
    have h4 := hx.le
    unfold DD at *
    omega
  refine ⟨?_, up⟩
  obtain ⟨y0, hy0⟩ := strong rs fr nd
  obtain ⟨y, hy, hm⟩ := min_at hj (y0 j).toNat y0 hy0 (by have := hy0.nn j hj; omega)
  refine ⟨y, hy, Int.le_antisymm (up y hy) ?_⟩
  have nd' : (fr ++ [k]).Nodup := by
    rw [List.nodup_append]
    refine ⟨nd, by simp, fun a ha b hb => ?_⟩
    rw [List.mem_singleton] at hb
    subst hb
    exact fun e => hk (e ▸ ha)
  obtain ⟨z, hz⟩ := strong rs' (fr ++ [k]) nd'
  let z' : Int → Int := fun t => if t = j then min (z j) (z k) else z t
  have zj := hz.nn j (List.mem_append_left [k] hj)
  have zk := hz.nn k (List.mem_append_right fr (List.mem_singleton.mpr rfl : k ∈ [k]))
  have e1 : z' j = min (z j) (z k) := if_pos rfl
  have hn : Nn z' fr := fun t ht => by
    show 0 ≤ (if t = j then _ else _)
    by_cases e : t = j
    · rw [if_pos e]; omega
    · rw [if_neg e]; exact hz.nn t (List.mem_append_left [k] ht)
  have h1 : su rs z' fr ≤ su rs' z (fr ++ [k]) := twin_dn (z := z) hj h
  have h2 := sx_less_eq (x := z') nd hj
  have h3 : sx z' (lessT fr j) = sx z (lessT fr j) := sx_congr fun t ht => if_neg (mem_less.mp ht).2
  have h4 := sx_less_eq (x := z) nd hj
  have h5 : sx z (fr ++ [k]) = sx z fr + z k := by rw [sx_app, sx_cons, sx_nil, Int.add_zero]
  have h6 := hz.le
  have h7 := weak rs fr z' hn
  rcases Int.le_total (y j) (z' j) with q | q
  · unfold DD at *
    omega
  · have h8 := grow_dn hj hy hm (y j - z' j).toNat z' hn (by omega)
    unfold DD at *
    omega
/-- what one more of each thing would add: the least prices -/
theorem p_is {rs : List (List Int)} {fr : List Int} {p : Int → Int} (nd : fr.Nodup) (h : ∀ j ∈ fr, (∃ y, Opt rs fr y ∧ p j = y j) ∧ ∀ x, Opt rs fr x → p j ≤ x j) : Opt rs fr p := by
  have : ∀ l : List Int, (∀ t ∈ l, t ∈ fr) → ∃ y, Opt rs fr y ∧ ∀ t ∈ l, y t = p t := by
    intro l
    induction l with
    | nil => intro _; obtain ⟨y, hy⟩ := strong rs fr nd; exact ⟨y, hy, fun t ht => nomatch ht⟩
    | cons j l ih =>
      intro hl
      obtain ⟨y, hy, e⟩ := ih fun t ht => hl t (List.mem_cons_of_mem _ ht)
      obtain ⟨⟨z, hz, e2⟩, _⟩ := h j (hl j (List.mem_cons_self ..))
      refine ⟨lo 0 y z, hy.meet hz, fun t ht => ?_⟩
      have a1 := (h t (hl t ht)).2 y hy
      have a2 := (h t (hl t ht)).2 z hz
      rcases List.mem_cons.mp ht with q | q
      · subst q; unfold lo; omega
      · have := e t q; unfold lo; omega
  obtain ⟨y, hy, e⟩ := this fr fun _ h => h
  exact hy.congr e
theorem more_guest {rs rs' : List (List Int)} {fr : List Int} {r : List Int} (h : ∀ x, su rs x fr = su rs' x fr + uu r x fr) {x x' : Int → Int} (hx : Opt rs fr x) (hx' : Opt rs' fr x') : Opt rs fr (hi 0 x x') ∧ Opt rs' fr (lo 0 x x') := by
  have n1 := hi_nn (c := 0) (y := x') hx.nn
  have n2 := lo_nn (c := 0) (Int.le_refl _) hx.nn hx'.nn
  have h1 := DD_nat (rs := rs') (z := x) (y := x') (fr := fr) (c := 0) (Int.le_refl _)
  have h2 := weak rs fr _ n1
  have h3 := weak rs' fr _ n2
  have h4 : uu r (hi 0 x x') fr ≤ uu r x fr := uu_mono fun t ht => ⟨ht, by unfold hi; omega⟩
  have h5 := h x
  have h6 := h (hi 0 x x')
  have h7 := hx.le
  have h8 := hx'.le
  refine ⟨⟨n1, ?_⟩, ⟨n2, ?_⟩⟩
  · unfold DD at *; omega
  · unfold DD at *; omega
/-- what a guest adds is its gain at the least prices -/
theorem crux {rs rs' : List (List Int)} {fr : List Int} {r : List Int} (nd : fr.Nodup) (h : ∀ x, su rs x fr = su rs' x fr + uu r x fr) {p : Int → Int} (hp : Opt rs fr p) (hm : ∀ x, Opt rs fr x → ∀ t ∈ fr, p t ≤ x t) : V rs' fr = V rs fr - uu r p fr := by
  have up := weak rs' fr p hp.nn
  have hpe := hp.le
  have e1 := h p
  obtain ⟨z, hz⟩ := strong rs' fr nd
  have hw := (more_guest h hp hz).2
  have hwe := hw.le
  have e2 := h (lo 0 p z)
  have h9 := weak rs fr (lo 0 p z) hw.nn
  rcases uu_cases r (lo 0 p z) fr with e | ⟨t, ht, e⟩
  · have := uu_nn r p fr
    unfold DD at *
    omega
  · have h10 := grow_dn ht hp (fun x hx => hm x hx t ht) (p t - lo 0 p z t).toNat (lo 0 p z) hw.nn (by unfold lo; omega)
    have h11 := uu_ge (r := r) (x := p) ht
    have h12 : lo 0 p z t ≤ p t := by unfold lo; omega
    unfold DD at *
    omega
inductive Wider (fr : List Int) : List (List Int) → List (List Int) → Prop
  | nil : Wider fr [] []
  | cons {r r' rs rs'} : (∀ t ∈ fr, rv r' t = rv r t) → Wider fr rs rs' → Wider fr (r :: rs) (r' :: rs')
theorem wider_su {fr : List Int} {x : Int → Int} : ∀ {rs rs' : List (List Int)}, Wider fr rs rs' → su rs' x fr = su rs x fr
  | _, _, .nil => rfl
  | _, _, .cons h1 h => by rw [su_cons, su_cons, wider_su h, uu_congr fun t ht => ⟨h1 t ht, rfl⟩]
theorem more_thing {rs rs' : List (List Int)} {fr : List Int} {k : Int} (hk : k ∉ fr) (h : Wider fr rs rs') {x x' : Int → Int} (hx : Opt rs' (fr ++ [k]) x) (hx' : Opt rs fr x') :
    Opt rs fr (hi 0 x x') ∧ ∃ y, Opt rs' (fr ++ [k]) y ∧ ∀ t ∈ fr, y t = min (x t) (x' t) := by
  have xk := hx.nn k (List.mem_append_right fr (List.mem_singleton.mpr rfl : k ∈ [k]))
  let M : Int := x k + big rs' k
  let x2 : Int → Int := fun t => if t = k then M else x' t
  have e0 : ∀ t ∈ fr, x2 t = x' t := fun t ht => if_neg fun e => hk (by rw [← e]; exact ht)
  have e1 : x2 k = M := if_pos rfl
  have hl : lessT (fr ++ [k]) k = fr := by
    have := lessT_self hk
    unfold lessT at this ⊢
    rw [List.filter_append, this]
    simp
  have n2 : Nn x2 (fr ++ [k]) := fun t ht => by
    rcases List.mem_append.mp ht with q | q
    · rw [e0 t q]; exact hx'.nn t q
    · rw [List.mem_singleton.mp q, e1]; omega
  have h1 := DD_nat (rs := rs') (z := x) (y := x2) (fr := fr ++ [k]) (c := 0) (Int.le_refl _)
  have h2 : su rs' x2 (fr ++ [k]) ≤ su rs' x' fr := by
    have := su_out (rs := rs') (z := x') (fr := fr ++ [k]) (j := k) (M := M) fun r hr => by have := big_ge (j := k) hr; omega
    rw [hl] at this
    exact this
  rw [wider_su h] at h2
  have h3 : ∀ y, sx y (fr ++ [k]) = sx y fr + y k := fun y => by rw [sx_app, sx_cons, sx_nil, Int.add_zero]
  have h4 : sx x2 fr = sx x' fr := sx_congr e0
  have n3 : Nn (lo 0 x x2) (fr ++ [k]) := lo_nn (Int.le_refl _) hx.nn n2
  have n4 : Nn (hi 0 x x') fr := hi_nn fun t ht => hx.nn t (List.mem_append_left _ ht)
  have h5 : su rs (hi 0 x x') fr ≤ su rs' (hi 0 x x2) (fr ++ [k]) := by
    rw [← wider_su h]
    exact su_mono (fun t ht => ⟨List.mem_append_left _ ht, by unfold hi; rw [e0 t ht]; omega⟩) rs'
  have h6 : sx (hi 0 x x') fr = sx (hi 0 x x2) fr := sx_congr fun t ht => by unfold hi; rw [e0 t ht]
  have h7 := weak rs fr _ n4
  have h8 := weak rs' _ _ n3
  have h9 := hx.le
  have h10 := hx'.le
  have e3 : hi 0 x x2 k = M := by unfold hi; rw [e1]; omega
  refine ⟨⟨n4, ?_⟩, lo 0 x x2, ⟨n3, ?_⟩, fun t ht => by unfold lo; rw [e0 t ht]; omega⟩
  · have i1 := h3 x
    have i2 := h3 x2
    have i3 := h3 (lo 0 x x2)
    have i4 := h3 (hi 0 x x2)
    unfold DD at *
    omega
  · have i1 := h3 x
    have i2 := h3 x2
    have i3 := h3 (lo 0 x x2)
    have i4 := h3 (hi 0 x x2)
    unfold DD at *
    omega
theorem served_ge {rs : List (List Int)} {os : List (Option Int)} {fr : List Int} {x p : Int → Int} (nd : fr.Nodup) (g : Giv rs os fr) (hn : Nn x fr) (hb : Best x fr rs os) (hp : Opt rs fr p) (hm : ∀ y, Opt rs fr y → ∀ t ∈ fr, p t ≤ y t) : ∀ t ∈ fr, p t ≤ x t := by
  have n1 := hi_nn (c := 0) (y := p) hn
  have n2 := lo_nn (c := 0) (Int.le_refl _) hn hp.nn
  have hl := giv_len g
  have hmem := fun t ht => giv_mem (t := t) g ht
  have a1 := gs_eq x hl
  have a2 := sx_rest x g nd
  have a3 := (gs_le (x := x) (fr := fr) hl hmem).2.mpr hb
  have b1 := gs_eq (hi 0 x p) hl
  have b2 := sx_rest (hi 0 x p) g nd
  have b3 := (gs_le (x := hi 0 x p) (fr := fr) hl hmem).1
  have b4 : sx x (rest fr os) ≤ sx (hi 0 x p) (rest fr os) := sx_le fun t ht => by unfold hi; omega
  have h1 := DD_nat (rs := rs) (z := x) (y := p) (fr := fr) (c := 0) (Int.le_refl _)
  have h2 := hp.le
  have h3 : Opt rs fr (lo 0 x p) := ⟨n2, by unfold DD at *; omega⟩
  intro t ht
  have := hm _ h3 t ht
  unfold lo at this
  omega
end Bid

namespace Bid
def rngI (m : Nat) : List Int := (List.range m).map fun (i : Nat) => (i : Int)
theorem rngI_len (m : Nat) : (rngI m).length = m := by unfold rngI; rw [List.length_map, List.length_range]
theorem mem_rngI {m : Nat} {t : Int} : t ∈ rngI m ↔ 0 ≤ t ∧ t < m := by
  unfold rngI
  rw [List.mem_map]
  constructor
  · rintro ⟨i, hi, rfl⟩
    rw [List.mem_range] at hi
    omega
  · rintro ⟨h0, h1⟩
    exact ⟨t.toNat, by rw [List.mem_range]; omega, by omega⟩
theorem rngI_succ (m : Nat) : rngI (m + 1) = rngI m ++ [(m : Int)] := by unfold rngI; rw [List.range_succ, List.map_append]; rfl
theorem nodup_rngI : ∀ m, (rngI m).Nodup
  | 0 => List.nodup_nil
  | m + 1 => by
    rw [rngI_succ, List.nodup_append]
    refine ⟨nodup_rngI m, by simp, fun a ha b hb => ?_⟩
    rw [List.mem_singleton] at hb
    rw [mem_rngI] at ha
    omega
theorem out_rngI (m : Nat) : (m : Int) ∉ rngI m := fun h => by rw [mem_rngI] at h; omega
/-- g guests, m things -/
structure Sz (S : List (List Int)) (g m : Nat) : Prop where
  len : S.length = g
  g1 : 1 ≤ g
  g6 : g ≤ 6
  m1 : 1 ≤ m
  m7 : m ≤ 7
  row : ∀ r ∈ S, r.length = m
def mostM (S : List (List Int)) (m : Nat) : Int := (bestF S (rngI m)).1
def twiceM (S : List (List Int)) (t : Int) : List (List Int) := S.map fun r => r ++ [r.getD t.toNat 0]
def leastM (S : List (List Int)) (m : Nat) : List Int := (List.range m).map fun (i : Nat) => mostM (twiceM S (i : Int)) (m + 1) - mostM S m
def greatM (S : List (List Int)) (m : Nat) : List Int := (List.range m).map fun (i : Nat) => mostM S m - (bestF S (lessT (rngI m) (i : Int))).1
theorem Sz.twice {S : List (List Int)} {g m : Nat} (h : Sz S g m) (hm : m ≤ 6) (t : Int) : Sz (twiceM S t) g (m + 1) := ⟨by unfold twiceM; rw [List.length_map]; exact h.len, h.g1, h.g6, by omega, by omega, fun r hr => by
  obtain ⟨q, hq, rfl⟩ := List.mem_map.mp hr
  rw [List.length_append, h.row q hq]
  rfl⟩
theorem leastM_at {S : List (List Int)} {m i : Nat} (h : i < m) : (leastM S m).getD i 0 = mostM (twiceM S (i : Int)) (m + 1) - mostM S m := by
  unfold leastM
  rw [List.getD_eq_getElem?_getD, List.getElem?_map, List.getElem?_range h]
  rfl
theorem greatM_at {S : List (List Int)} {m i : Nat} (h : i < m) : (greatM S m).getD i 0 = mostM S m - (bestF S (lessT (rngI m) (i : Int))).1 := by
  unfold greatM
  rw [List.getD_eq_getElem?_getD, List.getElem?_map, List.getElem?_range h]
  rfl
theorem leastM_len (S : List (List Int)) (m : Nat) : (leastM S m).length = m := by unfold leastM; rw [List.length_map, List.length_range]
theorem greatM_len (S : List (List Int)) (m : Nat) : (greatM S m).length = m := by unfold greatM; rw [List.length_map, List.length_range]
/-- prices as a function -/
abbrev lf (xs : List Int) : Int → Int := fun t => xs.getD t.toNat 0
abbrev bst (S : List (List Int)) (m : Nat) : List (Option Int) := (bestF S (rngI m)).2
theorem rv_app {r : List Int} {b : Int} {t : Int} (h : t.toNat < r.length) : rv (r ++ [b]) t = rv r t := by
  unfold rv
  rw [List.getD_eq_getElem?_getD, List.getD_eq_getElem?_getD, List.getElem?_append_left h]
theorem rv_end {r : List Int} {b : Int} {m : Nat} (h : r.length = m) : rv (r ++ [b]) (m : Int) = b := by
  unfold rv
  rw [List.getD_eq_getElem?_getD, Int.toNat_natCast, List.getElem?_append_right (by omega), h, Nat.sub_self]
  rfl
theorem twin_of {m : Nat} {j : Int} : ∀ {S : List (List Int)}, (∀ r ∈ S, r.length = m) → Twin (rngI m) j (m : Int) S (twiceM S j)
  | [], _ => .nil
  | r :: S, h => .cons (fun t ht => rv_app (by rw [h r (List.mem_cons_self ..)]; rw [mem_rngI] at ht; omega)) (rv_end (h r (List.mem_cons_self ..))) (twin_of fun s hs => h s (List.mem_cons_of_mem _ hs))
section
variable {S : List (List Int)} {g m : Nat}
theorem lf_least {t : Int} (ht : t ∈ rngI m) : lf (leastM S m) t = V (twiceM S t) (rngI m ++ [(m : Int)]) - V S (rngI m) := by
  rw [mem_rngI] at ht
  have := leastM_at (S := S) (m := m) (i := t.toNat) (by omega)
  show (leastM S m).getD t.toNat 0 = _
  rw [this, Int.toNat_of_nonneg ht.1, ← rngI_succ]
  rfl
theorem lf_great {t : Int} (ht : t ∈ rngI m) : lf (greatM S m) t = qv S (rngI m) t := by
  rw [mem_rngI] at ht
  have := greatM_at (S := S) (m := m) (i := t.toNat) (by omega)
  show (greatM S m).getD t.toNat 0 = _
  rw [this, Int.toNat_of_nonneg ht.1]
  rfl
theorem least_opt (h : ∀ r ∈ S, r.length = m) : Opt S (rngI m) (lf (leastM S m)) := p_is (nodup_rngI m) fun j hj => by
  have := twin_v (nodup_rngI m) hj (out_rngI m) (twin_of (j := j) h)
  rw [← lf_least hj] at this
  exact this
theorem least_le (h : ∀ r ∈ S, r.length = m) {x : Int → Int} (hx : Opt S (rngI m) x) : ∀ t ∈ rngI m, lf (leastM S m) t ≤ x t := fun j hj => by
  have := (twin_v (nodup_rngI m) hj (out_rngI m) (twin_of (j := j) h)).2 x hx
  rw [← lf_least hj] at this
  exact this
theorem great_opt : Opt S (rngI m) (lf (greatM S m)) := (q_is S (nodup_rngI m)).congr fun t ht => (lf_great ht).symm
theorem great_ge {x : Int → Int} (hx : Opt S (rngI m) x) : ∀ t ∈ rngI m, x t ≤ lf (greatM S m) t := fun j hj => by
  rw [lf_great hj]
  exact hx.le_q hj
theorem great_max {B : Int} (h0 : 0 ≤ B) (hb : ∀ r ∈ S, ∀ b ∈ r, b ≤ B) : ∀ t ∈ rngI m, lf (greatM S m) t ≤ B := fun j hj => by
  rw [lf_great hj]
  refine q_bound (nodup_rngI m) hj h0 fun r hr => ?_
  unfold rv
  rw [List.getD_eq_getElem?_getD]
  cases e : r[j.toNat]? with
  | none => exact h0
  | some b => exact hb r hr b (List.mem_of_getElem? e)
theorem bst_giv (S : List (List Int)) (m : Nat) : Giv S (bst S m) (rngI m) := (best_giv S (rngI m)).1
theorem bst_wo (S : List (List Int)) (m : Nat) : wo S (bst S m) = mostM S m := (best_giv S (rngI m)).2
theorem bst_len (S : List (List Int)) (m : Nat) : (bst S m).length = S.length := bestF_len S (rngI m)
theorem bst_fair (S : List (List Int)) (m : Nat) {x : Int → Int} (h : Opt S (rngI m) x) : Fair S (bst S m) (rngI m) x := fair_of_opt (bst_giv S m) (nodup_rngI m) (bst_wo S m) h
end
theorem su_erase (x : Int → Int) (fr : List Int) : ∀ (S : List (List Int)) (i : Nat), i < S.length → su S x fr = su (S.eraseIdx i) x fr + uu (S.getD i []) x fr
  | r :: S, 0, _ => by rw [su_cons]; show _ = su S x fr + uu r x fr; omega
  | r :: S, i + 1, h => by
    have := su_erase x fr S i (by simpa using h)
    rw [su_cons, List.eraseIdx_cons_succ, su_cons, this]
    show _ = _ + uu ((r :: S).getD (i + 1) []) x fr
    rw [List.getD_cons_succ]
    omega
/-- what a guest's row bids for what is given -/
def val (r : List Int) : Option Int → Int
  | none => 0
  | some t => rv r t
theorem wo_erase : ∀ (S : List (List Int)) (os : List (Option Int)) (i : Nat), os.length = S.length → i < S.length → wo S os = val (S.getD i []) (os.getD i none) + wo (S.eraseIdx i) (os.eraseIdx i)
  | r :: S, none :: os, 0, _, _ => by show wo S os = 0 + wo S os; omega
  | r :: S, some t :: os, 0, _, _ => rfl
  | r :: S, o :: os, i + 1, h, hi => by
    have := wo_erase S os i (by simpa using h) (by simpa using hi)
    rw [List.eraseIdx_cons_succ, List.eraseIdx_cons_succ, List.getD_cons_succ, List.getD_cons_succ]
    cases o with
    | none => exact this
    | some t => show rv r t + wo S os = _ + (rv r t + wo _ _); omega
theorem giv_erase {S : List (List Int)} {os : List (Option Int)} {fr : List Int} (g : Giv S os fr) (i : Nat) (hi : i < S.length) : Giv (S.eraseIdx i) (os.eraseIdx i) fr := by
  have hl := giv_len g
  refine giv_of ?_ (fun t ht => giv_mem g (List.mem_of_mem_eraseIdx ht)) ((List.Sublist.filterMap id (List.eraseIdx_sublist os i)).nodup (giv_nodup g))
  rw [List.length_eraseIdx_of_lt (by omega), List.length_eraseIdx_of_lt hi]
  omega
theorem giv_len_only {S S' : List (List Int)} {os : List (Option Int)} {fr : List Int} (g : Giv S os fr) (h : S'.length = S.length) : Giv S' os fr := giv_of (by rw [giv_len g, h]) (fun t ht => giv_mem g ht) (giv_nodup g)
theorem V_erase_le (S : List (List Int)) {fr : List Int} (nd : fr.Nodup) {i : Nat} (hi : i < S.length) : V (S.eraseIdx i) fr ≤ V S fr := by
  obtain ⟨x, hx⟩ := strong S fr nd
  have h1 := weak (S.eraseIdx i) fr x hx.nn
  have h2 := su_erase x fr S i hi
  have h3 := hx.le
  have h4 := uu_nn (S.getD i []) x fr
  unfold DD at *
  omega
def dueM (S : List (List Int)) (m : Nat) : List Int := (List.range S.length).map fun i => V (S.eraseIdx i) (rngI m) - wo (S.eraseIdx i) ((bst S m).eraseIdx i)
def gainM (S : List (List Int)) (m i : Nat) (said : List Int) : Int := val (S.getD i []) ((bst (S.set i said) m).getD i none) - (dueM (S.set i said) m).getD i 0
theorem dueM_at {S : List (List Int)} {m i : Nat} (h : i < S.length) : (dueM S m)[i]? = some (V (S.eraseIdx i) (rngI m) - wo (S.eraseIdx i) ((bst S m).eraseIdx i)) := by
  unfold dueM
  rw [List.getElem?_map, List.getElem?_range h]
  rfl
theorem dueM_len (S : List (List Int)) (m : Nat) : (dueM S m).length = S.length := by unfold dueM; rw [List.length_map, List.length_range]
theorem gainM_eq {S : List (List Int)} {m i : Nat} {said : List Int} (hi : i < S.length) : gainM S m i said = wo S (bst (S.set i said) m) - V (S.eraseIdx i) (rngI m) := by
  have h1 := wo_erase S (bst (S.set i said) m) i (by rw [bst_len, List.length_set]) hi
  have h2 := dueM_at (S := S.set i said) (m := m) (i := i) (by rw [List.length_set]; exact hi)
  unfold gainM
  rw [List.getD_eq_getElem?_getD (l := dueM _ _), h2, List.eraseIdx_set_eq]
  show _ - (_ - _) = _
  omega
theorem set_own (S : List (List Int)) (i : Nat) (hi : i < S.length) : S.set i (S.getD i []) = S := by
  rw [List.getD_eq_getElem?_getD, List.getElem?_eq_getElem hi]
  exact List.set_getElem_self hi
theorem gain_true {S : List (List Int)} {m i : Nat} (hi : i < S.length) : gainM S m i (S.getD i []) = mostM S m - V (S.eraseIdx i) (rngI m) := by
  rw [gainM_eq hi, set_own S i hi, bst_wo]
theorem gain_lie {S : List (List Int)} {m i : Nat} (said : List Int) (hi : i < S.length) : gainM S m i said ≤ mostM S m - V (S.eraseIdx i) (rngI m) := by
  rw [gainM_eq hi]
  have h1 := giv_le (giv_len_only (S' := S) (bst_giv (S.set i said) m) (by rw [List.length_set]))
  unfold V at h1
  show _ ≤ (bestF S (rngI m)).1 - _
  omega
theorem gain_nn {S : List (List Int)} {m i : Nat} (hi : i < S.length) : 0 ≤ gainM S m i (S.getD i []) := by
  rw [gain_true hi]
  have := V_erase_le S (nodup_rngI m) hi
  show 0 ≤ V S (rngI m) - _
  omega
theorem best_at {x : Int → Int} {fr : List Int} : ∀ {rs : List (List Int)} {os : List (Option Int)} {i : Nat}, Best x fr rs os → os.length = rs.length → i < rs.length → gn (rs.getD i []) x (os.getD i none) = uu (rs.getD i []) x fr
  | r :: rs, o :: os, 0, h, _, _ => h.1
  | r :: rs, o :: os, i + 1, h, hl, hi => by
    rw [List.getD_cons_succ, List.getD_cons_succ]
    exact best_at (rs := rs) (os := os) h.2 (by simpa using hl) (by simpa using hi)
theorem sx_lf {xs : List Int} {m : Nat} (h : xs.length = m) : sx (lf xs) (rngI m) = xs.sum := by
  unfold sx rngI
  rw [List.map_map]
  congr 1
  refine List.ext_getElem? fun i => ?_
  rw [List.getElem?_map]
  by_cases q : i < m
  · rw [List.getElem?_range q, List.getElem?_eq_getElem (by omega)]
    show some (xs.getD (Int.toNat (i : Int)) 0) = _
    rw [Int.toNat_natCast, List.getD_eq_getElem?_getD, List.getElem?_eq_getElem (by omega)]
    rfl
  · rw [List.getElem?_eq_none (by rw [List.length_range]; omega), List.getElem?_eq_none (by omega)]
    rfl
section
variable {S : List (List Int)} {m i : Nat}
theorem V_less (h : ∀ r ∈ S, r.length = m) (hi : i < S.length) : V (S.eraseIdx i) (rngI m) = mostM S m - uu (S.getD i []) (lf (leastM S m)) (rngI m) :=
  crux (nodup_rngI m) (fun x => su_erase x (rngI m) S i hi) (least_opt h) fun x hx => least_le h hx
/-- the price of what is given, 0 for None -/
def priceOf (p : List Int) : Option Int → Int
  | none => 0
  | some u => lf p u
theorem due_is (h : ∀ r ∈ S, r.length = m) (hi : i < S.length) : (dueM S m).getD i 0 = priceOf (leastM S m) ((bst S m).getD i none) := by
  have h1 := V_less h hi
  have h2 := wo_erase S (bst S m) i (bst_len S m) hi
  have h3 := bst_wo S m
  have h4 := best_at (bst_fair S m (least_opt h)).1 (bst_len S m) hi
  rw [List.getD_eq_getElem?_getD (l := dueM _ _), dueM_at hi]
  show V (S.eraseIdx i) (rngI m) - _ = _
  cases q : (bst S m).getD i none with
  | none =>
    rw [q] at h2 h4
    simp only [val, gn, priceOf] at *
    omega
  | some u =>
    rw [q] at h2 h4
    simp only [val, gn, priceOf] at *
    omega
theorem gain_uu (h : ∀ r ∈ S, r.length = m) (hi : i < S.length) : gainM S m i (S.getD i []) = uu (S.getD i []) (lf (leastM S m)) (rngI m) := by
  rw [gain_true hi, V_less h hi]
  omega
theorem all_is (h : ∀ r ∈ S, r.length = m) : su S (lf (leastM S m)) (rngI m) + (leastM S m).sum = mostM S m := by
  have h1 := (least_opt h).eq
  rw [← sx_lf (leastM_len S m)]
  exact h1
theorem su_take (x : Int → Int) (fr : List Int) (hi : i < S.length) : su (S.take (i + 1)) x fr = su (S.take i) x fr + uu (S.getD i []) x fr := by
  unfold su
  rw [List.take_add_one, List.getElem?_eq_getElem hi, List.map_append, List.sum_append, List.getD_eq_getElem?_getD, List.getElem?_eq_getElem hi]
  simp
end
end Bid

namespace Bid
theorem sum_perm {a b : List Int} (p : a.Perm b) : a.sum = b.sum := by
  induction p with
  | nil => rfl
  | cons x _ ih => rw [List.sum_cons, List.sum_cons, ih]
  | swap x y l => simp only [List.sum_cons]; omega
  | trans _ _ h1 h2 => exact h1.trans h2
/-- ns: the numbers 0 .. m - 1, in some order -/
abbrev Pm (ns : List Int) (m : Nat) : Prop := ns.Perm (rngI m)
section
variable {ns : List Int} {m : Nat}
theorem Pm.len (h : Pm ns m) : ns.length = m := by rw [h.length_eq, rngI_len]
theorem Pm.nd (h : Pm ns m) : ns.Nodup := h.nodup_iff.mpr (nodup_rngI m)
theorem Pm.mem (h : Pm ns m) {k : Int} (hk : k ∈ rngI m) : k ∈ ns := h.mem_iff.mpr hk
theorem Pm.lt (h : Pm ns m) {k : Int} (hk : k ∈ rngI m) : ns.idxOf k < m := by
  have := List.idxOf_lt_length_of_mem (h.mem hk)
  rw [h.len] at this
  exact this
theorem Pm.ix (h : Pm ns m) {k : Int} (hk : k ∈ rngI m) : ((ns.idxOf k : Nat) : Int) ∈ rngI m := mem_rngI.mpr ⟨by omega, by have := h.lt hk; omega⟩
theorem Pm.back (h : Pm ns m) {k : Int} (hk : k ∈ rngI m) : ns.getD (ns.idxOf k) 0 = k := by
  have hl : ns.idxOf k < ns.length := List.idxOf_lt_length_of_mem (h.mem hk)
  rw [List.getD_eq_getElem?_getD, List.getElem?_eq_getElem hl]
  exact List.getElem_idxOf hl
theorem Pm.at_ (h : Pm ns m) {i : Nat} (hi : i < m) : ns.getD i 0 ∈ rngI m ∧ ns.idxOf (ns.getD i 0) = i := by
  have hl : i < ns.length := by rw [h.len]; exact hi
  rw [List.getD_eq_getElem?_getD, List.getElem?_eq_getElem hl]
  exact ⟨h.mem_iff.mp (List.getElem_mem hl), h.nd.idxOf_getElem i hl⟩
/-- what stands behind each number, in the order of the numbers, is a rearrangement -/
theorem Pm.perm (h : Pm ns m) {α : Type} (z : α) {xs : List α} (hx : xs.length = m) : ((rngI m).map fun k => xs.getD (ns.idxOf k) z).Perm xs := by
  have e : ns.map (fun k => xs.getD (ns.idxOf k) z) = xs := by
    refine List.ext_getElem (by rw [List.length_map, h.len, hx]) fun i h1 h2 => ?_
    rw [List.getElem_map]
    have hl : i < ns.length := by rw [List.length_map] at h1; exact h1
    rw [h.nd.idxOf_getElem i hl, List.getD_eq_getElem?_getD, List.getElem?_eq_getElem h2]
    rfl
  have := (h.map fun k => xs.getD (ns.idxOf k) z).symm
  rw [e] at this
  exact this
theorem Pm.zip (h : Pm ns m) {α : Type} (z : α) {xs : List α} (hx : xs.length = m) : ((rngI m).map fun k => (k, xs.getD (ns.idxOf k) z)).Perm (ns.zip xs) := by
  have e : ns.map (fun k => (k, xs.getD (ns.idxOf k) z)) = ns.zip xs := by
    refine List.ext_getElem (by rw [List.length_map, List.length_zip, h.len, hx, Nat.min_self]) fun i h1 h2 => ?_
    rw [List.getElem_map, List.getElem_zip]
    have hl : i < ns.length := by rw [List.length_map] at h1; exact h1
    have hl2 : i < xs.length := by rw [hx, ← h.len]; exact hl
    rw [h.nd.idxOf_getElem i hl, List.getD_eq_getElem?_getD, List.getElem?_eq_getElem hl2]
    rfl
  rw [← e]
  exact (h.map _).symm
end
theorem rngI_inc : ∀ m, (rngI m).Pairwise (· < ·)
  | 0 => List.Pairwise.nil
  | m + 1 => by
    rw [rngI_succ, List.pairwise_append]
    exact ⟨rngI_inc m, List.pairwise_singleton _ _, fun a ha b hb => by
      rw [List.mem_singleton] at hb
      have := mem_rngI.mp ha
      omega⟩
def permR (ms : List Int) (m : Nat) (r : List Int) : List Int := (rngI m).map fun k => r.getD (ms.idxOf k) 0
def permS (ns : List Int) (g : Nat) (S : List (List Int)) : List (List Int) := (rngI g).map fun k => S.getD (ns.idxOf k) []
/-- a sale with other numbers -/
def renM (ns ms : List Int) (g m : Nat) (S : List (List Int)) : List (List Int) := (permS ns g S).map (permR ms m)
section
variable {ns ms : List Int} {g m : Nat} {S : List (List Int)} {x y : Int → Int}
theorem permR_len (ms : List Int) (m : Nat) (r : List Int) : (permR ms m r).length = m := by unfold permR; rw [List.length_map, rngI_len]
theorem rv_permR {r : List Int} {t : Int} (ht : t ∈ rngI m) : rv (permR ms m r) t = rv r ((ms.idxOf t : Nat) : Int) := by
  have h1 := mem_rngI.mp ht
  have e : (rngI m)[t.toNat]? = some t := by
    unfold rngI
    rw [List.getElem?_map, List.getElem?_range (by omega)]
    show some ((t.toNat : Nat) : Int) = some t
    rw [Int.toNat_of_nonneg h1.1]
  show (permR ms m r).getD t.toNat 0 = r.getD (Int.toNat ((ms.idxOf t : Nat) : Int)) 0
  unfold permR
  rw [List.getD_eq_getElem?_getD, List.getElem?_map, e, Int.toNat_natCast]
  rfl
/-- prices with other numbers -/
abbrev reP (ms : List Int) (x : Int → Int) : Int → Int := fun k => x ((ms.idxOf k : Nat) : Int)
abbrev baP (ms : List Int) (y : Int → Int) : Int → Int := fun j => y (ms.getD j.toNat 0)
theorem re_ba (hm : Pm ms m) {t : Int} (ht : t ∈ rngI m) : reP ms (baP ms y) t = y t := by
  show y (ms.getD (Int.toNat ((ms.idxOf t : Nat) : Int)) 0) = y t
  rw [Int.toNat_natCast, hm.back ht]
theorem uu_ren (hm : Pm ms m) (r : List Int) : uu (permR ms m r) (reP ms x) (rngI m) = uu r x (rngI m) := by
  apply Int.le_antisymm
  · refine uu_le (uu_nn _ _ _) fun t ht => ?_
    rw [rv_permR ht]
    exact uu_ge (hm.ix ht)
  · refine uu_le (uu_nn _ _ _) fun t ht => ?_
    have h1 := mem_rngI.mp ht
    obtain ⟨h2, h3⟩ := hm.at_ (i := t.toNat) (by omega)
    have h4 := uu_ge (r := permR ms m r) (x := reP ms x) h2
    rw [rv_permR h2] at h4
    have h5 : reP ms x (ms.getD t.toNat 0) = x t := by
      show x ((ms.idxOf (ms.getD t.toNat 0) : Nat) : Int) = x t
      rw [h3, Int.toNat_of_nonneg h1.1]
    rw [h5, h3, Int.toNat_of_nonneg h1.1] at h4
    exact h4
theorem sx_ren (hm : Pm ms m) : sx (reP ms x) (rngI m) = sx x (rngI m) := by
  unfold sx
  have h := hm.perm 0 (xs := (rngI m).map x) (by rw [List.length_map, rngI_len])
  rw [← sum_perm h]
  congr 1
  refine List.map_congr_left fun t ht => ?_
  have hl := hm.lt ht
  show x ((ms.idxOf t : Nat) : Int) = _
  unfold rngI
  rw [List.getD_eq_getElem?_getD, List.getElem?_map, List.getElem?_map, List.getElem?_range hl]
  rfl
theorem su_ren (hn : Pm ns g) (hm : Pm ms m) (hS : S.length = g) : su (renM ns ms g m S) (reP ms x) (rngI m) = su S x (rngI m) := by
  unfold su renM
  rw [List.map_map]
  have e : ((fun r => uu r (reP ms x) (rngI m)) ∘ permR ms m) = fun r => uu r x (rngI m) := funext fun r => uu_ren hm r
  rw [e]
  exact sum_perm ((hn.perm [] hS).map _)
theorem DD_ren (hn : Pm ns g) (hm : Pm ms m) (hS : S.length = g) : DD (renM ns ms g m S) (reP ms x) (rngI m) = DD S x (rngI m) := by
  unfold DD
  rw [su_ren hn hm hS, sx_ren hm]
theorem reP_nn (hm : Pm ms m) (h : Nn x (rngI m)) : Nn (reP ms x) (rngI m) := fun t ht => h _ (hm.ix ht)
theorem baP_nn (hm : Pm ms m) (h : Nn y (rngI m)) : Nn (baP ms y) (rngI m) := fun t ht => h _ (hm.at_ (by have := mem_rngI.mp ht; omega)).1
theorem DD_ba (hn : Pm ns g) (hm : Pm ms m) (hS : S.length = g) : DD S (baP ms y) (rngI m) = DD (renM ns ms g m S) y (rngI m) := by
  rw [← DD_ren hn hm hS]
  exact DD_congr fun t ht => re_ba hm ht
theorem V_ren (hn : Pm ns g) (hm : Pm ms m) (hS : S.length = g) : V (renM ns ms g m S) (rngI m) = V S (rngI m) := by
  apply Int.le_antisymm
  · obtain ⟨x, hx⟩ := strong S (rngI m) (nodup_rngI m)
    have := weak (renM ns ms g m S) _ _ (reP_nn hm hx.nn)
    rw [DD_ren hn hm hS, hx.eq] at this
    exact this
  · obtain ⟨y, hy⟩ := strong (renM ns ms g m S) (rngI m) (nodup_rngI m)
    have := weak S _ _ (baP_nn hm hy.nn)
    rw [DD_ba hn hm hS, hy.eq] at this
    exact this
theorem opt_ren (hn : Pm ns g) (hm : Pm ms m) (hS : S.length = g) (h : Opt S (rngI m) x) : Opt (renM ns ms g m S) (rngI m) (reP ms x) := ⟨reP_nn hm h.nn, by rw [DD_ren hn hm hS, V_ren hn hm hS]; exact h.le⟩
theorem opt_ba (hn : Pm ns g) (hm : Pm ms m) (hS : S.length = g) (h : Opt (renM ns ms g m S) (rngI m) y) : Opt S (rngI m) (baP ms y) := ⟨baP_nn hm h.nn, by rw [DD_ba hn hm hS, ← V_ren hn hm hS]; exact h.le⟩
theorem renM_row : ∀ r ∈ renM ns ms g m S, r.length = m := fun r hr => by
  unfold renM at hr
  obtain ⟨q, _, rfl⟩ := List.mem_map.mp hr
  exact permR_len ms m q
theorem renM_len (ns ms : List Int) (g m : Nat) (S : List (List Int)) : (renM ns ms g m S).length = g := by unfold renM permS; rw [List.length_map, List.length_map, rngI_len]
theorem renM_sz (h : Sz S g m) : Sz (renM ns ms g m S) g m := ⟨renM_len .., h.g1, h.g6, h.m1, h.m7, renM_row⟩
theorem lf_ext {p q : List Int} (hp : p.length = m) (hq : q.length = m) (h : ∀ t ∈ rngI m, lf p t = lf q t) : p = q := by
  refine List.ext_getElem (hp.trans hq.symm) fun i h1 h2 => ?_
  have := h (i : Int) (mem_rngI.mpr ⟨by omega, by omega⟩)
  have e : ∀ {l : List Int} (hl : i < l.length), lf l (i : Int) = l[i] := fun {l} hl => by
    show l.getD (Int.toNat (i : Int)) 0 = l[i]
    rw [Int.toNat_natCast, List.getD_eq_getElem?_getD, List.getElem?_eq_getElem hl]
    rfl
  rw [e h1, e h2] at this
  exact this
theorem lf_permR {p : List Int} {t : Int} (ht : t ∈ rngI m) : lf (permR ms m p) t = reP ms (lf p) t := rv_permR (r := p) ht
theorem ba_re (hm : Pm ms m) {t : Int} (ht : t ∈ rngI m) : baP ms y ((ms.idxOf t : Nat) : Int) = y t := re_ba hm ht
theorem least_ren (hn : Pm ns g) (hm : Pm ms m) (h : Sz S g m) : leastM (renM ns ms g m S) m = permR ms m (leastM S m) := by
  refine lf_ext (leastM_len _ _) (permR_len ..) fun t ht => ?_
  rw [lf_permR ht]
  have h1 := least_le (m := m) renM_row (opt_ren hn hm h.len (least_opt h.row)) t ht
  have h2 := least_le h.row (opt_ba hn hm h.len (least_opt (S := renM ns ms g m S) renM_row)) _ (hm.ix ht)
  rw [ba_re hm ht] at h2
  exact Int.le_antisymm h1 h2
theorem great_ren (hn : Pm ns g) (hm : Pm ms m) (h : Sz S g m) : greatM (renM ns ms g m S) m = permR ms m (greatM S m) := by
  refine lf_ext (greatM_len _ _) (permR_len ..) fun t ht => ?_
  rw [lf_permR ht]
  have h1 := great_ge (opt_ren hn hm h.len (great_opt (S := S) (m := m))) t ht
  have h2 := great_ge (opt_ba hn hm h.len (great_opt (S := renM ns ms g m S) (m := m))) _ (hm.ix ht)
  rw [ba_re hm ht] at h2
  exact Int.le_antisymm h2 h1
/-- a giving with the old numbers -/
def oldG (ns ms : List Int) (os : List (Option Int)) : List (Option Int) := ns.map fun k => (os.getD k.toNat none).map fun t => ((ms.idxOf t : Nat) : Int)
theorem perm_at {α : Type} (z : α) {xs : List α} (h : xs.length = g) : (rngI g).map (fun k => xs.getD k.toNat z) = xs := by
  unfold rngI
  rw [List.map_map]
  refine List.ext_getElem (by rw [List.length_map, List.length_range, h]) fun i h1 h2 => ?_
  rw [List.getElem_map, List.getElem_range]
  show xs.getD (Int.toNat (i : Int)) z = xs[i]
  rw [Int.toNat_natCast, List.getD_eq_getElem?_getD, List.getElem?_eq_getElem h2]
  rfl
theorem old_perm (hn : Pm ns g) {os : List (Option Int)} (ho : os.length = g) : (oldG ns ms os).Perm (os.map fun o => o.map fun t => ((ms.idxOf t : Nat) : Int)) := by
  have := hn.map fun k => (os.getD k.toNat none).map fun t => ((ms.idxOf t : Nat) : Int)
  refine this.trans (List.Perm.of_eq ?_)
  have e := perm_at none ho
  conv => rhs; rw [← e]
  rw [List.map_map]
  rfl
theorem wo_sum : ∀ (S : List (List Int)) (os : List (Option Int)), ((S.zip os).map fun a => val a.1 a.2).sum = wo S os
  | [], _ => by rw [wo] <;> first | rfl | (intros; contradiction)
  | _ :: _, [] => by rw [wo] <;> first | rfl | (intros; contradiction)
  | r :: S, none :: os => by
    rw [List.zip_cons_cons, List.map_cons, List.sum_cons, wo_sum S os]
    show 0 + wo S os = wo S os
    omega
  | r :: S, some t :: os => by
    rw [List.zip_cons_cons, List.map_cons, List.sum_cons, wo_sum S os]
    rfl
abbrev oix (ms : List Int) (o : Option Int) : Option Int := o.map fun t => ((ms.idxOf t : Nat) : Int)
theorem val_ren {r : List Int} {o : Option Int} (h : ∀ t, o = some t → t ∈ rngI m) : val (permR ms m r) o = val r (oix ms o) := by
  cases o with
  | none => rfl
  | some t => exact rv_permR (h t rfl)
theorem zip_map2 {α β γ : Type} (f : γ → α) (h : γ → β) : ∀ l : List γ, (l.map f).zip (l.map h) = l.map fun k => (f k, h k)
  | [] => rfl
  | k :: l => by rw [List.map_cons, List.map_cons, List.zip_cons_cons, zip_map2 f h l, List.map_cons]
theorem wo_old (hn : Pm ns g) (hS : S.length = g) {os : List (Option Int)} (ho : os.length = g) (hi : ∀ t, some t ∈ os → t ∈ rngI m) : wo S (oldG ns ms os) = wo (renM ns ms g m S) os := by
  rw [← wo_sum, ← wo_sum]
  have e1 : S = ns.map fun k => S.getD (ns.idxOf k) [] := by
    refine List.ext_getElem (by rw [List.length_map, hn.len, hS]) fun i h1 h2 => ?_
    rw [List.getElem_map]
    have hl : i < ns.length := by rw [hn.len, ← hS]; exact h1
    rw [hn.nd.idxOf_getElem i hl, List.getD_eq_getElem?_getD, List.getElem?_eq_getElem h1]
    rfl
  have e2 : (S.zip (oldG ns ms os)).map (fun a => val a.1 a.2) = ns.map fun k => val (S.getD (ns.idxOf k) []) (oix ms (os.getD k.toNat none)) := by
    conv => lhs; arg 2; arg 1; rw [e1]
    unfold oldG
    rw [zip_map2, List.map_map]
    rfl
  have e3 : ((renM ns ms g m S).zip os).map (fun a => val a.1 a.2) = (rngI g).map fun k => val (S.getD (ns.idxOf k) []) (oix ms (os.getD k.toNat none)) := by
    have e4 := perm_at none ho
    conv => lhs; arg 2; arg 2; rw [← e4]
    unfold renM permS
    rw [List.map_map, zip_map2, List.map_map]
    refine List.map_congr_left fun k hk => ?_
    show val (permR ms m (S.getD (ns.idxOf k) [])) (os.getD k.toNat none) = _
    refine val_ren fun t ht => hi t ?_
    have h1 := mem_rngI.mp hk
    have hl : k.toNat < os.length := by omega
    rw [List.getD_eq_getElem?_getD, List.getElem?_eq_getElem hl] at ht
    exact (show os[k.toNat] = some t from ht) ▸ List.getElem_mem hl
  rw [e2, e3]
  exact sum_perm (hn.map _)
theorem fm_map (f : Int → Int) : ∀ os : List (Option Int), (os.map fun o => o.map f).filterMap id = (os.filterMap id).map f
  | [] => rfl
  | none :: os => fm_map f os
  | some t :: os => by
    show f t :: (os.map fun o => o.map f).filterMap id = f t :: (os.filterMap id).map f
    rw [fm_map f os]
theorem giv_old (hn : Pm ns g) (hm : Pm ms m) (hS : S.length = g) {os : List (Option Int)} (go : Giv (renM ns ms g m S) os (rngI m)) : Giv S (oldG ns ms os) (rngI m) := by
  have hol : os.length = g := by rw [giv_len go, renM_len]
  have hp := old_perm (ms := ms) hn hol
  refine giv_of (by unfold oldG; rw [List.length_map, hn.len, hS]) (fun t ht => ?_) ?_
  · have := hp.mem_iff.mp ht
    obtain ⟨o, h1, h2⟩ := List.mem_map.mp this
    cases o with
    | none => cases h2
    | some u =>
      cases h2
      exact hm.ix (giv_mem go h1)
  · refine (hp.filterMap id).nodup_iff.mpr ?_
    rw [fm_map]
    have nd := giv_nodup go
    refine List.pairwise_map.mpr (nd.imp_of_mem fun {a b} ha hb hab e => hab ?_)
    have h1 : a ∈ rngI m := giv_mem go (by obtain ⟨o, h3, h4⟩ := List.mem_filterMap.mp ha; cases h4; exact h3)
    have h2 : b ∈ rngI m := giv_mem go (by obtain ⟨o, h3, h4⟩ := List.mem_filterMap.mp hb; cases h4; exact h3)
    rw [← hm.back h1, ← hm.back h2, Int.ofNat.inj e]
theorem old_fair (hn : Pm ns g) (hm : Pm ms m) (hS : S.length = g) (h : Opt S (rngI m) x) : Fair S (oldG ns ms (bst (renM ns ms g m S) m)) (rngI m) x := by
  have go := bst_giv (renM ns ms g m S) m
  refine fair_of_opt (giv_old hn hm hS go) (nodup_rngI m) ?_ h
  rw [wo_old hn hS (by rw [giv_len go, renM_len]) fun t ht => giv_mem go ht, bst_wo]
  exact V_ren hn hm hS
end
end Bid

namespace Bid
/-- who holds what: thing, guest -/
abbrev Hs := List (Int × Int)
abbrev Wn := List (List Int)
abbrev wt (W : Wn) (g : Int) : List Int := W.getD g.toNat []
def loopM (rec : Int → Hs → List Int → Bool × Hs × List Int) (g : Int) : List Int → Hs → List Int → Bool × Hs × List Int
  | [], h, s => (false, h, s)
  | t :: ts, h, s =>
    if t ∈ s then loopM rec g ts h s
    else match valD h t with
      | none => (true, putD h t g, s ++ [t])
      | some g' => if (rec g' h (s ++ [t])).1 = true then (true, putD (rec g' h (s ++ [t])).2.1 t g, (rec g' h (s ++ [t])).2.2) else loopM rec g ts (rec g' h (s ++ [t])).2.1 (rec g' h (s ++ [t])).2.2
def seatM (W : Wn) : Nat → Int → Hs → List Int → Bool × Hs × List Int
  | 0, g, h, s => loopM (fun _ h s => (false, h, s)) g (wt W g) h s
  | n + 1, g, h, s => loopM (seatM W n) g (wt W g) h s
structure HsOk (W : Wn) (m : Nat) (h : Hs) : Prop where
  nd : (h.map (·.1)).Nodup
  key : ∀ p ∈ h, p.1 ∈ rngI m
  val : ∀ p ∈ h, 0 ≤ p.2 ∧ p.2 < W.length
structure SnOk (m n : Nat) (s : List Int) : Prop where
  nd : s.Nodup
  key : ∀ t ∈ s, t ∈ rngI m
  len : m ≤ s.length + n
theorem SnOk.le {m n : Nat} {s : List Int} (h : SnOk m n s) : s.length ≤ m := by
  have := List.Nodup.length_le_of_subset h.nd (fun t ht => h.key t ht)
  rw [rngI_len] at this
  exact this
theorem SnOk.snoc {m n : Nat} {s : List Int} {t : Int} (h : SnOk m (n + 1) s) (ht : t ∈ rngI m) (hn : t ∉ s) : SnOk m n (s ++ [t]) := ⟨by
  rw [List.nodup_append]
  exact ⟨h.nd, by simp, fun a ha b hb e => by rw [List.mem_singleton] at hb; subst hb; subst e; exact hn ha⟩, fun u hu => by
  rcases List.mem_append.mp hu with q | q
  · exact h.key u q
  · rw [List.mem_singleton.mp q]; exact ht, by have := h.len; rw [List.length_append]; show m ≤ s.length + 1 + n; omega⟩
theorem SnOk.full {m : Nat} {s : List Int} {t : Int} (h : SnOk m 0 s) (ht : t ∈ rngI m) : t ∈ s := by
  refine Classical.byContradiction fun hn => ?_
  have h1 : SnOk m 0 (s ++ [t]) := SnOk.snoc ⟨h.nd, h.key, by have := h.len; omega⟩ ht hn
  have h2 := h1.le
  have h3 := h.len
  rw [List.length_append] at h2
  have h4 : [t].length = 1 := rfl
  omega
theorem HsOk.put {W : Wn} {m : Nat} {h : Hs} {t g : Int} (k : HsOk W m h) (ht : t ∈ rngI m) (hg : 0 ≤ g ∧ g < W.length) : HsOk W m (putD h t g) := by
  refine ⟨?_, fun p hp => ?_, fun p hp => ?_⟩
  · unfold putD
    split
    · rw [List.map_map]
      have : ((fun p : Int × Int => p.1) ∘ fun kv : Int × Int => if kv.1 = t then (kv.1, g) else kv) = fun p => p.1 := funext fun p => by
        show (if p.1 = t then (p.1, g) else p).1 = p.1
        split <;> rfl
      rw [this]
      exact k.nd
    · rename_i hn
      rw [List.map_append, List.nodup_append]
      refine ⟨k.nd, by simp, fun a ha b hb e => ?_⟩
      have hb : b = t := List.mem_singleton.mp hb
      subst hb
      subst e
      obtain ⟨p, hp, e⟩ := List.mem_map.mp ha
      apply hn
      unfold valD
      rw [Option.isSome_map, List.find?_isSome]
      exact ⟨p, hp, decide_eq_true e⟩
  · rcases mem_putD hp with q | q
    · exact k.key p q
    · rw [q]; exact ht
  · rcases mem_putD hp with q | q
    · exact k.val p q
    · rw [q]; exact hg
theorem HsOk.len {W : Wn} {m : Nat} {h : Hs} (k : HsOk W m h) : h.length ≤ m := by
  have := List.Nodup.length_le_of_subset k.nd (l₂ := rngI m) fun t ht => by
    obtain ⟨p, hp, e⟩ := List.mem_map.mp ht
    rw [← e]
    exact k.key p hp
  rw [List.length_map, rngI_len] at this
  exact this
theorem HsOk.at_ {W : Wn} {m : Nat} {h : Hs} {t g : Int} (k : HsOk W m h) (e : valD h t = some g) : t ∈ rngI m ∧ 0 ≤ g ∧ g < W.length := ⟨k.key _ (valD_mem e), k.val _ (valD_mem e)⟩
/-- before a guest is seated -/
structure Pre (W : Wn) (m n : Nat) (g : Int) (h : Hs) (s : List Int) : Prop where
  hs : HsOk W m h
  sn : SnOk m n s
  gr : 0 ≤ g ∧ g < W.length
  inj : ∀ t t' g', valD h t = some g' → valD h t' = some g' → t = t'
  fit : ∀ t g', valD h t = some g' → t ∈ wt W g'
  own : ∀ t, valD h t = some g → t ∈ s
structure Post (W : Wn) (m n : Nat) (g : Int) (ts : List Int) (h : Hs) (s : List Int) (r : Bool × Hs × List Int) : Prop where
  hs : HsOk W m r.2.1
  sn : SnOk m n r.2.2
  sub : ∀ t ∈ s, t ∈ r.2.2
  no : r.1 = false → r.2.1 = h ∧ (∀ t ∈ ts, t ∈ r.2.2) ∧ ∀ t ∈ r.2.2, t ∉ s → ∃ g', valD h t = some g' ∧ ∀ t' ∈ wt W g', t' ∈ r.2.2
  fit : r.1 = true → ∀ t g', valD r.2.1 t = some g' → t ∈ wt W g'
  keep : r.1 = true → ∀ t ∈ s, valD r.2.1 t = valD h t
  new : r.1 = true → ∃ t1, t1 ∉ s ∧ valD r.2.1 t1 = some g ∧ ∀ t, valD r.2.1 t = some g → t = t1 ∨ valD h t = some g
  inj : r.1 = true → ∀ g', g' ≠ g → ∀ t t', valD r.2.1 t = some g' → valD r.2.1 t' = some g' → t = t'
  same : r.1 = true → ∀ g', g' ≠ g → ((∃ t, valD r.2.1 t = some g') ↔ ∃ t, valD h t = some g')
theorem loop_post {W : Wn} {m n : Nat} {rec : Int → Hs → List Int → Bool × Hs × List Int} (hr : ∀ t g h s, t ∈ rngI m → t ∉ s → SnOk m n s → Pre W m n g h (s ++ [t]) ∨ True → (SnOk m n s → ∃ n', n = n' + 1 ∧ (Pre W m n' g h (s ++ [t]) → Post W m n' g (wt W g) h (s ++ [t]) (rec g h (s ++ [t]))))) {g : Int} :
    ∀ (ts : List Int) (h : Hs) (s : List Int), (∀ t ∈ ts, t ∈ rngI m ∧ t ∈ wt W g) → Pre W m n g h s → Post W m n g ts h s (loopM rec g ts h s) := by
  intro ts
  induction ts with
  | nil =>
    intro h s _ p
    unfold loopM
    exact ⟨p.hs, p.sn, fun _ h => h, fun _ => ⟨rfl, (fun t ht => nomatch ht), fun t ht hn => absurd ht hn⟩, (fun e => nomatch e), (fun e => nomatch e), (fun e => nomatch e), (fun e => nomatch e), (fun e => nomatch e)⟩
  | cons t ts ih =>
    intro h s hts p
    obtain ⟨htm, htw⟩ := hts t (List.mem_cons_self ..)
    have hts' := fun u hu => hts u (List.mem_cons_of_mem _ hu)
    unfold loopM
    by_cases hin : t ∈ s
    · rw [if_pos hin]
      have q := ih h s hts' p
      refine ⟨q.hs, q.sn, q.sub, fun e => ?_, q.fit, q.keep, q.new, q.inj, q.same⟩
      obtain ⟨a, b, c⟩ := q.no e
      refine ⟨a, fun u hu => ?_, c⟩
      rcases List.mem_cons.mp hu with e | hu
      · subst e; exact q.sub _ hin
      · exact b u hu
    · rw [if_neg hin]
      obtain ⟨n', hn, hrec⟩ : ∃ n', n = n' + 1 ∧ ∀ g2, Pre W m n' g2 h (s ++ [t]) → Post W m n' g2 (wt W g2) h (s ++ [t]) (rec g2 h (s ++ [t])) := by
        obtain ⟨n', e, _⟩ := hr t g h s htm hin p.sn (.inr trivial) p.sn
        refine ⟨n', e, fun g2 => ?_⟩
        obtain ⟨n2, e2, q⟩ := hr t g2 h s htm hin p.sn (.inr trivial) p.sn
        have : n2 = n' := by omega
        subst this
        exact q
      subst hn
      have sn1 := p.sn.snoc htm hin
      have sn1' : SnOk m (n' + 1) (s ++ [t]) := ⟨sn1.nd, sn1.key, by have := sn1.len; omega⟩
      have hsub : ∀ u ∈ s, u ∈ s ++ [t] := fun u hu => List.mem_append_left _ hu
      have hne : ∀ u ∈ s, u ≠ t := fun u hu e => hin (e ▸ hu)
      cases hv : valD h t with
      | none =>
        have hput : ∀ u, valD (putD h t g) u = if u = t then some g else valD h u := fun u => valD_put h t u g
        refine ⟨p.hs.put htm p.gr, sn1', hsub, (fun e => nomatch e), fun _ u g' hu => ?_, fun _ u hu => ?_, fun _ => ⟨t, hin, ?_, fun u hu => ?_⟩, fun _ g' hg u u' h1 h2 => ?_, fun _ g' hg => ⟨fun ⟨u, hu⟩ => ?_, fun ⟨u, hu⟩ => ⟨u, ?_⟩⟩⟩
        · rw [show (true, putD h t g, s ++ [t]).2.1 = putD h t g from rfl, hput] at hu
          by_cases e : u = t
          · rw [if_pos e] at hu
            cases hu
            rw [e]
            exact htw
          · rw [if_neg e] at hu
            exact p.fit u g' hu
        · show valD (putD h t g) u = _
          rw [hput, if_neg (hne u hu)]
        · show valD (putD h t g) t = _
          rw [hput, if_pos rfl]
        · have hu : valD (putD h t g) u = some g := hu
          rw [hput] at hu
          by_cases e : u = t
          · exact .inl e
          · rw [if_neg e] at hu
            exact .inr hu
        · have h1 : valD (putD h t g) u = some g' := h1
          have h2 : valD (putD h t g) u' = some g' := h2
          rw [hput] at h1 h2
          by_cases e : u = t
          · rw [if_pos e] at h1
            cases h1
            exact absurd rfl hg
          · by_cases e' : u' = t
            · rw [if_pos e'] at h2
              cases h2
              exact absurd rfl hg
            · rw [if_neg e] at h1
              rw [if_neg e'] at h2
              exact p.inj u u' g' h1 h2
        · have hu : valD (putD h t g) u = some g' := hu
          rw [hput] at hu
          by_cases e : u = t
          · rw [if_pos e] at hu
            cases hu
            exact absurd rfl hg
          · rw [if_neg e] at hu
            exact ⟨u, hu⟩
        · show valD (putD h t g) u = some g'
          rw [hput, if_neg fun e => ?_]
          · exact hu
          · subst e
            rw [hv] at hu
            cases hu
      | some g2 =>
        have hg2 : g2 ≠ g := fun e => hin (p.own t (e ▸ hv))
        have pre2 : Pre W m n' g2 h (s ++ [t]) := ⟨p.hs, sn1, (p.hs.at_ hv).2, p.inj, p.fit, fun u hu => by
          rw [p.inj u t g2 hu hv]
          exact List.mem_append_right _ (List.mem_singleton.mpr rfl)⟩
        have q := hrec g2 pre2
        show Post W m (n' + 1) g (t :: ts) h s (if (rec g2 h (s ++ [t])).1 = true then _ else _)
        generalize rec g2 h (s ++ [t]) = r at q ⊢
        have sn2 : SnOk m (n' + 1) r.2.2 := ⟨q.sn.nd, q.sn.key, by have := q.sn.len; omega⟩
        by_cases hb : r.1 = true
        · rw [if_pos hb]
          obtain ⟨t1, n1, v1, u1⟩ := q.new hb
          have hput : ∀ u, valD (putD r.2.1 t g) u = if u = t then some g else valD r.2.1 u := fun u => valD_put r.2.1 t u g
          have htt : valD r.2.1 t = some g2 := by rw [q.keep hb t (List.mem_append_right _ (List.mem_singleton.mpr rfl)), hv]
          have ht1 : t1 ≠ t := fun e => n1 (e ▸ List.mem_append_right _ (List.mem_singleton.mpr rfl))
          refine ⟨q.hs.put htm p.gr, sn2, fun u hu => q.sub u (hsub u hu), (fun e => nomatch e), fun _ u g' hu => ?_, fun _ u hu => ?_, fun _ => ⟨t, hin, ?_, fun u hu => ?_⟩, fun _ g' hg u u' h1 h2 => ?_, fun _ g' hg => ⟨fun ⟨u, hu⟩ => ?_, fun ⟨u, hu⟩ => ?_⟩⟩
          · have hu : valD (putD r.2.1 t g) u = some g' := hu
            rw [hput] at hu
            by_cases e : u = t
            · rw [if_pos e] at hu
              cases hu
              rw [e]
              exact htw
            · rw [if_neg e] at hu
              exact q.fit hb u g' hu
          · show valD (putD r.2.1 t g) u = _
            rw [hput, if_neg (hne u hu)]
            exact q.keep hb u (hsub u hu)
          · show valD (putD r.2.1 t g) t = _
            rw [hput, if_pos rfl]
          · have hu : valD (putD r.2.1 t g) u = some g := hu
            rw [hput] at hu
            by_cases e : u = t
            · exact .inl e
            · rw [if_neg e] at hu
              obtain ⟨x0, hx0⟩ := (q.same hb g (Ne.symm hg2)).mp ⟨u, hu⟩
              have k0 : valD r.2.1 x0 = some g := by rw [q.keep hb x0 (hsub x0 (p.own x0 hx0)), hx0]
              rw [q.inj hb g (Ne.symm hg2) u x0 hu k0]
              exact .inr hx0
          · have h1 : valD (putD r.2.1 t g) u = some g' := h1
            have h2 : valD (putD r.2.1 t g) u' = some g' := h2
            rw [hput] at h1 h2
            by_cases e : u = t
            · rw [if_pos e] at h1
              cases h1
              exact absurd rfl hg
            · by_cases e' : u' = t
              · rw [if_pos e'] at h2
                cases h2
                exact absurd rfl hg
              · rw [if_neg e] at h1
                rw [if_neg e'] at h2
                by_cases e2 : g' = g2
                · subst e2
                  have a : ∀ x, x ≠ t → valD r.2.1 x = some g' → x = t1 := fun x hx hv' => by
                    rcases u1 x hv' with z | z
                    · exact z
                    · exact absurd (p.inj x t g' z hv) hx
                  rw [a u e h1, a u' e' h2]
                · exact q.inj hb g' e2 u u' h1 h2
          · have hu : valD (putD r.2.1 t g) u = some g' := hu
            rw [hput] at hu
            by_cases e : u = t
            · rw [if_pos e] at hu
              cases hu
              exact absurd rfl hg
            · rw [if_neg e] at hu
              by_cases e2 : g' = g2
              · subst e2; exact ⟨t, hv⟩
              · exact (q.same hb g' e2).mp ⟨u, hu⟩
          · by_cases e2 : g' = g2
            · subst e2
              refine ⟨t1, ?_⟩
              show valD (putD r.2.1 t g) t1 = _
              rw [hput, if_neg ht1]
              exact v1
            · obtain ⟨x0, hx0⟩ := (q.same hb g' e2).mpr ⟨u, hu⟩
              refine ⟨x0, ?_⟩
              show valD (putD r.2.1 t g) x0 = _
              rw [hput, if_neg fun e => ?_]
              · exact hx0
              · subst e
                rw [htt] at hx0
                cases hx0
                exact absurd rfl e2
        · rw [if_neg hb]
          have hb' : r.1 = false := by simpa using hb
          obtain ⟨a, b, c⟩ := q.no hb'
          rw [a]
          have p2 : Pre W m (n' + 1) g h r.2.2 := ⟨p.hs, sn2, p.gr, p.inj, p.fit, fun u hu => q.sub u (hsub u (p.own u hu))⟩
          have q2 := ih h r.2.2 hts' p2
          have sub2 : ∀ u ∈ s, u ∈ r.2.2 := fun u hu => q.sub u (hsub u hu)
          refine ⟨q2.hs, q2.sn, fun u hu => q2.sub u (sub2 u hu), fun e => ?_, q2.fit, fun e u hu => q2.keep e u (sub2 u hu), fun e => ?_, q2.inj, q2.same⟩
          · obtain ⟨a2, b2, c2⟩ := q2.no e
            refine ⟨a2, fun u hu => ?_, fun u hu hn => ?_⟩
            · rcases List.mem_cons.mp hu with e | hu
              · subst e
                exact q2.sub _ (q.sub _ (List.mem_append_right _ (List.mem_singleton.mpr rfl)))
              · exact b2 u hu
            · by_cases h1 : u ∈ r.2.2
              · by_cases h2 : u = t
                · subst h2
                  exact ⟨g2, hv, fun t' ht' => q2.sub _ (b t' ht')⟩
                · obtain ⟨g3, h3, h4⟩ := c u h1 fun z => by
                    rcases List.mem_append.mp z with z | z
                    · exact hn z
                    · exact h2 (List.mem_singleton.mp z)
                  exact ⟨g3, h3, fun t' ht' => q2.sub _ (h4 t' ht')⟩
              · exact c2 u hu h1
          · obtain ⟨t1, n1, v1, u1⟩ := q2.new e
            exact ⟨t1, fun z => n1 (sub2 _ z), v1, u1⟩
theorem seat_post {W : Wn} {m : Nat} (hW : ∀ g, ∀ t ∈ wt W g, t ∈ rngI m) : ∀ (n : Nat) (g : Int) (h : Hs) (s : List Int), Pre W m n g h s → Post W m n g (wt W g) h s (seatM W n g h s)
  | 0, g, h, s, p => by
    unfold seatM
    refine loop_post (fun t g h s ht hn hs _ _ => ?_) _ h s (fun t ht => ⟨hW g t ht, ht⟩) p
    exact absurd (hs.full ht) hn
  | n + 1, g, h, s, p => by
    unfold seatM
    exact loop_post (fun t g h s ht hn hs _ _ => ⟨n, rfl, fun q => seat_post hW n g h (s ++ [t]) q⟩) _ h s (fun t ht => ⟨hW g t ht, ht⟩) p
end Bid

namespace Bid
theorem mem_valD {h : Hs} (nd : (h.map (·.1)).Nodup) {t g : Int} (hm : (t, g) ∈ h) : valD h t = some g := by
  induction h with
  | nil => cases hm
  | cons p h ih =>
    rw [List.map_cons, List.nodup_cons] at nd
    by_cases e : p.1 = t
    · rw [valD_pos e]
      rcases List.mem_cons.mp hm with q | q
      · rw [← q]
      · exact absurd (List.mem_map.mpr ⟨_, q, rfl⟩) (e ▸ nd.1)
    · rw [valD_neg e]
      rcases List.mem_cons.mp hm with q | q
      · exact absurd (by rw [← q]) e
      · exact ih nd.2 q
def tryM (W : Wn) : List Int → Hs → Hs × Option (List Int)
  | [], h => (h, none)
  | g :: gs, h => if (wt W g).isEmpty = true then tryM W gs h
    else if (seatM W 7 g h []).1 = true then tryM W gs (seatM W 7 g h []).2.1 else ((seatM W 7 g h []).2.1, some (seatM W 7 g h []).2.2)
def triedM (W : Wn) : Hs × Option (List Int) := tryM W (rngI W.length) []
structure Mat (W : Wn) (m : Nat) (P : Int → Prop) (h : Hs) : Prop where
  hs : HsOk W m h
  inj : ∀ t t' g', valD h t = some g' → valD h t' = some g' → t = t'
  fit : ∀ t g', valD h t = some g' → t ∈ wt W g'
  who : ∀ g', (∃ t, valD h t = some g') ↔ P g' ∧ wt W g' ≠ []
structure Crw (W : Wn) (m : Nat) (s : List Int) : Prop where
  nd : s.Nodup
  key : ∀ t ∈ s, t ∈ rngI m
  more : s.length < ((rngI W.length).filter fun g => !(wt W g).isEmpty && (wt W g).all fun t => s.contains t).length
theorem try_spec {W : Wn} {m : Nat} (hW : ∀ g, ∀ t ∈ wt W g, t ∈ rngI m) (hm : m ≤ 7) : ∀ (gs : List Int) (P : Int → Prop) (h : Hs), gs.Nodup → (∀ g ∈ gs, ¬ P g ∧ g ∈ rngI W.length) → Mat W m P h →
    (∃ h', tryM W gs h = (h', none) ∧ Mat W m (fun g => P g ∨ g ∈ gs) h') ∨ ∃ h' s, tryM W gs h = (h', some s) ∧ HsOk W m h' ∧ Crw W m s
  | [], P, h, _, _, M => .inl ⟨h, rfl, ⟨M.hs, M.inj, M.fit, fun g' => by rw [M.who g']; simp⟩⟩
  | g :: gs, P, h, nd, hg, M => by
    rw [List.nodup_cons] at nd
    obtain ⟨g0, g1⟩ := hg g (List.mem_cons_self ..)
    have hgr := mem_rngI.mp g1
    have hne : ∀ g' ∈ gs, g' ≠ g := fun g' hg' e => nd.1 (e ▸ hg')
    have hgs : ∀ g' ∈ gs, ¬ (P g' ∨ g' = g) ∧ g' ∈ rngI W.length := fun g' hg' => ⟨fun z => by
      rcases z with z | z
      · exact (hg g' (List.mem_cons_of_mem _ hg')).1 z
      · exact hne g' hg' z, (hg g' (List.mem_cons_of_mem _ hg')).2⟩
    have fin : ∀ h', Mat W m (fun g' => (P g' ∨ g' = g) ∨ g' ∈ gs) h' → Mat W m (fun g' => P g' ∨ g' ∈ g :: gs) h' := fun h' q => ⟨q.hs, q.inj, q.fit, fun g' => by rw [q.who g', List.mem_cons, or_assoc]⟩
    have lift : ∀ h, Mat W m (fun g' => P g' ∨ g' = g) h → (∃ h', tryM W gs h = (h', none) ∧ Mat W m (fun g' => P g' ∨ g' ∈ g :: gs) h') ∨ ∃ h' s, tryM W gs h = (h', some s) ∧ HsOk W m h' ∧ Crw W m s := fun h q => by
      rcases try_spec hW hm gs _ h nd.2 hgs q with ⟨h', e, q'⟩ | r
      · exact .inl ⟨h', e, fin h' q'⟩
      · exact .inr r
    unfold tryM
    by_cases he : (wt W g).isEmpty = true
    · rw [if_pos he]
      refine lift h ⟨M.hs, M.inj, M.fit, fun g' => ?_⟩
      rw [M.who g']
      constructor
      · exact fun ⟨a, b⟩ => ⟨.inl a, b⟩
      · rintro ⟨a | a, b⟩
        · exact ⟨a, b⟩
        · subst a
          exact absurd (List.isEmpty_iff.mp he) b
    · rw [if_neg he]
      have hne' : wt W g ≠ [] := fun z => he (List.isEmpty_iff.mpr z)
      have pre : Pre W m 7 g h [] := ⟨M.hs, ⟨List.nodup_nil, (fun t ht => nomatch ht), by show m ≤ 0 + 7; omega⟩, by omega, M.inj, M.fit, fun t ht => absurd ((M.who g).mp ⟨t, ht⟩).1 g0⟩
      have q := seat_post hW 7 g h [] pre
      generalize seatM W 7 g h [] = r at q ⊢
      by_cases hb : r.1 = true
      · rw [if_pos hb]
        obtain ⟨t1, _, v1, u1⟩ := q.new hb
        have hno : ∀ t, valD h t ≠ some g := fun t ht => g0 ((M.who g).mp ⟨t, ht⟩).1
        refine lift r.2.1 ⟨q.hs, fun t t' g' h1 h2 => ?_, q.fit hb, fun g' => ?_⟩
        · by_cases e : g' = g
          · subst e
            have a : ∀ x, valD r.2.1 x = some g' → x = t1 := fun x hx => (u1 x hx).resolve_right (hno x)
            rw [a t h1, a t' h2]
          · exact q.inj hb g' e t t' h1 h2
        · by_cases e : g' = g
          · subst e
            exact ⟨fun _ => ⟨.inr rfl, hne'⟩, fun _ => ⟨t1, v1⟩⟩
          · rw [q.same hb g' e, M.who g']
            constructor
            · exact fun ⟨a, b⟩ => ⟨.inl a, b⟩
            · rintro ⟨a | a, b⟩
              · exact ⟨a, b⟩
              · exact absurd a e
      · rw [if_neg hb]
        have hb' : r.1 = false := by simpa using hb
        obtain ⟨a, b, c⟩ := q.no hb'
        refine .inr ⟨_, _, rfl, q.hs, q.sn.nd, q.sn.key, ?_⟩
        have hc : ∀ t ∈ r.2.2, ∃ g', valD h t = some g' ∧ ∀ t' ∈ wt W g', t' ∈ r.2.2 := fun t ht => c t ht (fun z => nomatch z)
        have hlen : (r.2.2.map (fun t => (valD h t).getD 0) ++ [g]).length ≤ ((rngI W.length).filter fun g => !(wt W g).isEmpty && (wt W g).all fun t => r.2.2.contains t).length := by
          refine List.Nodup.length_le_of_subset ?_ fun x hx => ?_
          · rw [List.nodup_append]
            refine ⟨?_, by simp, fun x hx y hy e => ?_⟩
            · refine List.pairwise_map.mpr (q.sn.nd.imp_of_mem fun {x y} hx hy hxy e => hxy ?_)
              obtain ⟨gx, vx, _⟩ := hc x hx
              obtain ⟨gy, vy, _⟩ := hc y hy
              rw [vx, vy] at e
              have e : gx = gy := e
              subst e
              exact M.inj x y gx vx vy
            · rw [List.mem_singleton] at hy
              subst hy
              subst e
              obtain ⟨t, ht, e⟩ := List.mem_map.mp hx
              obtain ⟨gx, vx, _⟩ := hc t ht
              rw [vx] at e
              have e : gx = x := e
              subst e
              exact g0 ((M.who gx).mp ⟨t, vx⟩).1
          · have key : ∀ g', g' ∈ rngI W.length → wt W g' ≠ [] → (∀ t' ∈ wt W g', t' ∈ r.2.2) → g' ∈ (rngI W.length).filter fun g => !(wt W g).isEmpty && (wt W g).all fun t => r.2.2.contains t := fun g' h1 h2 h3 => by
              rw [List.mem_filter]
              refine ⟨h1, ?_⟩
              rw [Bool.and_eq_true, List.all_eq_true]
              refine ⟨by simpa using h2, fun t ht => by simpa using h3 t ht⟩
            rcases List.mem_append.mp hx with hx | hx
            · obtain ⟨t, ht, e⟩ := List.mem_map.mp hx
              obtain ⟨gx, vx, wx⟩ := hc t ht
              rw [vx] at e
              have e : gx = x := e
              subst e
              obtain ⟨_, k1, k2⟩ := M.hs.at_ vx
              exact key gx (mem_rngI.mpr ⟨k1, k2⟩) ((M.who gx).mp ⟨t, vx⟩).2 wx
            · rw [List.mem_singleton.mp hx]
              exact key g g1 hne' b
        rw [List.length_append, List.length_map] at hlen
        have h1 : [g].length = 1 := rfl
        omega
/-- a giving of what is wanted -/
structure Srv (W : Wn) (os : List (Option Int)) : Prop where
  len : os.length = W.length
  nd : (os.filterMap id).Nodup
  non : ∀ g ∈ rngI W.length, os.getD g.toNat none = none → wt W g = []
  some_ : ∀ g ∈ rngI W.length, ∀ t, os.getD g.toNat none = some t → t ∈ wt W g
def hostM (n : Nat) (h : Hs) : List (Option Int) := h.foldl (fun os p => os.set p.2.toNat (some p.1)) (List.replicate n none)
theorem host_len (n : Nat) (h : Hs) : (hostM n h).length = n := by
  unfold hostM
  have : ∀ (h : Hs) (os : List (Option Int)), (h.foldl (fun os p => os.set p.2.toNat (some p.1)) os).length = os.length := by
    intro h
    induction h with
    | nil => intro os; rfl
    | cons p h ih => intro os; rw [List.foldl_cons, ih, List.length_set]
  rw [this, List.length_replicate]
theorem host_at {n : Nat} : ∀ (h : Hs) (os : List (Option Int)), os.length = n → (∀ p ∈ h, 0 ≤ p.2 ∧ p.2 < n) → (h.map (·.2)).Nodup → ∀ g : Int, 0 ≤ g → g < n → ∀ t : Int,
    ((h.foldl (fun os p => os.set p.2.toNat (some p.1)) os).getD g.toNat none = some t ↔ (t, g) ∈ h ∨ ((∀ t', (t', g) ∉ h) ∧ os.getD g.toNat none = some t))
  | [], os, _, _, _, g, _, _, t => by simp
  | p :: h, os, hl, hv, nd, g, g0, g1, t => by
    rw [List.map_cons, List.nodup_cons] at nd
    obtain ⟨p0, p1⟩ := hv p (List.mem_cons_self ..)
    rw [List.foldl_cons, host_at h _ (by rw [List.length_set]; exact hl) (fun q hq => hv q (List.mem_cons_of_mem _ hq)) nd.2 g g0 g1 t]
    by_cases e : p.2 = g
    · have hn : ∀ t', (t', g) ∉ h := fun t' ht => nd.1 (List.mem_map.mpr ⟨_, ht, e.symm⟩)
      have hs : (os.set p.2.toNat (some p.1)).getD g.toNat none = some p.1 := by
        rw [e, List.getD_eq_getElem?_getD, List.getElem?_set_self (by omega)]
        rfl
      rw [hs]
      constructor
      · rintro (q | ⟨_, q⟩)
        · exact absurd q (hn t)
        · exact .inl (List.mem_cons.mpr (.inl (Prod.ext (Option.some.inj q).symm e.symm)))
      · rintro (q | ⟨q, _⟩)
        · rcases List.mem_cons.mp q with q | q
          · exact .inr ⟨hn, by rw [← q]⟩
          · exact .inl q
        · exact absurd (show (p.1, g) ∈ p :: h from List.mem_cons.mpr (.inl (Prod.ext rfl e.symm))) (q p.1)
    · have hs : (os.set p.2.toNat (some p.1)).getD g.toNat none = os.getD g.toNat none := by
        rw [List.getD_eq_getElem?_getD, List.getElem?_set_ne (by omega), List.getD_eq_getElem?_getD]
      rw [hs]
      have hm : ∀ t', (t', g) ∈ p :: h ↔ (t', g) ∈ h := fun t' => by
        rw [List.mem_cons]
        constructor
        · rintro (q | q)
          · exact absurd (by rw [← q]) e
          · exact q
        · exact .inr
      rw [hm t]
      simp only [hm]
theorem mat_snd {W : Wn} {m : Nat} {P : Int → Prop} {h : Hs} (M : Mat W m P h) : (h.map (·.2)).Nodup := by
  have h1 := List.pairwise_map.mp M.hs.nd
  refine List.pairwise_map.mpr (h1.imp_of_mem fun {p q} hp hq hpq e => hpq ?_)
  have v1 := mem_valD M.hs.nd (t := p.1) (g := p.2) hp
  have v2 := mem_valD M.hs.nd (t := q.1) (g := q.2) hq
  rw [e] at v1
  exact M.inj _ _ _ v1 v2
theorem host_iff {W : Wn} {m : Nat} {P : Int → Prop} {h : Hs} (M : Mat W m P h) {g t : Int} (hg : g ∈ rngI W.length) : (hostM W.length h).getD g.toNat none = some t ↔ valD h t = some g := by
  have h1 := mem_rngI.mp hg
  unfold hostM
  rw [host_at h _ (List.length_replicate ..) M.hs.val (mat_snd M) g h1.1 h1.2 t]
  constructor
  · rintro (q | ⟨_, q⟩)
    · exact mem_valD M.hs.nd q
    · rw [List.getD_eq_getElem?_getD, List.getElem?_replicate] at q
      split at q <;> cases q
  · exact fun q => .inl (valD_mem q)
/-- what is given, by places -/
theorem fm_nodup {os : List (Option Int)} (h : ∀ (i j : Nat) (t : Int), os[i]? = some (some t) → os[j]? = some (some t) → i = j) : (os.filterMap id).Nodup := by
  induction os with
  | nil => exact List.nodup_nil
  | cons o os ih =>
    have h' := ih fun i j t h1 h2 => by
      have := h (i + 1) (j + 1) t (by simpa using h1) (by simpa using h2)
      omega
    cases o with
    | none => exact h'
    | some t =>
      show (t :: os.filterMap id).Nodup
      rw [List.nodup_cons]
      refine ⟨fun hm => ?_, h'⟩
      obtain ⟨o, ho, e⟩ := List.mem_filterMap.mp hm
      have e : o = some t := e
      subst e
      obtain ⟨j, hj⟩ := List.mem_iff_getElem?.mp ho
      have := h 0 (j + 1) t rfl (by simpa using hj)
      omega
theorem fm_inj : ∀ {os : List (Option Int)}, (os.filterMap id).Nodup → ∀ (i j : Nat) (t : Int), os[i]? = some (some t) → os[j]? = some (some t) → i = j
  | [], _, i, _, _, h, _ => by simp at h
  | o :: os, nd, i, j, t, h1, h2 => by
    have nd' : (os.filterMap id).Nodup := by
      cases o with
      | none => exact nd
      | some u => exact (List.nodup_cons.mp nd).2
    have no : ∀ k, o = some t → os[k]? ≠ some (some t) := fun k e hk => by
      subst e
      exact (List.nodup_cons.mp nd).1 (List.mem_filterMap.mpr ⟨some t, List.mem_of_getElem? hk, rfl⟩)
    cases i with
    | zero =>
      cases j with
      | zero => rfl
      | succ j => exact absurd (by simpa using h2) (no j (by simpa using h1))
    | succ i =>
      cases j with
      | zero => exact absurd (by simpa using h1) (no i (by simpa using h2))
      | succ j => rw [fm_inj nd' i j t (by simpa using h1) (by simpa using h2)]
theorem getD_some {os : List (Option Int)} {i : Nat} {t : Int} (h : os.getD i none = some t) : os[i]? = some (some t) := by
  rw [List.getD_eq_getElem?_getD] at h
  cases q : os[i]? with
  | none => rw [q] at h; cases h
  | some o => rw [q] at h; exact congrArg some h
theorem some_getD {os : List (Option Int)} {i : Nat} {t : Int} (h : os[i]? = some (some t)) : os.getD i none = some t ∧ i < os.length := by
  rw [List.getD_eq_getElem?_getD, h]
  exact ⟨rfl, (List.getElem?_eq_some_iff.mp h).1⟩
theorem mat_srv {W : Wn} {m : Nat} {h : Hs} (M : Mat W m (fun g => g ∈ rngI W.length) h) : Srv W (hostM W.length h) := by
  have hl := host_len W.length h
  have toI : ∀ {i : Nat}, i < W.length → ((i : Int) ∈ rngI W.length) := fun hi => mem_rngI.mpr ⟨by omega, by omega⟩
  refine ⟨hl, fm_nodup fun i j t h1 h2 => ?_, fun g hg hn => ?_, fun g hg t ht => M.fit t g ((host_iff M hg).mp ht)⟩
  · obtain ⟨a1, a2⟩ := some_getD h1
    obtain ⟨b1, b2⟩ := some_getD h2
    have c1 := (host_iff M (g := (i : Int)) (t := t) (toI (by omega))).mp (by rw [Int.toNat_natCast]; exact a1)
    have c2 := (host_iff M (g := (j : Int)) (t := t) (toI (by omega))).mp (by rw [Int.toNat_natCast]; exact b1)
    rw [c1] at c2
    exact Int.ofNat.inj (Option.some.inj c2)
  · refine Classical.byContradiction fun hw => ?_
    obtain ⟨t, ht⟩ := (M.who g).mpr ⟨hg, hw⟩
    rw [(host_iff M hg).mpr ht] at hn
    cases hn
/-- where each gets something that it wants there is no crowd -/
theorem no_crowd {W : Wn} {m : Nat} {os : List (Option Int)} {s : List Int} (nd : (os.filterMap id).Nodup) (h : ∀ g ∈ rngI W.length, wt W g ≠ [] → ∃ t ∈ wt W g, os.getD g.toNat none = some t) (c : Crw W m s) : False := by
  have hlen : (((rngI W.length).filter fun g => !(wt W g).isEmpty && (wt W g).all fun t => s.contains t).map fun g => (os.getD g.toNat none).getD 0).length ≤ s.length := by
    have hf : ∀ g ∈ (rngI W.length).filter fun g => !(wt W g).isEmpty && (wt W g).all fun t => s.contains t, ∃ t, os.getD g.toNat none = some t ∧ t ∈ s ∧ 0 ≤ g := fun g hg => by
      rw [List.mem_filter, Bool.and_eq_true, List.all_eq_true] at hg
      obtain ⟨t, ht, e⟩ := h g hg.1 (by simpa using hg.2.1)
      exact ⟨t, e, by simpa using hg.2.2 t ht, (mem_rngI.mp hg.1).1⟩
    refine List.Nodup.length_le_of_subset ?_ fun t ht => ?_
    · refine List.pairwise_map.mpr (((nodup_rngI W.length).filter _).imp_of_mem fun {x y} hx hy hxy e => hxy ?_)
      obtain ⟨a, ea, _, x0⟩ := hf x hx
      obtain ⟨b, eb, _, y0⟩ := hf y hy
      rw [ea, eb] at e
      have e : a = b := e
      subst e
      have := fm_inj nd _ _ a (getD_some ea) (getD_some eb)
      omega
    · obtain ⟨g, hg, e⟩ := List.mem_map.mp ht
      obtain ⟨a, ea, hs, _⟩ := hf g hg
      rw [ea] at e
      have e : a = t := e
      exact e ▸ hs
  rw [List.length_map] at hlen
  have := c.more
  omega
/-- all are served, or there is a crowd -/
theorem tried_spec {W : Wn} {m : Nat} (hW : ∀ g, ∀ t ∈ wt W g, t ∈ rngI m) (hm : m ≤ 7) : HsOk W m (triedM W).1 ∧ (((triedM W).2 = none ∧ Srv W (hostM W.length (triedM W).1)) ∨ ∃ s, (triedM W).2 = some s ∧ Crw W m s) := by
  have h0 : Mat W m (fun _ => False) [] := ⟨⟨List.nodup_nil, (fun _ h => nomatch h), (fun _ h => nomatch h)⟩, (fun t t' g' h => by cases h), (fun t g' h => by cases h), fun g' => ⟨(fun ⟨t, h⟩ => by cases h), fun h => h.1.elim⟩⟩
  unfold triedM
  rcases try_spec hW hm (rngI W.length) (fun _ => False) [] (nodup_rngI _) (fun g hg => ⟨fun h => h, hg⟩) h0 with ⟨h', e, M⟩ | ⟨h', s, e, k, c⟩
  · rw [e]
    have M' : Mat W m (fun g => g ∈ rngI W.length) h' := ⟨M.hs, M.inj, M.fit, fun g' => by rw [M.who g']; simp⟩
    exact ⟨M.hs, .inl ⟨rfl, mat_srv M'⟩⟩
  · rw [e]
    exact ⟨k, .inr ⟨s, rfl, c⟩⟩
end Bid

namespace Bid
open PySem PySem.Spec PyProof.Rows L2
def top (i : Nat) : Stmt := PySem.Challenge.pw_truebid_k03_whole_read.main.body.getD i (.Pass ⟨0, 0, 0, 0⟩)
abbrev s_is_number : Stmt := top 8
abbrev n_is_number : List Str := ["thing", "high"]
abbrev p_is_number : List Str := ["thing", "high"]
theorem sc_is_number : FnScope n_is_number p_is_number (defScope s_is_number) := ⟨rfl, rfl, rfl, by decide +kernel, rfl, by decide +kernel, by decide +kernel⟩
abbrev F_is_number (K : Frg) (f : Addr) (fd : FuncData) : Prop := FunD K "is_number" "is_number" (defArgs s_is_number) (defBody s_is_number) (defScope s_is_number) [] [] f fd
abbrev s_is_row : Stmt := top 9
abbrev n_is_row : List Str := ["thing", "many", "part"]
abbrev p_is_row : List Str := ["thing", "many"]
theorem sc_is_row : FnScope n_is_row p_is_row (defScope s_is_row) := ⟨rfl, rfl, rfl, by decide +kernel, rfl, by decide +kernel, by decide +kernel⟩
abbrev F_is_row (K : Frg) (f : Addr) (fd : FuncData) : Prop := FunD K "is_row" "is_row" (defArgs s_is_row) (defBody s_is_row) (defScope s_is_row) [] [] f fd
abbrev s_is_sale : Stmt := top 10
abbrev n_is_sale : List Str := ["thing", "many", "row"]
abbrev p_is_sale : List Str := ["thing"]
theorem sc_is_sale : FnScope n_is_sale p_is_sale (defScope s_is_sale) := ⟨rfl, rfl, rfl, by decide +kernel, rfl, by decide +kernel, by decide +kernel⟩
abbrev F_is_sale (K : Frg) (f : Addr) (fd : FuncData) : Prop := FunD K "is_sale" "is_sale" (defArgs s_is_sale) (defBody s_is_sale) (defScope s_is_sale) [] [] f fd
abbrev s_text_of : Stmt := top 12
abbrev n_text_of : List Str := ["sale", "bid", "row"]
abbrev p_text_of : List Str := ["sale"]
theorem sc_text_of : FnScope n_text_of p_text_of (defScope s_text_of) := ⟨rfl, rfl, rfl, by decide +kernel, rfl, by decide +kernel, by decide +kernel⟩
abbrev F_text_of (K : Frg) (f : Addr) (fd : FuncData) : Prop := FunD K "text_of" "text_of" (defArgs s_text_of) (defBody s_text_of) (defScope s_text_of) [] [] f fd
abbrev s_bid_of : Stmt := top 15
abbrev n_bid_of : List Str := ["word", "sign"]
abbrev p_bid_of : List Str := ["word"]
theorem sc_bid_of : FnScope n_bid_of p_bid_of (defScope s_bid_of) := ⟨rfl, rfl, rfl, by decide +kernel, rfl, by decide +kernel, by decide +kernel⟩
abbrev F_bid_of (K : Frg) (f : Addr) (fd : FuncData) : Prop := FunD K "bid_of" "bid_of" (defArgs s_bid_of) (defBody s_bid_of) (defScope s_bid_of) [] [] f fd
abbrev s_read : Stmt := top 16
abbrev n_read : List Str := ["text", "found", "word", "part"]
abbrev p_read : List Str := ["text"]
theorem sc_read : FnScope n_read p_read (defScope s_read) := ⟨rfl, rfl, rfl, by decide +kernel, rfl, by decide +kernel, by decide +kernel⟩
abbrev F_read (K : Frg) (f : Addr) (fd : FuncData) : Prop := FunD K "read" "read" (defArgs s_read) (defBody s_read) (defScope s_read) [] [] f fd
abbrev s_l_cell_at : Stmt := top 18
abbrev n_l_cell_at : List Str := ["_law_script", "_law_k"]
abbrev p_l_cell_at : List Str := ["_law_script", "_law_k"]
theorem sc_l_cell_at : FnScope n_l_cell_at p_l_cell_at (defScope s_l_cell_at) := ⟨rfl, rfl, rfl, by decide +kernel, rfl, by decide +kernel, by decide +kernel⟩
abbrev F_l_cell_at (K : Frg) (f : Addr) (fd : FuncData) : Prop := FunD K "_law_cell_at" "_law_cell_at" (defArgs s_l_cell_at) (defBody s_l_cell_at) (defScope s_l_cell_at) [] [] f fd
abbrev s_l_mixed : Stmt := top 19
abbrev n_l_mixed : List Str := ["_law_script", "_law_k", "_law_drawn_here"]
abbrev p_l_mixed : List Str := ["_law_script", "_law_k"]
theorem sc_l_mixed : FnScope n_l_mixed p_l_mixed (defScope s_l_mixed) := ⟨rfl, rfl, rfl, by decide +kernel, rfl, by decide +kernel, by decide +kernel⟩
abbrev F_l_mixed (K : Frg) (f : Addr) (fd : FuncData) : Prop := FunD K "_law_mixed" "_law_mixed" (defArgs s_l_mixed) (defBody s_l_mixed) (defScope s_l_mixed) [] [] f fd
abbrev s_l_drawn : Stmt := top 20
abbrev n_l_drawn : List Str := ["_law_number_here", "_law_k", "_law_drawn_here"]
abbrev p_l_drawn : List Str := ["_law_number_here", "_law_k"]
theorem sc_l_drawn : FnScope n_l_drawn p_l_drawn (defScope s_l_drawn) := ⟨rfl, rfl, rfl, by decide +kernel, rfl, by decide +kernel, by decide +kernel⟩
abbrev F_l_drawn (K : Frg) (f : Addr) (fd : FuncData) : Prop := FunD K "_law_drawn" "_law_drawn" (defArgs s_l_drawn) (defBody s_l_drawn) (defScope s_l_drawn) [] [] f fd
abbrev s_l_number : Stmt := top 21
abbrev n_l_number : List Str := ["_law_thing", "_law_low", "_law_high"]
abbrev p_l_number : List Str := ["_law_thing", "_law_low", "_law_high"]
theorem sc_l_number : FnScope n_l_number p_l_number (defScope s_l_number) := ⟨rfl, rfl, rfl, by decide +kernel, rfl, by decide +kernel, by decide +kernel⟩
abbrev F_l_number (K : Frg) (f : Addr) (fd : FuncData) : Prop := FunD K "_law_number" "_law_number" (defArgs s_l_number) (defBody s_l_number) (defScope s_l_number) [] [] f fd
abbrev s_l_sale : Stmt := top 22
abbrev n_l_sale : List Str := ["_law_number_here", "_law_guests", "_law_things", "_law_high", "_law_rows", "_law_guest", "_law_drawn_here", "_law_thing"]
abbrev p_l_sale : List Str := ["_law_number_here", "_law_guests", "_law_things"]
theorem sc_l_sale : FnScope n_l_sale p_l_sale (defScope s_l_sale) := ⟨rfl, rfl, rfl, by decide +kernel, rfl, by decide +kernel, by decide +kernel⟩
abbrev F_l_sale (K : Frg) (f : Addr) (fd : FuncData) : Prop := FunD K "_law_sale" "_law_sale" (defArgs s_l_sale) (defBody s_l_sale) (defScope s_l_sale) [] [] f fd
abbrev s_l_is_sale : Stmt := top 23
abbrev n_l_is_sale : List Str := ["_law_thing", "_law_sizes", "_law_row", "_law_bid"]
abbrev p_l_is_sale : List Str := ["_law_thing"]
theorem sc_l_is_sale : FnScope n_l_is_sale p_l_is_sale (defScope s_l_is_sale) := ⟨rfl, rfl, rfl, by decide +kernel, rfl, by decide +kernel, by decide +kernel⟩
abbrev F_l_is_sale (K : Frg) (f : Addr) (fd : FuncData) : Prop := FunD K "_law_is_sale" "_law_is_sale" (defArgs s_l_is_sale) (defBody s_l_is_sale) (defScope s_l_is_sale) [] [] f fd
abbrev s_l_written : Stmt := top 24
abbrev n_l_written : List Str := ["_law_sale_here", "_law_found_here", "_law_row", "_law_at", "_law_bid"]
abbrev p_l_written : List Str := ["_law_sale_here"]
theorem sc_l_written : FnScope n_l_written p_l_written (defScope s_l_written) := ⟨rfl, rfl, rfl, by decide +kernel, rfl, by decide +kernel, by decide +kernel⟩
abbrev F_l_written (K : Frg) (f : Addr) (fd : FuncData) : Prop := FunD K "_law_written" "_law_written" (defArgs s_l_written) (defBody s_l_written) (defScope s_l_written) [] [] f fd
abbrev s_l_changed : Stmt := top 25
abbrev n_l_changed : List Str := ["_law_text", "_law_number_here", "_law_words", "_law_at", "_law_place", "_law_kind", "_law_sign", "_law_turned", "_law_some"]
abbrev p_l_changed : List Str := ["_law_text", "_law_number_here"]
theorem sc_l_changed : FnScope n_l_changed p_l_changed (defScope s_l_changed) := ⟨rfl, rfl, rfl, by decide +kernel, rfl, by decide +kernel, by decide +kernel⟩
abbrev F_l_changed (K : Frg) (f : Addr) (fd : FuncData) : Prop := FunD K "_law_changed" "_law_changed" (defArgs s_l_changed) (defBody s_l_changed) (defScope s_l_changed) [] [] f fd
abbrev s_l_due : Stmt := top 26
abbrev n_l_due : List Str := ["_law_text", "_law_found_here", "_law_part", "_law_row", "_law_word", "_law_sign"]
abbrev p_l_due : List Str := ["_law_text"]
theorem sc_l_due : FnScope n_l_due p_l_due (defScope s_l_due) := ⟨rfl, rfl, rfl, by decide +kernel, rfl, by decide +kernel, by decide +kernel⟩
abbrev F_l_due (K : Frg) (f : Addr) (fd : FuncData) : Prop := FunD K "_law_due" "_law_due" (defArgs s_l_due) (defBody s_l_due) (defScope s_l_due) [] [] f fd
abbrev s_l_found : Stmt := top 27
abbrev n_l_found : List Str := ["_law_text", "_law_found_here", "e", "_law_good"]
abbrev p_l_found : List Str := ["_law_text"]
theorem sc_l_found : FnScope n_l_found p_l_found (defScope s_l_found) := ⟨rfl, rfl, rfl, by decide +kernel, rfl, by decide +kernel, by decide +kernel⟩
abbrev F_l_found (K : Frg) (f : Addr) (fd : FuncData) : Prop := FunD K "_law_found" "_law_found" (defArgs s_l_found) (defBody s_l_found) (defScope s_l_found) [] [] f fd
abbrev s_law : Stmt := top 28
abbrev n_law : List Str := ["_law_script", "_law_guests", "_law_things", "_law_sale_here", "_law_text", "_law_number_here", "_law_k", "_law_found_here"]
abbrev p_law : List Str := ["_law_script"]
theorem sc_law : FnScope n_law p_law (defScope s_law) := ⟨rfl, rfl, rfl, by decide +kernel, rfl, by decide +kernel, by decide +kernel⟩
abbrev F_law (K : Frg) (f : Addr) (fd : FuncData) : Prop := FunD K "law" "law" (defArgs s_law) (defBody s_law) (defScope s_law) [] [] f fd
end Bid

namespace Bid
open PySem PySem.Spec PyProof.Rows L2
abbrev lsI (ns : List Int) : D := .list (ns.map .int)
abbrev row (r : List Int) : D := .tuple (r.map .int)
abbrev sal (S : List (List Int)) : D := .tuple (S.map row)
/-- the built-ins' names are free -/
structure Bt (mg : Str → Option Value) : Prop where
  len : mg "len" = none
  range : mg "range" = none
  tuple : mg "tuple" = none
  list : mg "list" = none
  max : mg "max" = none
  min : mg "min" = none
  sum : mg "sum" = none
  all : mg "all" = none
  isinstance : mg "isinstance" = none
  int : mg "int" = none
  bool : mg "bool" = none
  str : mg "str" = none
  set : mg "set" = none
  sorted : mg "sorted" = none
  zip : mg "zip" = none
  enumerate : mg "enumerate" = none
/-- a def of the text that keeps sp, at level k -/
structure Cf (P : Program) (w : World) (K : Frg) (mg : Str → Option Value) (base : Heap) (k : Nat) (x : Str) (sp : Sp) : Prop where
  ex : ∃ (f : Addr) (fd : FuncData) (ps : List Str), FnOk P w K mg base CX0 k f fd ps sp ∧ mg x = some (.ref f) ∧ PySem.W.keepIn K (.ref f) = true ∧ Binds K fd ps []
theorem Cf.cal {P : Program} {w : World} {K : Frg} {mg : Str → Option Value} {base : Heap} {k : Nat} {x : Str} {sp : Sp} {A : Around} (c : Cf P w K mg base k x sp) (hr : Room k A) : Cal P w K mg base A x sp :=
  ⟨let ⟨f, fd, ps, a, b, c, d⟩ := c.ex; ⟨f, fd, k, ps, a, hr, b, c, d⟩⟩
theorem Cf.mono {P : Program} {w : World} {K : Frg} {mg : Str → Option Value} {base : Heap} {k j : Nat} {x : Str} {sp : Sp} (c : Cf P w K mg base j x sp) (h : j ≤ k) : Cf P w K mg base k x sp :=
  ⟨let ⟨f, fd, ps, a, b, c, d⟩ := c.ex; ⟨f, fd, ps, a.mono h, b, c, d⟩⟩
def cellN (ns : List Int) (k : Int) : Int := ns.getD k.toNat 0
def R_cell : List Sl → D → Prop := fun ss r => ∃ (ns : List Int) (k : Int), ss = [.d (lsI ns), .d (.int k)] ∧ 0 ≤ k ∧ r = .int (cellN ns k)
theorem lenP {R : List Sl → D → Prop} {n : Nat} (h : ∀ ss r, R ss r → ss.length = n) : ∀ ss O r O', pureR R ss O r O' → ss.length = n := fun ss _ r _ q => h ss r q.2.2
theorem atI_of {α : Type} {xs : List α} {i : Int} {v : α} (h0 : 0 ≤ i) (h : xs[i.toNat]? = some v) : atI xs i = some v := by
  have e : i = (i.toNat : Int) := (Int.toNat_of_nonneg h0).symm
  rw [e]
  exact atI_nat h
def mixN (ns : List Int) (k : Int) : Int := (((cellN ns k + 7919 * k + 1) * 48271 % 2147483647) * ((cellN ns k + 7919 * k + 1) * 48271 % 2147483647) + 7 * ((cellN ns k + 7919 * k + 1) * 48271 % 2147483647) + k) % 2147483629
def R_mixed : List Sl → D → Prop := fun ss r => ∃ (ns : List Int) (k : Int), ss = [.d (lsI ns), .d (.int k)] ∧ 0 ≤ k ∧ r = .int (mixN ns k)
def drawnN (n : Int) (k : Int) : Int := (((n + 104729 * k + 17) * 69621 % 2147483647) * ((n + 104729 * k + 17) * 69621 % 2147483647) + 3 * ((n + 104729 * k + 17) * 69621 % 2147483647) + k) % 2147483629
def R_drawn : List Sl → D → Prop := fun ss r => ∃ (n k : Int), ss = [.d (.int n), .d (.int k)] ∧ r = .int (drawnN n k)
theorem mixN_nn (ns : List Int) (k : Int) : 0 ≤ mixN ns k := Int.emod_nonneg _ (by decide)
theorem mixN_lt (ns : List Int) (k : Int) : mixN ns k < 2147483629 := Int.emod_lt_of_pos _ (by decide)
theorem drawnN_nn (n k : Int) : 0 ≤ drawnN n k := Int.emod_nonneg _ (by decide)
theorem drawnN_lt (n k : Int) : drawnN n k < 2147483629 := Int.emod_lt_of_pos _ (by decide)
theorem cmul_small {i j : Int} (h0 : 0 ≤ i) (h1 : i < 2147483647) : CMul i j := .inl ⟨by omega, by omega⟩
def highN (n : Int) : Int := if n % 4 = 0 then 2 else if n % 4 = 1 then 4 else if n % 4 = 2 then 12 else 1000001
def saleN (n g t : Int) : List (List Int) := (List.range g.toNat).map fun (i : Nat) => (List.range t.toNat).map fun (j : Nat) => drawnN (drawnN n (i : Int)) (j : Int) / 4 % highN n
def R_sale : List Sl → D → Prop := fun ss r => ∃ (n g t : Int), ss = [.d (.int n), .d (.int g), .d (.int t)] ∧ 0 ≤ n ∧ 0 ≤ g ∧ g ≤ 6 ∧ 0 ≤ t ∧ t ≤ 6 ∧ r = sal (saleN n g t)
theorem highN_pos (n : Int) : 0 < highN n := by unfold highN; split; decide; split; decide; split <;> decide
theorem highN_at (n : Int) (h : 0 ≤ n) : atI ([.int 2, .int 4, .int 12, .int 1000001] : List D) (n % 4) = some (.int (highN n)) := by
  have h1 : 0 ≤ n % 4 := Int.emod_nonneg _ (by decide)
  have h2 : n % 4 < 4 := Int.emod_lt_of_pos _ (by decide)
  unfold highN
  have : n % 4 = 0 ∨ n % 4 = 1 ∨ n % 4 = 2 ∨ n % 4 = 3 := by omega
  rcases this with q | q | q | q <;> rw [q] <;> rfl
theorem setO_one {o : Addr} {c c' : OC} : setO [(o, c)] o c' = [(o, c')] := by
  unfold setO
  rw [List.map_cons, if_pos rfl, List.map_nil]
section
variable {P : Program} {w : World} {K : Frg} {mg : Str → Option Value} {base : Heap} {f : Addr} {fd : FuncData} {k : Nat}
theorem ok_cell (F : F_l_cell_at K f fd) (T : Bt mg) : FnOk P w K mg base CX0 (k + 1) f fd p_l_cell_at (spP P w K R_cell) := by
  refine fn_R F sc_l_cell_at (lenP fun ss r h => by obtain ⟨ns, k, rfl, _⟩ := h; rfl) ?_
  intro cdv A outer s H E G ss O O' r hr hR
  obtain ⟨rfl, rfl, ns, i, rfl, h0, rfl⟩ := hR
  have hN := sc_l_cell_at.nd
  refine ds_cons (ds_if (dt_lt (de_var 1) (de_lenL T.len (de_var 0))) (fun h => ?_) (fun h => ?_))
  · have hl : i < ((ns.map PyData.int).length : Int) := of_decide_eq_true h
    rw [List.length_map] at hl
    refine ds_one (ds_ret (de_ixL (d := .int (cellN ns i)) (atI_of h0 ?_) (de_var 0) (de_var 1)) ⟨rfl, fun _ h => h⟩)
    have hi : i.toNat < ns.length := by omega
    unfold cellN
    rw [List.getElem?_map, List.getD_eq_getElem?_getD, List.getElem?_eq_getElem hi]
    rfl
  · refine ds_nil ?_
    have hl : ¬ i < ((ns.map PyData.int).length : Int) := of_decide_eq_false h
    rw [List.length_map] at hl
    refine ds_one (ds_ret de_int ⟨?_, fun _ h => h⟩)
    unfold cellN
    rw [List.getD_eq_getElem?_getD, List.getElem?_eq_none (by omega)]
    rfl
theorem ok_mixed (F : F_l_mixed K f fd) (T : Bt mg) (c1 : Cf P w K mg base k "_law_cell_at" (spP P w K R_cell)) : FnOk P w K mg base CX0 (k + 1) f fd p_l_mixed (spP P w K R_mixed) := by
  refine fn_R F sc_l_mixed (lenP fun ss r h => by obtain ⟨ns, k, rfl, _⟩ := h; rfl) ?_
  intro cdv A outer s H E G ss O O' r hr hR
  obtain ⟨rfl, rfl, ns, i, rfl, h0, rfl⟩ := hR
  have hN := sc_l_mixed.nd
  refine ds_cons (ds_set 2 (de_mod (by decide) (de_mul (.inr ⟨by decide, by decide⟩) (de_add (de_add (de_call (c1.cal hr) (da_cons (de_var 0) (da_cons (de_var 1) da_nil)) ⟨ns, i, rfl, h0, rfl⟩) (de_mul (.inl ⟨by decide, by decide⟩) de_int (de_var 1))) de_int) de_int) de_int) ?_ hN)
  exact ds_one (ds_ret (de_mod (by decide) (de_add (de_add (de_mul (cmul_small (Int.emod_nonneg _ (by decide)) (Int.emod_lt_of_pos _ (by decide))) (de_var 2) (de_var 2)) (de_mul (.inl ⟨by decide, by decide⟩) de_int (de_var 2))) (de_var 1)) de_int) ⟨rfl, fun _ h => h⟩)
theorem ok_drawn (F : F_l_drawn K f fd) (T : Bt mg) : FnOk P w K mg base CX0 (k + 1) f fd p_l_drawn (spP P w K R_drawn) := by
  refine fn_R F sc_l_drawn (lenP fun ss r h => by obtain ⟨ns, k, rfl, _⟩ := h; rfl) ?_
  intro cdv A outer s H E G ss O O' r hr hR
  obtain ⟨rfl, rfl, n, i, rfl, rfl⟩ := hR
  have hN := sc_l_drawn.nd
  refine ds_cons (ds_set 2 (de_mod (by decide) (de_mul (.inr ⟨by decide, by decide⟩) (de_add (de_add (de_var 0) (de_mul (.inl ⟨by decide, by decide⟩) de_int (de_var 1))) de_int) de_int) de_int) ?_ hN)
  exact ds_one (ds_ret (de_mod (by decide) (de_add (de_add (de_mul (cmul_small (Int.emod_nonneg _ (by decide)) (Int.emod_lt_of_pos _ (by decide))) (de_var 2) (de_var 2)) (de_mul (.inl ⟨by decide, by decide⟩) de_int (de_var 2))) (de_var 1)) de_int) ⟨rfl, fun _ h => h⟩)
theorem ok_sale (F : F_l_sale K f fd) (T : Bt mg) (c1 : Cf P w K mg base k "_law_drawn" (spP P w K R_drawn)) : FnOk P w K mg base CX0 (k + 1) f fd p_l_sale (spP P w K R_sale) := by
  refine fn_R F sc_l_sale (lenP fun ss r h => by obtain ⟨n, g, t, rfl, _⟩ := h; rfl) ?_
  intro cdv A outer s H E G ss O O' r hr hR
  obtain ⟨rfl, rfl, n, g, t, rfl, n0, g0, g1, t0, t1, rfl⟩ := hR
  have hN := sc_l_sale.nd
  refine ds_cons (ds_set 3 (de_ixT (highN_at n n0) (de_tup (ds := [.int 2, .int 4, .int 12, .int 1000001]) (da_cons de_int (da_cons de_int (da_cons de_int (da_cons de_int da_nil))))) (de_mod (by decide) (de_var 0) de_int)) ?_ hN)
  refine ds_cons (ds_newL 4 (fun q => ?_) hN)
  refine ds_cons (ds_for (xs := List.range g.toNat) (fun (i : Nat) => .int (i : Int)) 5 (fun i ρ O => ∃ y5 y6, ρ = [some (.d (.int n)), some (.d (.int g)), some (.d (.int t)), some (.d (.int (highN n))), some (.own q), y5, y6, none] ∧ O = [(q, .lst (((saleN n g t).take i).map row))])
    (di_range T.range (de_var 1)) ⟨none, none, rfl, rfl⟩ (fun i a ρ' O' ha hI => ?_) (fun ρ' O' hI => ?_) hN)
  · obtain ⟨y5, y6, rfl, rfl⟩ := hI
    refine ds_cons (ds_set 6 (de_call (c1.cal hr) (da_cons (de_var 0) (da_cons (de_var 5) da_nil)) ⟨n, _, rfl, rfl⟩) ?_ hN)
    refine ds_one (ds_app 4 (ds := ((saleN n g t).take i).map row) (de_tupleL T.tuple (de_lc0 (xs := List.range t.toNat) (fun (j : Nat) => .int (j : Int)) (fun (j : Nat) => .int (drawnN (drawnN n (a : Int)) (j : Int) / 4 % highN n)) 7 (di_range T.range (de_var 2)) (fun j hj _ O s0 H0 C cl fp => ?_) (by rw [List.length_range]; omega) hN)) (List.mem_singleton.mpr rfl) (List.mem_singleton.mpr rfl) ?_ ?_)
    · exact de_mod (highN_pos n) (de_div ⟨by decide, by decide⟩ (de_call (c1.cal hr) (da_cons (de_var 6) (da_cons (de_var 7) da_nil)) ⟨_, _, rfl, rfl⟩) de_int) (de_var 3)
    · rw [List.length_map, List.length_take]
      unfold saleN
      rw [List.length_map, List.length_range]
      omega
    · refine ⟨_, _, rfl, ?_⟩
      have hi : i < g.toNat := by rw [← List.length_range (n := g.toNat)]; exact (List.getElem?_eq_some_iff.mp ha).1
      have ea : a = i := by rw [List.getElem?_range hi] at ha; exact (Option.some.inj ha).symm
      subst ea
      have e2 : (saleN n g t)[a]? = some ((List.range t.toNat).map fun (j : Nat) => drawnN (drawnN n (a : Int)) (j : Int) / 4 % highN n) := by
        unfold saleN
        rw [List.getElem?_map, List.getElem?_range hi]
        rfl
      rw [List.take_add_one, e2, List.map_append, setO_one]
      simp only [Option.toList_some, List.map_cons, List.map_nil, List.map_map, row]
      rfl
  · obtain ⟨y5, y6, rfl, rfl⟩ := hI
    have e : (saleN n g t).take (List.range g.toNat).length = saleN n g t := List.take_of_length_le (by unfold saleN; rw [List.length_map]; exact Nat.le_refl _)
    rw [e]
    exact ds_one (ds_ret (de_tupleO 4 (List.mem_singleton.mpr rfl) T.tuple) ⟨rfl, fun _ h => nomatch h⟩)
end
end Bid

namespace Bid
open PySem PySem.Spec PyProof.Rows L2
abbrev oD : Option Int → D
  | none => .none
  | some t => .int t
abbrev gvD (o : List (Option Int)) : D := .tuple (o.map oD)
abbrev bD (b : Bst) : D := .tuple [.int b.1, gvD b.2]
def md (kvs : Mem) : List ((Int × List Int) × D) := kvs.map fun p => (p.1, bD p.2)
abbrev tupI (ns : List Int) : D := .tuple (ns.map .int)
theorem md_val (k : Int × List Int) : ∀ kvs : Mem, valD (md kvs) k = (valM kvs k).map bD
  | [] => rfl
  | p :: r => by
    have ih := md_val k r
    unfold md at ih ⊢
    rw [List.map_cons]
    by_cases e : p.1 = k
    · rw [valD_pos (p := (p.1, bD p.2)) e]
      have : valM (p :: r) k = some p.2 := by simp [valM, List.find?_cons, e]
      rw [this]
      rfl
    · rw [valD_neg (p := (p.1, bD p.2)) e, ih]
      have : valM (p :: r) k = valM r k := by simp [valM, List.find?_cons, e]
      rw [this]
theorem md_put (k : Int × List Int) (v : Bst) (kvs : Mem) : putD (md kvs) k (bD v) = md (putM kvs k v) := by
  unfold putD putM
  rw [md_val, Option.isSome_map]
  split
  · unfold md
    rw [List.map_map, List.map_map]
    refine List.map_congr_left fun p _ => ?_
    show (if p.1 = k then (p.1, bD v) else (p.1, bD p.2)) = ((if p.1 = k then (p.1, v) else p).1, bD (if p.1 = k then (p.1, v) else p).2)
    by_cases e : p.1 = k
    · rw [if_pos e, if_pos e]
    · rw [if_neg e, if_neg e]
  · unfold md
    rw [List.map_append]
    rfl
theorem md_len (kvs : Mem) : (md kvs).length = kvs.length := List.length_map ..
/-- each row has all things that free names -/
def Fits (S : List (List Int)) (free : List Int) : Prop := ∀ t ∈ free, 0 ≤ t ∧ ∀ r ∈ S, t.toNat < r.length
theorem Fits.less {S : List (List Int)} {free : List Int} (h : Fits S free) (t : Int) : Fits S (lessT free t) := fun u hu => h u (List.mem_filter.mp hu).1
theorem atI_sal {S : List (List Int)} {g : Nat} (h : g < S.length) : atI (S.map row) (g : Int) = some (row (S.getD g [])) := by
  refine atI_nat ?_
  rw [List.getElem?_map, List.getElem?_eq_getElem h, List.getD_eq_getElem?_getD, List.getElem?_eq_getElem h]
  rfl
theorem atI_ints {r : List Int} {t : Int} (h0 : 0 ≤ t) (h : t.toNat < r.length) : atI (r.map PyData.int) t = some (.int (r.getD t.toNat 0)) := by
  refine atI_of h0 ?_
  rw [List.getElem?_map, List.getElem?_eq_getElem h, List.getD_eq_getElem?_getD, List.getElem?_eq_getElem h]
  rfl
theorem getD_mem {S : List (List Int)} {g : Nat} (h : g < S.length) : S.getD g [] ∈ S := by
  rw [List.getD_eq_getElem?_getD, List.getElem?_eq_getElem h]
  exact List.getElem_mem h
/-- best_from: n guests left at most -/
def R_bf (n : Nat) : Rel := fun ss O r O' => ∃ (S : List (List Int)) (m g : Nat) (free : List Int) (kvs : Mem) (a : Addr), ss = [.d (sal S), .d (.int g), .d (tupI free), .own a] ∧ m ≤ n ∧ S.length = g + m ∧ S.length ≤ 1000 ∧ free.length ≤ 1000 ∧ Fits S free ∧ kvs.length + (free.length + 2) ^ m ≤ 16000000 ∧ MemOk S kvs ∧
  O = [(a, .memo (md kvs))] ∧ r = bD (bestS S m g free kvs).1 ∧ O' = [(a, .memo (md (bestS S m g free kvs).2))]
section
variable {P : Program} {w : World} {K : Frg} {mg : Str → Option Value} {base : Heap} {f : Addr} {fd : FuncData} {k : Nat}
abbrev stepS (S : List (List Int)) (n g : Nat) (free : List Int) (s : Bst × Mem) (t : Int) : Bst × Mem := (pick (at2 S g t) t (bestS S n (g + 1) (lessT free t) s.2).1 s.1, (bestS S n (g + 1) (lessT free t) s.2).2)
abbrev initS (S : List (List Int)) (n g : Nat) (free : List Int) (kvs : Mem) : Bst × Mem := (((bestS S n (g + 1) free kvs).1.1, none :: (bestS S n (g + 1) free kvs).1.2), (bestS S n (g + 1) free kvs).2)
theorem bestS_succ (S : List (List Int)) (n g : Nat) (free : List Int) (kvs : Mem) (h : valM kvs ((g : Int), free) = none) :
    bestS S (n + 1) g free kvs = ((free.foldl (stepS S n g free) (initS S n g free kvs)).1, putM (free.foldl (stepS S n g free) (initS S n g free kvs)).2 ((g : Int), free) (free.foldl (stepS S n g free) (initS S n g free kvs)).1) := by
  rw [bestS]
  split
  · rename_i x hx
    rw [h] at hx
    cases hx
  · rfl
theorem bestS_hit (S : List (List Int)) (n g : Nat) (free : List Int) (kvs : Mem) {x : Bst} (h : valM kvs ((g : Int), free) = some x) : bestS S (n + 1) g free kvs = (x, kvs) := by
  rw [bestS]
  split
  · rename_i y hy
    rw [h] at hy
    cases hy
    rfl
  · rename_i hy
    rw [h] at hy
    cases hy
theorem valM_put (kvs : Mem) (k : Int × List Int) (v : Bst) : valM (putM kvs k v) k = some v := by
  have := valD_put (α := Bst) kvs k k v
  rw [if_pos rfl] at this
  exact this
theorem fold_len (S : List (List Int)) (n g : Nat) (free : List Int) : ∀ (l : List Int) (s : Bst × Mem), (l.foldl (stepS S n g free) s).2.length ≤ s.2.length + l.length * (free.length + 2) ^ n
  | [], s => by rw [List.foldl_nil]; exact Nat.le_add_right _ _
  | t :: l, s => by
    rw [List.foldl_cons]
    have h1 := fold_len S n g free l (stepS S n g free s t)
    have h2 := bestS_len S n (g + 1) (lessT free t) s.2
    have h3 : ((lessT free t).length + 2) ^ n ≤ (free.length + 2) ^ n := Nat.pow_le_pow_left (by have := lessT_len free t; omega) n
    rw [List.length_cons, Nat.succ_mul]
    have h4 : (stepS S n g free s t).2 = (bestS S n (g + 1) (lessT free t) s.2).2 := rfl
    rw [h4] at h1
    omega
theorem mem_one {o : Addr} {c : OC} : (o, c) ∈ [(o, c)] := List.mem_singleton.mpr rfl
end
end Bid

namespace Bid
open PySem PySem.Spec PyProof.Rows L2
theorem rngD_eq (m : Nat) : rngD (m : Int) = (rngI m).map .int := by
  unfold rngD rngI
  rw [List.map_map, Int.toNat_natCast]
  rfl
theorem Sz.fits {S : List (List Int)} {g m : Nat} (h : Sz S g m) {fr : List Int} (hf : ∀ t ∈ fr, 0 ≤ t ∧ t < m) : Fits S fr := fun t ht => ⟨(hf t ht).1, fun r hr => by have := h.row r hr; have := hf t ht; omega⟩
theorem Sz.head {S : List (List Int)} {g m : Nat} (h : Sz S g m) : (S.getD 0 []).length = m := h.row _ (getD_mem (by rw [h.len]; exact h.g1))
def R_bo : List Sl → D → Prop := fun ss r => ∃ (S : List (List Int)) (fr : List Int), ss = [.d (sal S), .d (lsI fr)] ∧ S.length ≤ 6 ∧ fr.length ≤ 7 ∧ Fits S fr ∧ r = bD (bestF S fr)
def R_best : List Sl → D → Prop := fun ss r => ∃ (S : List (List Int)) (g m : Nat), ss = [.d (sal S)] ∧ Sz S g m ∧ r = gvD (bestF S (rngI m)).2
def R_most : List Sl → D → Prop := fun ss r => ∃ (S : List (List Int)) (g m : Nat), ss = [.d (sal S)] ∧ Sz S g m ∧ r = .int (mostM S m)
def R_twice : List Sl → D → Prop := fun ss r => ∃ (S : List (List Int)) (g m : Nat) (t : Int), ss = [.d (sal S), .d (.int t)] ∧ Sz S g m ∧ 0 ≤ t ∧ t < m ∧ r = sal (twiceM S t)
def R_least : List Sl → D → Prop := fun ss r => ∃ (S : List (List Int)) (g m : Nat), ss = [.d (sal S)] ∧ Sz S g m ∧ m ≤ 6 ∧ r = tupI (leastM S m)
def R_great : List Sl → D → Prop := fun ss r => ∃ (S : List (List Int)) (g m : Nat), ss = [.d (sal S)] ∧ Sz S g m ∧ r = tupI (greatM S m)
section
variable {P : Program} {w : World} {K : Frg} {mg : Str → Option Value} {base : Heap} {f : Addr} {fd : FuncData} {k : Nat}
variable {X : Cx} {G : Gd} {ρ : Ro} {O : Ow} {e : Expr} {pos : Pos}
/-- len(sale[0]) -/
theorem de_len0 {S : List (List Int)} {g m : Nat} (h : Sz S g m) {p p1 p2 : Pos} {j} (hm : X.mg "len" = none) (he : DE X G ρ O e O (sal S)) (hg : Gl X "len" := by rfl) (hs : starEach [Expr.Subscript e (.Constant (.int 0) j p1) p2] X.env = (false, eval (.Subscript e (.Constant (.int 0) j p1) p2) X.env) :: starEach [] X.env := by rfl) (hpl : (backTo pos (starEach [] X.env)).any (·.1) = false := by rfl)
    (hx : PlainIx (.Constant (.int 0) j p1) := by exact fun _ _ => rfl) : DE X G ρ O (.Call (.Name "len" p) [.Subscript e (.Constant (.int 0) j p1) p2] [] pos) O (.int m) :=
  de_is (de_lenT hm (de_ixT (d := row (S.getD 0 [])) (atI_sal (g := 0) (by rw [h.len]; exact h.g1)) he de_int hx) hg hs hpl) (by rw [List.length_map, h.head])
theorem di_rangeN {m : Nat} {tg a : Expr} {p : Pos} {O1 : Ow} (hm : X.mg "range" = none) (ha : DE X G ρ O a O1 (.int (m : Int))) (h1 : m ≤ 1000 := by omega) (hg : Gl X "range" := by rfl) (na : starEach [a] X.env = [(false, eval a X.env)] := by rfl) : DI X G ρ O tg (.Call (.Name "range" p) [a] [] pos) O1 ((List.range m).map fun (i : Nat) => .int (i : Int)) :=
  di_range hm ha (by omega) (by omega) hg na
theorem di_rangeI {m : Nat} {tg a : Expr} {p : Pos} {O1 : Ow} (hm : X.mg "range" = none) (ha : DE X G ρ O a O1 (.int (m : Int))) (h1 : m ≤ 1000 := by omega) (hg : Gl X "range" := by rfl) (na : starEach [a] X.env = [(false, eval a X.env)] := by rfl) : DI X G ρ O tg (.Call (.Name "range" p) [a] [] pos) O1 ((rngI m).map .int) :=
  rngD_eq m ▸ di_range hm ha (by omega) (by omega) hg na
theorem de_listRangeI {m : Nat} {a : Expr} {p p2 pos2 : Pos} {O1 : Ow} (hm : X.mg "list" = none) (hm2 : X.mg "range" = none) (ha : DE X G ρ O a O1 (.int (m : Int))) (h1 : m ≤ 1000 := by omega) (hc : X.calm = true := by rfl) (hg : Gl X "list" := by rfl) (hg2 : Gl X "range" := by rfl) (na : starEach [a] X.env = (false, eval a X.env) :: starEach [] X.env := by rfl)
    (nb : starEach [Expr.Call (.Name "range" p2) [a] [] pos2] X.env = (false, eval (.Call (.Name "range" p2) [a] [] pos2) X.env) :: starEach [] X.env := by rfl) : DE X G ρ O (.Call (.Name "list" p) [.Call (.Name "range" p2) [a] [] pos2] [] pos) O1 (lsI (rngI m)) :=
  de_is (de_listRange (by omega) (by omega) hm hm2 ha hc hg hg2 na nb) (by rw [rngD_eq])
end
end Bid

namespace Bid
open PySem PySem.Spec PyProof.Rows L2
theorem cutD_to {α : Type} (xs : List α) (i : Nat) : cutD xs none (some (i : Int)) = xs.take i := by
  unfold cutD
  rw [HT.sIx_none, HT.sIx_nat]
  simp
theorem cutD_from {α : Type} (xs : List α) (i : Nat) : cutD xs (some (i : Int)) none = xs.drop i := by
  unfold cutD
  rw [HT.sIx_none, HT.sIx_nat, ← List.length_drop]
  by_cases h : i ≤ xs.length
  · rw [Nat.min_eq_left h, List.take_length]
  · rw [Nat.min_eq_right (by omega), List.drop_of_length_le (by omega), List.drop_of_length_le (i := i) (by omega)]
    rfl
theorem zip_mapD {α β : Type} (f : α → D) (g : β → D) : ∀ (xs : List α) (ys : List β), List.zipWith (fun x y => PyData.tuple [x, y]) (xs.map f) (ys.map g) = (xs.zip ys).map fun a => .tuple [f a.1, g a.2]
  | [], _ => rfl
  | _ :: _, [] => rfl
  | x :: xs, y :: ys => by
    rw [List.map_cons, List.map_cons, List.zipWith_cons_cons, zip_mapD f g xs ys]
    rfl
def FitO (S : List (List Int)) (os : List (Option Int)) : Prop := ∀ t, some t ∈ os → 0 ≤ t ∧ ∀ r ∈ S, t.toNat < r.length
theorem isNone_oD (o : Option Int) : isNone (oD o) = o.isNone := by cases o <;> rfl
theorem wo_zip : ∀ (S : List (List Int)) (os : List (Option Int)), (((S.zip os).filter fun a => !isNone (oD a.2)).map fun a => val a.1 a.2).sum = wo S os
  | [], _ => by rw [wo] <;> first | rfl | (intros; contradiction)
  | _ :: _, [] => by rw [wo] <;> first | rfl | (intros; contradiction)
  | r :: S, none :: os => by
    rw [List.zip_cons_cons, List.filter_cons_of_neg (by simp [isNone])]
    exact wo_zip S os
  | r :: S, some t :: os => by
    rw [List.zip_cons_cons, List.filter_cons_of_pos (by simp [isNone]), List.map_cons, List.sum_cons, wo_zip S os]
    rfl
def R_worth : List Sl → D → Prop := fun ss r => ∃ (S : List (List Int)) (os : List (Option Int)), ss = [.d (sal S), .d (gvD os)] ∧ S.length ≤ 6 ∧ FitO S os ∧ r = .int (wo S os)
def R_due : List Sl → D → Prop := fun ss r => ∃ (S : List (List Int)) (g m : Nat), ss = [.d (sal S)] ∧ Sz S g m ∧ r = tupI (dueM S m)
def R_gain : List Sl → D → Prop := fun ss r => ∃ (S : List (List Int)) (g m i : Nat) (said : List Int), ss = [.d (sal S), .d (.int i), .d (row said)] ∧ Sz S g m ∧ i < g ∧ said.length = m ∧ r = .int (gainM S m i said)
theorem Sz.set {S : List (List Int)} {g m i : Nat} {said : List Int} (h : Sz S g m) (hs : said.length = m) : Sz (S.set i said) g m := ⟨by rw [List.length_set]; exact h.len, h.g1, h.g6, h.m1, h.m7, fun r hr => by
  rcases List.mem_or_eq_of_mem_set hr with q | q
  · exact h.row r q
  · rw [q]; exact hs⟩
theorem fitO_giv {S : List (List Int)} {os : List (Option Int)} {m : Nat} (g : Giv S os (rngI m)) {S' : List (List Int)} (h : ∀ r ∈ S', r.length = m) : FitO S' os := fun t ht => by
  have := giv_mem g ht
  rw [mem_rngI] at this
  exact ⟨this.1, fun r hr => by rw [h r hr]; omega⟩
theorem erase_map {α β : Type} (f : α → β) (xs : List α) (i : Nat) : (xs.map f).take i ++ (xs.map f).drop (i + 1) = (xs.eraseIdx i).map f := by
  rw [List.eraseIdx_eq_take_drop_succ, List.map_append, List.map_take, List.map_drop]
theorem set_map {α β : Type} (f : α → β) (xs : List α) (i : Nat) (a : α) (h : i < xs.length) : (xs.map f).take i ++ [f a] ++ (xs.map f).drop (i + 1) = (xs.set i a).map f := by
  rw [List.set_eq_take_append_cons_drop, if_pos h, List.map_append, List.map_cons, List.map_take, List.map_drop, List.append_assoc]
  rfl
theorem range_ix {m i a : Nat} (h : (List.range m)[i]? = some a) : a = i ∧ i < m := by
  have hi : i < m := by have := (List.getElem?_eq_some_iff.mp h).1; rw [List.length_range] at this; exact this
  rw [List.getElem?_range hi] at h
  exact ⟨(Option.some.inj h).symm, hi⟩
section
variable {P : Program} {w : World} {K : Frg} {mg : Str → Option Value} {base : Heap} {f : Addr} {fd : FuncData} {k : Nat}
variable {X : Cx} {G : Gd} {ρ : Ro} {O : Ow} {e e2 : Expr} {pos : Pos}
/-- xs[:i] + xs[i + 1:] -/
theorem de_less {α : Type} {xs : List α} {h : α → D} {i : Nat} {a b : Expr} {p1 p2 p3 p4 p5 p6 : Pos} {j} (hl : xs.length ≤ 1000) (hx : DE X G ρ O e O (.tuple (xs.map h))) (hi : DE X G ρ O a O (.int (i : Int))) (hx2 : DE X G ρ O e2 O (.tuple (xs.map h))) (hi2 : DE X G ρ O b O (.int (i : Int))) :
    DE X G ρ O (.BinOp (.Subscript e (.Slice none (some a) none p1) p2) .Add (.Subscript e2 (.Slice (some (.BinOp b .Add (.Constant (.int 1) j p6) p3)) none none p4) p5) pos) O (.tuple ((xs.eraseIdx i).map h)) :=
  de_is (de_catT (de_is (de_cutT hx dp_none (dp_some hi)) (by rw [cutD_to])) (de_is (de_cutT hx2 (dp_some (de_is (de_add hi2 de_int) (show PyData.int ((i : Int) + 1) = .int ((i + 1 : Nat) : Int) by rw [Int.natCast_succ]))) dp_none) (by rw [cutD_from])) (by
    rw [List.length_take, List.length_drop, List.length_map]
    omega)) (by rw [erase_map])
/-- xs[:i] + (v,) + xs[i + 1:] -/
theorem de_put {α : Type} {xs : List α} {h : α → D} {v : α} {i : Nat} {a b ev : Expr} {p1 p2 p3 p4 p5 p6 p7 p8 : Pos} {j tk} (hl : i < xs.length) (hz : xs.length ≤ 1000) (hx : DE X G ρ O e O (.tuple (xs.map h))) (hi : DE X G ρ O a O (.int (i : Int))) (hv : DE X G ρ O ev O (h v)) (hx2 : DE X G ρ O e2 O (.tuple (xs.map h))) (hi2 : DE X G ρ O b O (.int (i : Int)))
    (hs : starEach [ev] X.env = (false, eval ev X.env) :: starEach [] X.env := by rfl) :
    DE X G ρ O (.BinOp (.BinOp (.Subscript e (.Slice none (some a) none p1) p2) .Add (.Tuple [ev] tk p7) p8) .Add (.Subscript e2 (.Slice (some (.BinOp b .Add (.Constant (.int 1) j p6) p3)) none none p4) p5) pos) O (.tuple ((xs.set i v).map h)) :=
  de_is (de_catT (de_catT (de_is (de_cutT hx dp_none (dp_some hi)) (by rw [cutD_to])) (de_tup (ds := [h v]) (da_cons hv da_nil hs)) (by rw [List.length_take, List.length_map]; show _ + 1 ≤ _; omega))
    (de_is (de_cutT hx2 (dp_some (de_is (de_add hi2 de_int) (show PyData.int ((i : Int) + 1) = .int ((i + 1 : Nat) : Int) by rw [Int.natCast_succ]))) dp_none) (by rw [cutD_from])) (by rw [List.length_append, List.length_take, List.length_map, List.length_drop, List.length_map]; show _ + 1 + _ ≤ _; omega)) (by rw [set_map h xs i v hl])
/-- a statement whose ways meet -/
@[reducible] def midO (Ψ : Ro → Ow → Prop) (Φ : Oc → Prop) : Oc → Prop
  | .nx ρ O => Ψ ρ O
  | .rt d O => Φ (.rt d O)
  | .bk ρ O => Φ (.bk ρ O)
  | .ct ρ O => Φ (.ct ρ O)
theorem ds_mid {Φ : Oc → Prop} {st : Stmt} {rest : List Stmt} (Ψ : Ro → Ow → Prop) (h : DS X G ρ O st (midO Ψ Φ)) (q : ∀ ρ' O', Ψ ρ' O' → DSs X G ρ' O' rest Φ) : DSs X G ρ O (st :: rest) Φ :=
  ds_cons (ds_mono h fun o ho => match o, ho with
    | .nx ρ' O', ho => q ρ' O' ho
    | .rt _ _, ho => ho
    | .bk _ _, ho => ho
    | .ct _ _, ho => ho)
theorem atI_gvD {os : List (Option Int)} {i : Nat} (h : i < os.length) : atI (os.map oD) (i : Int) = some (oD (os.getD i none)) := by
  refine atI_nat ?_
  rw [List.getElem?_map, List.getElem?_eq_getElem h, List.getD_eq_getElem?_getD, List.getElem?_eq_getElem h]
  rfl
theorem atI_nat0 {r : List Int} {i : Nat} (h : i < r.length) : atI (r.map PyData.int) (i : Int) = some (.int (r.getD i 0)) := by
  have := atI_ints (r := r) (t := (i : Int)) (by omega) (by rw [Int.toNat_natCast]; exact h)
  rw [Int.toNat_natCast] at this
  exact this
theorem getD_mem_o {os : List (Option Int)} {i : Nat} {t : Int} (h : os.getD i none = some t) : some t ∈ os := by
  rw [List.getD_eq_getElem?_getD] at h
  cases q : os[i]? with
  | none => rw [q] at h; cases h
  | some o => rw [q] at h; exact h ▸ List.mem_of_getElem? q
theorem wo_range {S : List (List Int)} {os : List (Option Int)} (h : os.length = S.length) : (((List.range S.length).filter fun i => !isNone (oD (os.getD i none))).map fun i => val (S.getD i []) (os.getD i none)).sum = wo S os := by
  have e : (List.range S.length).map (fun i => (S.getD i [], os.getD i none)) = S.zip os := by
    refine List.ext_getElem? fun i => ?_
    rw [List.getElem?_map]
    by_cases q : i < S.length
    · rw [List.getElem?_range q, List.getElem?_eq_getElem (by rw [List.length_zip]; omega), List.getElem_zip]
      simp [List.getD_eq_getElem?_getD, List.getElem?_eq_getElem q, List.getElem?_eq_getElem (show i < os.length by omega)]
    · rw [List.getElem?_eq_none (by rw [List.length_range]; omega), List.getElem?_eq_none (by rw [List.length_zip]; omega)]
      rfl
  rw [← wo_zip, ← e, List.filter_map, List.map_map]
  rfl
def R_lworth : List Sl → D → Prop := fun ss r => ∃ (S : List (List Int)) (os : List (Option Int)), ss = [.d (sal S), .d (gvD os)] ∧ os.length = S.length ∧ S.length ≤ 6 ∧ FitO S os ∧ r = .int (wo S os)
end
end Bid

namespace Bid
open PySem PySem.Spec PyProof.Rows L2
def FitR (r p : List Int) (o : Option Int) : Prop := ∀ t, o = some t → 0 ≤ t ∧ t.toNat < r.length ∧ t.toNat < p.length
def R_gn : List Sl → D → Prop := fun ss v => ∃ (r p : List Int) (o : Option Int), ss = [.d (row r), .d (tupI p), .d (oD o)] ∧ FitR r p o ∧ v = .int (gn r (lf p) o)
def R_uu : List Sl → D → Prop := fun ss v => ∃ (r p : List Int) (m : Nat), ss = [.d (row r), .d (tupI p)] ∧ r.length = m ∧ p.length = m ∧ m ≤ 7 ∧ v = .int (uu r (lf p) (rngI m))
theorem gn_oD (r : List Int) (p : List Int) (o : Option Int) (t : Int) (h : o = some t) : gn r (lf p) o = r.getD t.toNat 0 - p.getD t.toNat 0 := by rw [h]; rfl
/-- the greatest of 0 and the gains by each thing -/
theorem uu_max (r : List Int) (x : Int → Int) (fr : List Int) : uu r x fr ∈ (0 : Int) :: fr.map (fun t => gn r x (some t)) ∧ ∀ y ∈ (0 : Int) :: fr.map (fun t => gn r x (some t)), y ≤ uu r x fr := by
  constructor
  · rcases uu_cases r x fr with e | ⟨t, ht, e⟩
    · rw [e]; exact List.mem_cons_self ..
    · rw [e]; exact List.mem_cons_of_mem _ (List.mem_map.mpr ⟨t, ht, rfl⟩)
  · intro y hy
    rcases List.mem_cons.mp hy with e | hy
    · rw [e]; exact uu_nn r x fr
    · obtain ⟨t, ht, rfl⟩ := List.mem_map.mp hy
      exact uu_ge ht
section
variable {P : Program} {w : World} {K : Frg} {mg : Str → Option Value} {base : Heap} {f : Addr} {fd : FuncData} {k : Nat}
end
theorem inD_os (t : Int) : ∀ os : List (Option Int), inD (.int t) (os.map oD) = os.contains (some t)
  | [] => rfl
  | none :: os => by
    have := inD_os t os
    unfold inD at this ⊢
    rw [List.map_cons, List.any_cons, this]
    simp [PyData.eqv]
  | some u :: os => by
    have := inD_os t os
    unfold inD at this ⊢
    rw [List.map_cons, List.any_cons, this, eqv_int]
    by_cases e : u = t
    · simp [e]
    · have : ¬ t = u := fun h => e h.symm
      simp [e, this]
theorem flat_os (os : List (Option Int)) : (os.map oD).all flatD = true := by
  rw [List.all_eq_true]
  intro d hd
  obtain ⟨o, _, rfl⟩ := List.mem_map.mp hd
  cases o <;> rfl
theorem eqv_nilL (ds : List D) : PyData.eqv (.list ds) (.list []) = ds.isEmpty := by cases ds <;> simp [PyData.eqv, PyData.eqvAll]
/-- all that is given is there, m things -/
def InM (os : List (Option Int)) (m : Nat) : Prop := ∀ t, some t ∈ os → 0 ≤ t ∧ t < m
theorem InM.fit {os : List (Option Int)} {m : Nat} (h : InM os m) {r p : List Int} (h1 : r.length = m) (h2 : p.length = m) (i : Nat) : FitR r p (os.getD i none) := fun t ht => by
  have := h t (getD_mem_o ht)
  omega
theorem inM_giv {S : List (List Int)} {os : List (Option Int)} {m : Nat} (g : Giv S os (rngI m)) : InM os m := fun t ht => mem_rngI.mp (giv_mem g ht)
theorem best_iff {x : Int → Int} {fr : List Int} : ∀ {rs : List (List Int)} {os : List (Option Int)}, os.length = rs.length → (Best x fr rs os ↔ ∀ i, i < rs.length → gn (rs.getD i []) x (os.getD i none) = uu (rs.getD i []) x fr)
  | [], [], _ => ⟨fun _ i hi => absurd hi (Nat.not_lt_zero _), fun _ => trivial⟩
  | r :: rs, o :: os, hl => by
    have ih := best_iff (x := x) (fr := fr) (rs := rs) (os := os) (by simpa using hl)
    constructor
    · intro h i hi
      exact best_at h hl hi
    · intro h
      refine ⟨h 0 (Nat.zero_lt_succ _), ih.mpr fun i hi => ?_⟩
      have := h (i + 1) (Nat.succ_lt_succ hi)
      rw [List.getD_cons_succ, List.getD_cons_succ] at this
      exact this
def R_fair : List Sl → D → Prop := fun ss v => ∃ (S : List (List Int)) (os : List (Option Int)) (p : List Int) (g m : Nat) (b : Bool), ss = [.d (sal S), .d (gvD os), .d (tupI p)] ∧ Sz S g m ∧ os.length = S.length ∧ InM os m ∧ p.length = m ∧ (b = true ↔ Fair S os (rngI m) (lf p)) ∧ v = .bool b
section
variable {P : Program} {w : World} {K : Frg} {mg : Str → Option Value} {base : Heap} {f : Addr} {fd : FuncData} {k : Nat}
theorem zip_at {S : List (List Int)} {os : List (Option Int)} {i : Nat} {a : List Int × Option Int} (h : (S.zip os)[i]? = some a) : i < S.length ∧ i < os.length ∧ a.1 = S.getD i [] ∧ a.2 = os.getD i none := by
  have hi := (List.getElem?_eq_some_iff.mp h).1
  rw [List.length_zip] at hi
  rw [List.getElem?_eq_getElem (by rw [List.length_zip]; exact hi), List.getElem_zip] at h
  have h' := Option.some.inj h
  subst h'
  refine ⟨by omega, by omega, ?_, ?_⟩
  · rw [List.getD_eq_getElem?_getD, List.getElem?_eq_getElem (by omega)]; rfl
  · rw [List.getD_eq_getElem?_getD, List.getElem?_eq_getElem (by omega)]; rfl
end
end Bid

namespace Bid
open PySem PySem.Spec PyProof.Rows L2
/-- a whole number from lo to hi -/
def numB (lo hi : Int) : D → Bool
  | .int x => decide (lo ≤ x) && decide (x ≤ hi)
  | _ => false
def R_num : List Sl → D → Prop := fun ss v => ∃ (d : D) (lo hi : Int), ss = [.d d, .d (.int lo), .d (.int hi)] ∧ v = .bool (numB lo hi d)
def R_num0 : List Sl → D → Prop := fun ss v => ∃ (d : D) (hi : Int), ss = [.d d, .d (.int hi)] ∧ v = .bool (numB 0 hi d)
/-- what is not None -/
def givenD (ds : List D) : List D := ds.filter fun x => !isNone x
def intOf : D → Int
  | .int x => x
  | _ => 0
theorem nums_map {lo hi : Int} : ∀ {ds : List D}, ds.all (numB lo hi) = true → ds = (ds.map intOf).map .int
  | [], _ => rfl
  | d :: ds, h => by
    rw [List.all_cons, Bool.and_eq_true] at h
    rw [List.map_cons, List.map_cons, ← nums_map h.2]
    cases d <;> first | rfl | (cases h.1)
/-- a giving: g guests, m things -/
def givB (g m : Nat) : D → Bool
  | .tuple ds => decide (ds.length = g) && ((givenD ds).all (numB 0 ((m : Int) - 1)) && decide ((givenD ds).map intOf).Nodup)
  | _ => false
def priB (m : Nat) : D → Bool
  | .tuple ds => decide (ds.length = m) && ds.all (numB 0 10000000)
  | _ => false
/-- not too long -/
def shortD : D → Prop
  | .tuple ds => ds.length ≤ 1000
  | .list ds => ds.length ≤ 1000
  | _ => True
theorem filter_all {α : Type} (p : α → Bool) (l : List α) : (l.filter fun x => !p x).isEmpty = l.all p := by
  cases q : l.all p with
  | true =>
    rw [List.all_eq_true] at q
    rw [List.isEmpty_iff, List.filter_eq_nil_iff]
    intro x hx
    rw [q x hx]
    decide
  | false =>
    rw [List.all_eq_false] at q
    obtain ⟨x, hx, h2⟩ := q
    cases z : (l.filter fun x => !p x).isEmpty with
    | false => rfl
    | true =>
      rw [List.isEmpty_iff, List.filter_eq_nil_iff] at z
      have := z x hx
      simp at this h2
      rw [this] at h2
      cases h2
def R_isg : List Sl → D → Prop := fun ss v => ∃ (d : D) (S : List (List Int)) (g m : Nat), ss = [.d d, .d (sal S)] ∧ shortD d ∧ Shp 8 d ∧ Sz S g m ∧ v = .bool (givB g m d)
def R_isp : List Sl → D → Prop := fun ss v => ∃ (d : D) (S : List (List Int)) (g m : Nat), ss = [.d d, .d (sal S)] ∧ shortD d ∧ Shp 8 d ∧ Sz S g m ∧ v = .bool (priB m d)
theorem givB_giv {S : List (List Int)} {os : List (Option Int)} {g m : Nat} (h : Giv S os (rngI m)) (hl : S.length = g) : givB g m (gvD os) = true := by
  have e : ∀ os : List (Option Int), givenD (os.map oD) = (os.filterMap id).map .int := by
    intro os
    induction os with
    | nil => rfl
    | cons o os ih =>
      unfold givenD at ih ⊢
      cases o with
      | none => simpa [isNone] using ih
      | some t => simpa [isNone] using ih
  show (decide ((os.map oD).length = g) && ((givenD (os.map oD)).all (numB 0 ((m : Int) - 1)) && decide ((givenD (os.map oD)).map intOf).Nodup)) = true
  rw [e os, List.length_map, giv_len h, hl]
  have h2 : (((os.filterMap id).map PyData.int).map intOf) = os.filterMap id := by
    rw [List.map_map]
    exact List.map_id' _
  rw [h2]
  simp only [Bool.and_eq_true, decide_eq_true_eq, true_and]
  refine ⟨?_, giv_nodup h⟩
  rw [List.all_eq_true]
  intro d hd
  obtain ⟨t, ht, rfl⟩ := List.mem_map.mp hd
  obtain ⟨o, ho, e⟩ := List.mem_filterMap.mp ht
  simp at e
  subst e
  have := mem_rngI.mp (giv_mem h ho)
  simp [numB]
  omega
section
variable {P : Program} {w : World} {K : Frg} {mg : Str → Option Value} {base : Heap} {f : Addr} {fd : FuncData} {k : Nat}
theorem ok_l_number (F : F_l_number K f fd) (T : Bt mg) : FnOk P w K mg base CX0 (k + 1) f fd p_l_number (spP P w K R_num) := by
  refine fn_R F sc_l_number (lenP fun ss r h => by obtain ⟨d, lo, hi, rfl, _⟩ := h; rfl) ?_
  intro cdv A outer s H E G ss O O' r hr hR
  obtain ⟨rfl, rfl, d, lo, hi, rfl, rfl⟩ := hR
  cases hi0 : isInt0 d with
  | false =>
    refine ds_one (ds_ret (de_and (k := false) (l := false) (de_is (de_isi (d := d) (T := "int") (Tn := "int") (kit_int d) T.isinstance T.int (by rfl) (de_var 0)) (by rw [hi0])) (fun h => by cases h)) ⟨?_, fun _ h => h⟩)
    cases d <;> first | rfl | (cases hi0)
  | true =>
    cases hb0 : isBool0 d with
    | true =>
      refine ds_one (ds_ret (de_and (k := true) (l := false) (de_is (de_isi (d := d) (T := "int") (Tn := "int") (kit_int d) T.isinstance T.int (by rfl) (de_var 0)) (by rw [hi0])) (fun _ => de_and (k := false) (l := false) (de_is (de_not (de_isi (d := d) (T := "bool") (Tn := "bool") (kit_bool d) T.isinstance T.bool (by rfl) (de_var 0))) (by rw [hb0]; rfl)) (fun h => by cases h))) ⟨?_, fun _ h => h⟩)
      cases d <;> first | rfl | (cases hb0)
    | false =>
      obtain ⟨x, rfl⟩ : ∃ x, d = .int x := by cases d <;> first | exact ⟨_, rfl⟩ | (cases hi0; done) | (cases hb0; done)
      exact ds_one (ds_ret (de_and (k := true) (l := decide (lo ≤ x) && decide (x ≤ hi)) (de_isi (d := .int x) (T := "int") (Tn := "int") (kit_int _) T.isinstance T.int (by rfl) (de_var 0)) (fun _ => de_and (k := true) (de_is (de_not (de_isi (d := .int x) (T := "bool") (Tn := "bool") (kit_bool _) T.isinstance T.bool (by rfl) (de_var 0))) rfl) (fun _ => de_one (de_chain (de_var 1) (de_var 0) (de_var 2))))) ⟨rfl, fun _ h => h⟩)
end
def givN (n : Int) (m : Nat) : Nat → List (Option Int)
  | 0 => []
  | i + 1 => givN n m i ++ [if (decide (drawnN n (i : Int) % ((m : Int) + 1) = m) || (givN n m i).contains (some (drawnN n (i : Int) % ((m : Int) + 1)))) = true then none else some (drawnN n (i : Int) % ((m : Int) + 1))]
theorem givN_succ (n : Int) (m i : Nat) : givN n m (i + 1) = givN n m i ++ [if (decide (drawnN n (i : Int) % ((m : Int) + 1) = m) || (givN n m i).contains (some (drawnN n (i : Int) % ((m : Int) + 1)))) = true then none else some (drawnN n (i : Int) % ((m : Int) + 1))] := rfl
theorem givN_len (n : Int) (m : Nat) : ∀ i, (givN n m i).length = i
  | 0 => rfl
  | i + 1 => by unfold givN; rw [List.length_append, givN_len n m i]; rfl
theorem givN_mem (n : Int) (m : Nat) : ∀ i t, some t ∈ givN n m i → t ∈ rngI m
  | i + 1, t, h => by
    unfold givN at h
    rcases List.mem_append.mp h with h | h
    · exact givN_mem n m i t h
    · rw [List.mem_singleton] at h
      split at h
      · cases h
      · rename_i q
        cases h
        rw [mem_rngI]
        simp only [Bool.or_eq_true, decide_eq_true_eq, not_or] at q
        have h1 : 0 ≤ drawnN n (i : Int) % ((m : Int) + 1) := Int.emod_nonneg _ (by omega)
        have h2 : drawnN n (i : Int) % ((m : Int) + 1) < (m : Int) + 1 := Int.emod_lt_of_pos _ (by omega)
        omega
theorem givN_nd (n : Int) (m : Nat) : ∀ i, ((givN n m i).filterMap id).Nodup
  | 0 => List.nodup_nil
  | i + 1 => by
    unfold givN
    rw [List.filterMap_append, List.nodup_append]
    refine ⟨givN_nd n m i, ?_, ?_⟩
    · split <;> simp
    · split
      · intro a _ b hb; simp at hb
      · rename_i q
        simp only [Bool.or_eq_true, decide_eq_true_eq, not_or] at q
        intro a ha b hb e
        simp at hb
        subst hb
        subst e
        obtain ⟨o, ho, e⟩ := List.mem_filterMap.mp ha
        simp at e
        subst e
        exact q.2 (by simpa using ho)
theorem givN_giv (n : Int) (m : Nat) (S : List (List Int)) : Giv S (givN n m S.length) (rngI m) := giv_of (givN_len n m _) (fun t ht => givN_mem n m _ t ht) (givN_nd n m _)
def R_lg : List Sl → D → Prop := fun ss v => ∃ (n : Int) (S : List (List Int)) (g m : Nat), ss = [.d (.int n), .d (sal S)] ∧ Sz S g m ∧ v = gvD (givN n m S.length)
def priAt (n : Int) (S : List (List Int)) (j : Nat) : Int := max 0 (at2 S (drawnN n (j : Int) % (S.length : Int)).toNat (j : Int) + drawnN n (j : Int) / 6 % 3 - 1) * (if decide (0 < drawnN n (j : Int) / 18 % 3) = true then 1 else 0)
def priN (n : Int) (S : List (List Int)) (m : Nat) : List Int := (List.range m).map (priAt n S)
theorem priN_len (n : Int) (S : List (List Int)) (m : Nat) : (priN n S m).length = m := by unfold priN; rw [List.length_map, List.length_range]
theorem priAt_nn (n : Int) (S : List (List Int)) (j : Nat) : 0 ≤ priAt n S j := by
  unfold priAt
  exact Int.mul_nonneg (by omega) (by split <;> decide)
def R_lp : List Sl → D → Prop := fun ss v => ∃ (n : Int) (S : List (List Int)) (g m : Nat), ss = [.d (.int n), .d (sal S)] ∧ Sz S g m ∧ v = tupI (priN n S m)
theorem lf_nn {p : List Int} (h : ∀ x ∈ p, 0 ≤ x) (t : Int) : 0 ≤ lf p t := by
  show 0 ≤ p.getD t.toNat 0
  rw [List.getD_eq_getElem?_getD]
  cases e : p[t.toNat]? with
  | none => exact Int.le_refl _
  | some x => exact h x (List.mem_of_getElem? e)
theorem priN_nn (n : Int) (S : List (List Int)) (m : Nat) : ∀ x ∈ priN n S m, 0 ≤ x := fun x hx => by
  unfold priN at hx
  obtain ⟨j, _, rfl⟩ := List.mem_map.mp hx
  exact priAt_nn n S j
section
variable {P : Program} {w : World} {K : Frg} {mg : Str → Option Value} {base : Heap} {f : Addr} {fd : FuncData} {k : Nat}
end
/-- what guest i wants at prices p -/
def wantR (r p : List Int) (m : Nat) : List Int := if uu r (lf p) (rngI m) = 0 then [] else (rngI m).filter fun u => decide (gn r (lf p) (some u) = uu r (lf p) (rngI m))
def R_want : List Sl → D → Prop := fun ss v => ∃ (S : List (List Int)) (p : List Int) (g m i : Nat), ss = [.d (sal S), .d (tupI p), .d (.int i)] ∧ Sz S g m ∧ i < g ∧ p.length = m ∧ v = tupI (wantR (S.getD i []) p m)
def R_lwant : List Sl → D → Prop := fun ss v => ∃ (S : List (List Int)) (p : List Int) (g m i : Nat), ss = [.d (sal S), .d (tupI p), .d (.int i)] ∧ Sz S g m ∧ i < g ∧ p.length = m ∧ v = lsI (wantR (S.getD i []) p m)
theorem wantR_len (r p : List Int) (m : Nat) : (wantR r p m).length ≤ m := by
  unfold wantR
  split
  · exact Nat.zero_le _
  · exact Nat.le_trans (List.length_filter_le _ _) (by rw [rngI_len]; exact Nat.le_refl _)
theorem wantR_mem {r p : List Int} {m : Nat} {t : Int} (h : t ∈ wantR r p m) : t ∈ rngI m := by
  unfold wantR at h
  split at h
  · cases h
  · exact (List.mem_filter.mp h).1
section
variable {P : Program} {w : World} {K : Frg} {mg : Str → Option Value} {base : Heap} {f : Addr} {fd : FuncData} {k : Nat}
end
end Bid

namespace Bid
open PySem PySem.Spec PyProof.Rows L2
def R_law : List Sl → D → Prop := fun ss r => ∃ (ns : List Int), ss = [.d (lsI ns)] ∧ ns.length ≤ 63 ∧ r = .bool true
/-- the law's end: its script is a list of ints, True comes out -/
theorem dp_of_ints {K : Frg} {H : Hp} : ∀ ns : List Int, DpAll K H (ns.map V.int) (ns.map PyData.int)
  | [] => .nil
  | n :: ns => .cons (.int n) (dp_of_ints ns)
theorem law_end {P : Program} {w : World} {K : Frg} {H : Hp} {a : Addr} {ns : List Int} (hl : ns.length ≤ 63) (hS : SqL K H a (ns.map V.int)) : spP P w K R_law [.ref a] H (fun v _ => v = .bl true) fun _ _ _ => False :=
  ⟨H, [.d (lsI ns)], [], .bool true, [], .cons (show SlR K H (.ref a) (.d (lsI ns)) from .lst hS (dp_of_ints ns)) .nil, ⟨rfl, rfl, ns, rfl, hl, rfl⟩, Same.refl H, (fun _ h => (nomatch h)), List.nodup_nil, fun v B' H' _ hd => by cases hd; rfl⟩
theorem saleN_sz {n : Int} {g t : Nat} (g1 : 1 ≤ g) (g6 : g ≤ 6) (t1 : 1 ≤ t) (t7 : t ≤ 7) : Sz (saleN n g t) g t := ⟨by unfold saleN; rw [List.length_map, List.length_range, Int.toNat_natCast], g1, g6, t1, t7, fun r hr => by
  unfold saleN at hr
  obtain ⟨i, _, rfl⟩ := List.mem_map.mp hr
  rw [List.length_map, List.length_range, Int.toNat_natCast]⟩
theorem draw_nat {x : Int} {b : Nat} (hb : 0 < b) : ∃ n : Nat, 1 + x % (b : Int) = (n : Int) ∧ 1 ≤ n ∧ n ≤ b := by
  have h1 : 0 ≤ x % (b : Int) := Int.emod_nonneg _ (by omega)
  have h2 : x % (b : Int) < b := Int.emod_lt_of_pos _ (by omega)
  exact ⟨(1 + x % (b : Int)).toNat, by omega, by omega, by omega⟩
theorem draw_mod {x : Int} {b : Nat} (hb : 0 < b) : ∃ n : Nat, x % (b : Int) = (n : Int) ∧ n < b := by
  have h1 : 0 ≤ x % (b : Int) := Int.emod_nonneg _ (by omega)
  have h2 : x % (b : Int) < b := Int.emod_lt_of_pos _ (by omega)
  exact ⟨(x % (b : Int)).toNat, by omega, by omega⟩
theorem saleN_row {n : Int} {g t : Nat} : ∀ r ∈ saleN n g t, r.length = t := fun r hr => by
  unfold saleN at hr
  obtain ⟨i, _, rfl⟩ := List.mem_map.mp hr
  rw [List.length_map, List.length_range, Int.toNat_natCast]
theorem saleN_len {n : Int} {g t : Nat} : (saleN n g t).length = g := by unfold saleN; rw [List.length_map, List.length_range, Int.toNat_natCast]
theorem range_at {m i a : Nat} (h : (List.range m)[i]? = some a) : a = i ∧ i < m := by
  have hi : i < m := by have := (List.getElem?_eq_some_iff.mp h).1; rw [List.length_range] at this; exact this
  rw [List.getElem?_range hi] at h
  exact ⟨(Option.some.inj h).symm, hi⟩
theorem atI_nats {r : List Int} {i : Nat} (h : i < r.length) : atI (r.map PyData.int) (i : Int) = some (.int (r.getD i 0)) := by
  have := atI_ints (r := r) (t := (i : Int)) (by omega) (by rw [Int.toNat_natCast]; exact h)
  rw [Int.toNat_natCast] at this
  exact this
theorem atI_least {S : List (List Int)} {m i : Nat} (h : i < m) : atI ((leastM S m).map PyData.int) (i : Int) = some (.int (mostM (twiceM S (i : Int)) (m + 1) - mostM S m)) := by
  rw [← leastM_at h]
  exact atI_nats (by rw [leastM_len]; exact h)
theorem atI_great {S : List (List Int)} {m i : Nat} (h : i < m) : atI ((greatM S m).map PyData.int) (i : Int) = some (.int (mostM S m - (bestF S (lessT (rngI m) (i : Int))).1)) := by
  rw [← greatM_at h]
  exact atI_nats (by rw [greatM_len]; exact h)
theorem priB_tup {p : List Int} {m : Nat} (hl : p.length = m) (h0 : ∀ x ∈ p, 0 ≤ x ∧ x ≤ 10000000) : priB m (tupI p) = true := by
  show (decide ((p.map PyData.int).length = m) && (p.map PyData.int).all (numB 0 10000000)) = true
  rw [List.length_map, Bool.and_eq_true]
  refine ⟨decide_eq_true hl, ?_⟩
  rw [List.all_eq_true]
  intro d hd
  obtain ⟨x, hx, rfl⟩ := List.mem_map.mp hd
  have := h0 x hx
  simp [numB]
  omega
theorem shp_gv (os : List (Option Int)) : Shp 8 (gvD os) := by
  have := shp_tup (n := 0) (ds := os.map oD) fun d hd => by
    obtain ⟨o, _, rfl⟩ := List.mem_map.mp hd
    cases o with
    | none => exact shp_non
    | some t => exact shp_int t
  exact ⟨this.1, Nat.le_trans this.2 (by decide)⟩
theorem shp_ti (p : List Int) : Shp 8 (tupI p) := ⟨(shp_row p).1, Nat.le_trans (shp_row p).2 (by decide)⟩
theorem mem_lf {p : List Int} {m : Nat} (hl : p.length = m) {x : Int} (hx : x ∈ p) : ∃ t ∈ rngI m, lf p t = x := by
  obtain ⟨i, hi, e⟩ := List.mem_iff_getElem.mp hx
  refine ⟨(i : Int), mem_rngI.mpr ⟨by omega, by omega⟩, ?_⟩
  show p.getD (Int.toNat (i : Int)) 0 = x
  rw [Int.toNat_natCast, List.getD_eq_getElem?_getD, List.getElem?_eq_getElem hi, e]
  rfl
theorem saleN_ent {n : Int} {g t : Int} : ∀ r ∈ saleN n g t, ∀ b ∈ r, 0 ≤ b ∧ b ≤ 1000000 := fun r hr b hb => by
  unfold saleN at hr
  obtain ⟨i, _, rfl⟩ := List.mem_map.mp hr
  obtain ⟨j, _, rfl⟩ := List.mem_map.mp hb
  have h1 := highN_pos n
  have h2 : highN n ≤ 1000001 := by unfold highN; split; decide; split; decide; split <;> decide
  have h3 : 0 ≤ drawnN (drawnN n (i : Int)) (j : Int) / 4 % highN n := Int.emod_nonneg _ (by omega)
  have h4 : drawnN (drawnN n (i : Int)) (j : Int) / 4 % highN n < highN n := Int.emod_lt_of_pos _ h1
  omega
theorem fair_true {p : Prop} (h : p) : (true = true ↔ p) := ⟨fun _ => h, fun _ => rfl⟩
theorem fair_false {p : Prop} (h : ¬ p) : (false = true ↔ p) := ⟨fun q => (nomatch q), fun q => absurd q h⟩
theorem lf_set {p : List Int} {j : Nat} {v : Int} (h : j < p.length) : lf (p.set j v) (j : Int) = v := by
  show (p.set j v).getD (Int.toNat (j : Int)) 0 = v
  rw [Int.toNat_natCast, List.getD_eq_getElem?_getD, List.getElem?_set_self h]
  rfl
theorem nn_set {p : List Int} {j : Nat} {v : Int} (h : ∀ x ∈ p, 0 ≤ x) (hv : 0 ≤ v) : ∀ x ∈ p.set j v, 0 ≤ x := fun x hx => by
  rcases List.mem_or_eq_of_mem_set hx with q | q
  · exact h x q
  · rw [q]; exact hv
theorem nn_opt {S : List (List Int)} {m : Nat} {p : List Int} (hl : p.length = m) (h : Opt S (rngI m) (lf p)) : ∀ x ∈ p, 0 ≤ x := fun x hx => by
  obtain ⟨u, hu, e⟩ := mem_lf hl hx
  rw [← e]
  exact h.nn u hu
theorem lf_map {m : Nat} (f : Int → Int) {t : Int} (ht : t ∈ rngI m) : lf ((rngI m).map f) t = f t := by
  have h := mem_rngI.mp ht
  show ((rngI m).map f).getD t.toNat 0 = f t
  have e : (rngI m)[t.toNat]? = some t := by
    unfold rngI
    rw [List.getElem?_map, List.getElem?_range (by omega)]
    show some ((t.toNat : Nat) : Int) = some t
    rw [Int.toNat_of_nonneg h.1]
  rw [List.getD_eq_getElem?_getD, List.getElem?_map, e]
  rfl
theorem lf_nat (p : List Int) (j : Nat) : lf p (j : Int) = p.getD j 0 := by
  show p.getD (Int.toNat (j : Int)) 0 = _
  rw [Int.toNat_natCast]
theorem atI_lf {p : List Int} {m : Nat} (hl : p.length = m) {t : Int} (ht : t ∈ rngI m) : atI (p.map PyData.int) t = some (.int (lf p t)) := by
  have h := mem_rngI.mp ht
  exact atI_ints h.1 (by omega)
end Bid

namespace Bid
open PySem PySem.Spec PyProof.Rows L2
def rowB (n : Nat) : D → Bool
  | .tuple ds => decide (ds.length = n) && ds.all (numB 0 1000000)
  | _ => false
def saleB : D → Bool
  | .tuple (.tuple es :: ds) => decide (ds.length ≤ 5) && ((decide (1 ≤ es.length) && decide (es.length ≤ 6)) && (PyData.tuple es :: ds).all (rowB es.length))
  | _ => false
def kids : D → List D
  | .tuple ds => ds
  | .list ds => ds
  | _ => []
def shortD2 (d : D) : Prop := shortD d ∧ ∀ e ∈ kids d, shortD e
/-- .. or longer -/
def shortE : D → Prop
  | .tuple ds => ds.length ≤ 95000
  | .list ds => ds.length ≤ 95000
  | _ => True
def shortF (d : D) : Prop := shortE d ∧ ∀ e ∈ kids d, shortE e
theorem shortE_of {d : D} (h : shortD d) : shortE d := by
  cases d with
  | tuple ds => exact Nat.le_trans (show ds.length ≤ 1000 from h) (by decide)
  | list ds => exact Nat.le_trans (show ds.length ≤ 1000 from h) (by decide)
  | _ => trivial
theorem shortF_of {d : D} (h : shortD2 d) : shortF d := ⟨shortE_of h.1, fun e he => shortE_of (h.2 e he)⟩
def R_row : List Sl → D → Prop := fun ss v => ∃ (d : D) (n : Nat), ss = [.d d, .d (.int (n : Int))] ∧ shortE d ∧ v = .bool (rowB n d)
def R_issale : List Sl → D → Prop := fun ss v => ∃ (d : D), ss = [.d d] ∧ shortF d ∧ v = .bool (saleB d)
def R_lissale : List Sl → D → Prop := fun ss v => ∃ (d : D), ss = [.d d] ∧ shortF d ∧ Shp 8 d ∧ v = .bool (saleB d)
theorem atI_hd (e : D) (es : List D) : atI (e :: es) 0 = some e := atI_of (by decide) rfl
theorem isTup_of {d : D} (h : isTup d = true) : ∃ ds, d = .tuple ds := by cases d <;> first | exact ⟨_, rfl⟩ | (cases h; done)
theorem row_no {d : D} {n : Nat} (h : isTup d = false) : rowB n d = false := by cases d <;> first | rfl | (cases h; done)
theorem sale_no {d : D} (h : isTup d = false) : saleB d = false := by cases d <;> first | rfl | (cases h; done)
theorem sale_hd {e : D} {ds : List D} (h : isTup e = false) : saleB (.tuple (e :: ds)) = false := by cases e <;> first | rfl | (cases h; done)
theorem dec_len (n m : Nat) : decide ((n : Int) = (m : Int)) = decide (n = m) := decide_eq_decide.mpr ⟨fun h => by omega, fun h => by omega⟩
theorem bools_all {α : Type} (f : α → Bool) (l : List α) : (l.map f).all id = l.all f := by rw [List.all_map]; rfl
section
variable {P : Program} {w : World} {K : Frg} {mg : Str → Option Value} {base : Heap} {f : Addr} {fd : FuncData} {k : Nat}
theorem ok_is_number (F : F_is_number K f fd) (T : Bt mg) : FnOk P w K mg base CX0 (k + 1) f fd p_is_number (spP P w K R_num0) := by
  refine fn_R F sc_is_number (lenP fun ss r h => by obtain ⟨d, hi, rfl, _⟩ := h; rfl) ?_
  intro cdv A outer s H E G ss O O' r hr hR
  obtain ⟨rfl, rfl, d, hi, rfl, rfl⟩ := hR
  cases hi0 : isInt0 d with
  | false =>
    refine ds_one (ds_ret (de_and (k := false) (l := false) (de_is (de_isi (d := d) (T := "int") (Tn := "int") (kit_int d) T.isinstance T.int (by rfl) (de_var 0)) (by rw [hi0])) (fun h => by cases h)) ⟨?_, fun _ h => h⟩)
    cases d <;> first | rfl | (cases hi0)
  | true =>
    cases hb0 : isBool0 d with
    | true =>
      refine ds_one (ds_ret (de_and (k := true) (l := false) (de_is (de_isi (d := d) (T := "int") (Tn := "int") (kit_int d) T.isinstance T.int (by rfl) (de_var 0)) (by rw [hi0])) (fun _ => de_and (k := false) (l := false) (de_is (de_not (de_isi (d := d) (T := "bool") (Tn := "bool") (kit_bool d) T.isinstance T.bool (by rfl) (de_var 0))) (by rw [hb0]; rfl)) (fun h => by cases h))) ⟨?_, fun _ h => h⟩)
      cases d <;> first | rfl | (cases hb0)
    | false =>
      obtain ⟨x, rfl⟩ : ∃ x, d = .int x := by cases d <;> first | exact ⟨_, rfl⟩ | (cases hi0; done) | (cases hb0; done)
      exact ds_one (ds_ret (de_and (k := true) (l := decide (0 ≤ x) && decide (x ≤ hi)) (de_isi (d := .int x) (T := "int") (Tn := "int") (kit_int _) T.isinstance T.int (by rfl) (de_var 0)) (fun _ => de_and (k := true) (de_is (de_not (de_isi (d := .int x) (T := "bool") (Tn := "bool") (kit_bool _) T.isinstance T.bool (by rfl) (de_var 0))) rfl) (fun _ => de_one (de_chain de_int (de_var 0) (de_var 1))))) ⟨rfl, fun _ h => h⟩)
theorem ok_is_row (F : F_is_row K f fd) (T : Bt mg) (Ki_GREATEST_BID : Gi mg "GREATEST_BID" 1000000) (c1 : Cf P w K mg base k "is_number" (spP P w K R_num0)) : FnOk P w K mg base CX0 (k + 1) f fd p_is_row (spP P w K R_row) := by
  obtain ⟨tm, hgb⟩ := Ki_GREATEST_BID
  refine fn_R F sc_is_row (lenP fun ss r h => by obtain ⟨d, n, rfl, _⟩ := h; rfl) ?_
  intro cdv A outer s H E G ss O O' r hr hR
  obtain ⟨rfl, rfl, d, n, rfl, hd, rfl⟩ := hR
  have hN := sc_is_row.nd
  cases ht : isTup d with
  | false =>
    rw [row_no ht]
    exact ds_one (ds_ret (de_and (k := false) (l := false) (de_is (de_isi (d := d) (T := "tuple") (Tn := "tuple") (kit_tup d) T.isinstance T.tuple (by rfl) (de_var 0)) (by rw [ht])) (fun h => by cases h)) ⟨rfl, fun _ h => h⟩)
  | true =>
    obtain ⟨ds, rfl⟩ := isTup_of ht
    have hd : ds.length ≤ 95000 := hd
    exact ds_one (ds_ret (de_and (k := true) (l := rowB n (.tuple ds)) (de_isi (d := .tuple ds) (T := "tuple") (Tn := "tuple") (kit_tup _) T.isinstance T.tuple (by rfl) (de_var 0)) (fun _ => de_and (k := decide (ds.length = n)) (l := ds.all (numB 0 1000000)) (de_is (de_eqI (de_lenT T.len (de_var 0)) (de_var 1)) (by rw [dec_len]))
      (fun _ => de_one (de_is (de_all (bs := ds.map (numB 0 1000000)) T.all (de_is (de_lc0 (xs := ds) (fun x => x) (fun x => .bool (numB 0 1000000 x)) 2 (di_id (di_tup (de_var 0))) (fun x hx _ O s0 H0 C cl fp => de_call (c1.cal hr) (da_cons (de_var 2) (da_cons (de_gint hgb) da_nil)) ⟨x, 1000000, rfl, rfl⟩) (by omega) hN) (by rw [List.map_map]; rfl))) (by rw [bools_all]))))) ⟨rfl, fun _ h => h⟩)
theorem ok_is_sale (F : F_is_sale K f fd) (T : Bt mg) (Ki_MOST : Gi mg "MOST" 6) (c1 : Cf P w K mg base k "is_row" (spP P w K R_row)) : FnOk P w K mg base CX0 (k + 1) f fd p_is_sale (spP P w K R_issale) := by
  obtain ⟨tm, hmost⟩ := Ki_MOST
  refine fn_R F sc_is_sale (lenP fun ss r h => by obtain ⟨d, rfl, _⟩ := h; rfl) ?_
  intro cdv A outer s H E G ss O O' r hr hR
  obtain ⟨rfl, rfl, d, rfl, ⟨hd, hk⟩, rfl⟩ := hR
  have hN := sc_is_sale.nd
  cases ht : isTup d with
  | false =>
    rw [sale_no ht]
    exact ds_cons (ds_if (k := true) (dt_or (k := true) (l := false) (dt_is (dt_not (dt_val (de_isi (d := d) (T := "tuple") (Tn := "tuple") (kit_tup d) T.isinstance T.tuple (by rfl) (de_var 0)))) (by rw [ht]; rfl)) (fun h => by cases h)) (fun _ => ds_one (ds_ret de_bl ⟨rfl, fun _ h => h⟩)) (fun h => by cases h))
  | true =>
    obtain ⟨ds, rfl⟩ := isTup_of ht
    have hd : ds.length ≤ 95000 := hd
    by_cases hl : 1 ≤ ds.length ∧ ds.length ≤ 6
    · obtain ⟨e, es, rfl⟩ : ∃ e es, ds = e :: es := by
        cases ds with
        | nil => exact absurd hl.1 (by simp)
        | cons e es => exact ⟨e, es, rfl⟩
      have hl2 : (decide ((1 : Int) ≤ ((e :: es).length : Int)) && decide (((e :: es).length : Int) ≤ 6)) = true := by rw [decide_eq_true (by omega), decide_eq_true (by omega)]; rfl
      cases he : isTup e with
      | false =>
        rw [sale_hd he]
        exact ds_cons (ds_if (k := true) (dt_or (k := false) (l := true) (dt_not (dt_val (k := true) (de_isi (d := .tuple (e :: es)) (T := "tuple") (Tn := "tuple") (kit_tup _) T.isinstance T.tuple (by rfl) (de_var 0)))) (fun _ => dw_or (k := false) (l := true) (dt_is (dt_not (dt_chain de_int (de_lenT T.len (de_var 0)) (de_gint hmost))) (by rw [hl2]; rfl))
          (fun _ => dw_or1 (dt_is (dt_not (dt_val (de_isi (d := e) (T := "tuple") (Tn := "tuple") (kit_tup e) T.isinstance T.tuple (by rfl) (de_ixT (atI_hd e es) (de_var 0) de_int)))) (by rw [he]; rfl))))) (fun _ => ds_one (ds_ret de_bl ⟨rfl, fun _ h => h⟩)) (fun h => by cases h))
      | true =>
        obtain ⟨rs, rfl⟩ := isTup_of he
        refine ds_cons (ds_if (k := false) (dt_or (k := false) (l := false) (dt_not (dt_val (k := true) (de_isi (d := .tuple (.tuple rs :: es)) (T := "tuple") (Tn := "tuple") (kit_tup _) T.isinstance T.tuple (by rfl) (de_var 0)))) (fun _ => dw_or (k := false) (l := false) (dt_is (dt_not (dt_chain de_int (de_lenT T.len (de_var 0)) (de_gint hmost))) (by rw [hl2]; rfl))
          (fun _ => dw_or1 (dt_not (dt_val (k := true) (de_isi (d := .tuple rs) (T := "tuple") (Tn := "tuple") (kit_tup _) T.isinstance T.tuple (by rfl) (de_ixT (atI_hd (.tuple rs) es) (de_var 0) de_int))))))) (fun h => by cases h) (fun _ => ds_nil ?_))
        refine ds_cons (ds_set 1 (d := .int (rs.length : Int)) (de_lenT T.len (de_ixT (atI_hd (.tuple rs) es) (de_var 0) de_int)) ?_ hN)
        refine ds_one (ds_ret (de_and (k := decide (1 ≤ rs.length) && decide (rs.length ≤ 6)) (l := (PyData.tuple rs :: es).all (rowB rs.length)) (de_is (de_chain de_int (de_var 1) (de_gint hmost)) ?_)
          (fun _ => de_one (de_is (de_all (bs := (PyData.tuple rs :: es).map (rowB rs.length)) T.all (de_is (de_lc0 (xs := PyData.tuple rs :: es) (fun x => x) (fun x => .bool (rowB rs.length x)) 2 (di_id (di_tup (de_var 0))) (fun x hx _ O s0 H0 C cl fp => de_call (c1.cal hr) (da_cons (de_var 2) (da_cons (de_var 1) da_nil)) ⟨x, rs.length, rfl, hk x hx, rfl⟩) (by omega) hN) (by rw [List.map_map]; rfl))) (by rw [bools_all])))) ⟨?_, fun _ h => h⟩)
        · congr 1
          congr 1 <;> exact decide_eq_decide.mpr ⟨fun h => by omega, fun h => by omega⟩
        · have h5 : es.length ≤ 5 := by have := hl.2; rw [List.length_cons] at this; omega
          show _ = Sl.d (PyData.bool (decide (es.length ≤ 5) && _))
          rw [decide_eq_true h5, Bool.true_and]
    · have hl2 : (decide ((1 : Int) ≤ (ds.length : Int)) && decide ((ds.length : Int) ≤ 6)) = false := by
        rw [Bool.and_eq_false_iff]
        by_cases h1 : 1 ≤ ds.length
        · exact .inr (decide_eq_false (by omega))
        · exact .inl (decide_eq_false (by omega))
      have hsl : saleB (.tuple ds) = false := by
        cases ds with
        | nil => rfl
        | cons e es =>
          cases e with
          | tuple rs =>
            have h5 : ¬ es.length ≤ 5 := fun h => hl ⟨by simp, by rw [List.length_cons]; omega⟩
            show (decide (es.length ≤ 5) && _) = false
            rw [decide_eq_false h5, Bool.false_and]
          | _ => rfl
      rw [hsl]
      exact ds_cons (ds_if (k := true) (dt_or (k := false) (l := true) (dt_not (dt_val (k := true) (de_isi (d := .tuple ds) (T := "tuple") (Tn := "tuple") (kit_tup _) T.isinstance T.tuple (by rfl) (de_var 0)))) (fun _ => dw_or (k := true) (l := false) (dt_is (dt_not (dt_chain de_int (de_lenT T.len (de_var 0)) (de_gint hmost))) (by rw [hl2]; rfl)) (fun h => by cases h)))
        (fun _ => ds_one (ds_ret de_bl ⟨rfl, fun _ h => h⟩)) (fun h => by cases h))
end
def okR : D → Bool
  | .tuple es => (decide (1 ≤ es.length) && decide (es.length ≤ 6)) && es.all (numB 0 1000000)
  | _ => false
def lenR : D → Nat
  | .tuple es => es.length
  | _ => 0
theorem rowB_iff {n : Nat} {d : D} (h : okR d = true) : rowB n d = decide (lenR d = n) := by
  cases d with
  | tuple es =>
    have h : ((decide (1 ≤ es.length) && decide (es.length ≤ 6)) && es.all (numB 0 1000000)) = true := h
    rw [Bool.and_eq_true] at h
    show (decide (es.length = n) && es.all (numB 0 1000000)) = decide (es.length = n)
    rw [h.2, Bool.and_true]
  | _ => cases h
theorem sale_okR {ds : List D} (h : saleB (.tuple ds) = true) : ∀ e ∈ ds, okR e = true := by
  cases ds with
  | nil => cases h
  | cons e es =>
    cases e with
    | tuple rs =>
      have h : (decide (es.length ≤ 5) && ((decide (1 ≤ rs.length) && decide (rs.length ≤ 6)) && (PyData.tuple rs :: es).all (rowB rs.length))) = true := h
      rw [Bool.and_eq_true, Bool.and_eq_true, List.all_eq_true] at h
      intro x hx
      have h1 := h.2.2 x hx
      cases x with
      | tuple ys =>
        have h1 : (decide (ys.length = rs.length) && ys.all (numB 0 1000000)) = true := h1
        rw [Bool.and_eq_true, decide_eq_true_eq] at h1
        show ((decide (1 ≤ ys.length) && decide (ys.length ≤ 6)) && ys.all (numB 0 1000000)) = true
        rw [h1.1, h.2.1, h1.2]
        rfl
      | _ => cases h1
    | _ => cases h
theorem sale_lens {ds : List D} (h1 : 1 ≤ ds.length) (h6 : ds.length ≤ 6) (h : ∀ e ∈ ds, okR e = true) : saleB (.tuple ds) = true ↔ ∃ n : Nat, ∀ e ∈ ds, lenR e = n := by
  cases ds with
  | nil => exact absurd h1 (by simp)
  | cons e es =>
    have he := h e (List.mem_cons_self ..)
    cases e with
    | tuple rs =>
      have he : ((decide (1 ≤ rs.length) && decide (rs.length ≤ 6)) && rs.all (numB 0 1000000)) = true := he
      rw [Bool.and_eq_true] at he
      have h5 : es.length ≤ 5 := by rw [List.length_cons] at h6; omega
      have e1 : saleB (.tuple (.tuple rs :: es)) = (PyData.tuple rs :: es).all (rowB rs.length) := by
        show (decide (es.length ≤ 5) && ((decide (1 ≤ rs.length) && decide (rs.length ≤ 6)) && (PyData.tuple rs :: es).all (rowB rs.length))) = _
        rw [decide_eq_true h5, he.1, Bool.true_and, Bool.true_and]
      rw [e1, List.all_eq_true]
      constructor
      · intro q
        refine ⟨rs.length, fun x hx => ?_⟩
        have := q x hx
        rw [rowB_iff (h x hx)] at this
        exact of_decide_eq_true this
      · rintro ⟨n, q⟩ x hx
        have h0 : rs.length = n := q (.tuple rs) (List.mem_cons_self ..)
        rw [rowB_iff (h x hx)]
        exact decide_eq_true (by rw [q x hx, h0])
    | _ => cases he
structure Szs (kvs : List (Int × D)) (l : List D) : Prop where
  nd : (kvs.map (·.1)).Nodup
  key : ∀ k, k ∈ kvs.map (·.1) ↔ ∃ e ∈ l, (lenR e : Int) = k
  len : kvs.length ≤ l.length
theorem isSome_key {kvs : List (Int × D)} {k : Int} : (valD kvs k).isSome = true ↔ k ∈ kvs.map (·.1) := by
  unfold valD
  rw [Option.isSome_map, List.find?_isSome, List.mem_map]
  constructor
  · rintro ⟨p, hp, e⟩
    exact ⟨p, hp, of_decide_eq_true e⟩
  · rintro ⟨p, hp, e⟩
    exact ⟨p, hp, decide_eq_true e⟩
theorem Szs.put {kvs : List (Int × D)} {l : List D} {e : D} {v : D} (h : Szs kvs l) : Szs (putD kvs (lenR e : Int) v) (l ++ [e]) := by
  have hl := len_putD kvs (lenR e : Int) v
  have h3 := h.len
  have hk : (putD kvs (lenR e : Int) v).map (·.1) = if (valD kvs (lenR e : Int)).isSome = true then kvs.map (·.1) else kvs.map (·.1) ++ [(lenR e : Int)] := by
    unfold putD
    split
    · rw [List.map_map]
      refine List.map_congr_left fun p _ => ?_
      show (if p.1 = (lenR e : Int) then (p.1, v) else p).1 = p.1
      split <;> rfl
    · rw [List.map_append]
      rfl
  have hn : ¬ (valD kvs (lenR e : Int)).isSome = true → (lenR e : Int) ∉ kvs.map (·.1) := fun h z => h (isSome_key.mpr z)
  refine ⟨?_, fun k => ?_, by rw [List.length_append]; show _ ≤ l.length + 1; omega⟩
  · rw [hk]
    split
    · exact h.nd
    · rename_i z
      rw [List.nodup_append]
      refine ⟨h.nd, by simp, fun a ha b hb q => ?_⟩
      rw [List.mem_singleton] at hb
      subst hb
      subst q
      exact hn z ha
  · have e1 : (∃ x ∈ l ++ [e], (lenR x : Int) = k) ↔ (∃ x ∈ l, (lenR x : Int) = k) ∨ (lenR e : Int) = k := by
      constructor
      · rintro ⟨x, hx, q⟩
        rcases List.mem_append.mp hx with z | z
        · exact .inl ⟨x, z, q⟩
        · rw [List.mem_singleton.mp z] at q
          exact .inr q
      · rintro (⟨x, hx, q⟩ | q)
        · exact ⟨x, List.mem_append_left _ hx, q⟩
        · exact ⟨e, List.mem_append_right _ (List.mem_singleton.mpr rfl), q⟩
    rw [e1, ← h.key k, hk]
    split
    · rename_i z
      exact ⟨.inl, fun q => q.elim id fun q => q ▸ isSome_key.mp z⟩
    · rw [List.mem_append, List.mem_singleton]
      exact ⟨fun q => q.imp id Eq.symm, fun q => q.imp id Eq.symm⟩
theorem Szs.one {kvs : List (Int × D)} {l : List D} (h : Szs kvs l) (hl : 1 ≤ l.length) : kvs.length = 1 ↔ ∃ n : Nat, ∀ e ∈ l, lenR e = n := by
  constructor
  · intro q
    match kvs, q, h with
    | [p], _, h =>
      have h1 : ∀ e ∈ l, (lenR e : Int) = p.1 := fun e he => by
        have := (h.key (lenR e : Int)).mpr ⟨e, he, rfl⟩
        exact List.mem_singleton.mp this
      match l, hl with
      | x :: l', _ =>
        refine ⟨lenR x, fun e he => ?_⟩
        have a := h1 e he
        have b := h1 x (List.mem_cons_self ..)
        omega
  · rintro ⟨n, q⟩
    have h1 : ∀ k ∈ kvs.map (·.1), k = (n : Int) := fun k hk => by
      obtain ⟨e, he, z⟩ := (h.key k).mp hk
      rw [← z, q e he]
    have h2 : (kvs.map (·.1)).length ≤ [(n : Int)].length := List.Nodup.length_le_of_subset h.nd fun k hk => List.mem_singleton.mpr (h1 k hk)
    rw [List.length_map] at h2
    have h3 : 1 ≤ kvs.length := by
      match l, hl with
      | x :: l', _ =>
        have := (h.key (lenR x : Int)).mpr ⟨x, List.mem_cons_self .., rfl⟩
        have := List.length_pos_of_mem this
        rw [List.length_map] at this
        exact this
    have h4 : [(n : Int)].length = 1 := rfl
    omega
section
variable {P : Program} {w : World} {K : Frg} {mg : Str → Option Value} {base : Heap} {f : Addr} {fd : FuncData} {k : Nat}
theorem ok_l_is_sale (F : F_l_is_sale K f fd) (T : Bt mg) (c1 : Cf P w K mg base k "_law_number" (spP P w K R_num)) : FnOk P w K mg base CX0 (k + 1) f fd p_l_is_sale (spP P w K R_lissale) := by
  refine fn_R F sc_l_is_sale (lenP fun ss r h => by obtain ⟨d, rfl, _⟩ := h; rfl) ?_
  intro cdv A outer s H E G ss O O' r hr hR
  obtain ⟨rfl, rfl, d, rfl, ⟨hd, hk⟩, hsh, rfl⟩ := hR
  have hN := sc_l_is_sale.nd
  cases ht : isTup d with
  | false =>
    rw [sale_no ht]
    exact ds_cons (ds_if (k := true) (dt_or (k := true) (l := false) (dt_is (dt_not (dt_val (de_isi (d := d) (T := "tuple") (Tn := "tuple") (kit_tup d) T.isinstance T.tuple (by rfl) (de_var 0)))) (by rw [ht]; rfl)) (fun h => by cases h)) (fun _ => ds_one (ds_ret de_bl ⟨rfl, fun _ h => h⟩)) (fun h => by cases h))
  | true =>
    obtain ⟨ds, rfl⟩ := isTup_of ht
    have hd : ds.length ≤ 95000 := hd
    by_cases hl : 1 ≤ ds.length ∧ ds.length ≤ 6
    · have hl2 : (decide ((1 : Int) ≤ (ds.length : Int)) && decide ((ds.length : Int) ≤ 6)) = true := by rw [decide_eq_true (by omega), decide_eq_true (by omega)]; rfl
      refine ds_cons (ds_if (k := false) (dt_or (k := false) (l := false) (dt_not (dt_val (k := true) (de_isi (d := .tuple ds) (T := "tuple") (Tn := "tuple") (kit_tup _) T.isinstance T.tuple (by rfl) (de_var 0)))) (fun _ => dw_or1 (dt_is (dt_not (dt_chain de_int (de_lenT T.len (de_var 0)) de_int)) (by rw [hl2]; rfl)))) (fun h => by cases h) (fun _ => ds_nil ?_))
      refine ds_cons (ds_newD 1 (fun q => ?_) hN)
      refine ds_cons (ds_for (xs := ds) (fun x => x) 2 (fun i ρ O => ∃ y2 y3 kvs, ρ = [some (.d (.tuple ds)), some (.own q), y2, y3] ∧ O = [(q, .dK kvs)] ∧ (∀ e ∈ ds.take i, okR e = true) ∧ Szs kvs (ds.take i))
        (di_id (di_tup (de_var 0))) ⟨none, none, [], rfl, rfl, (by rw [List.take_zero]; exact fun _ h => nomatch h), ⟨List.nodup_nil, fun k => by rw [List.take_zero]; simp, Nat.zero_le _⟩⟩ (fun i e ρ' O' he hI => ?_) (fun ρ' O' hI => ?_) hN)
      · obtain ⟨y2, y3, kvs, rfl, rfl, hok, hz⟩ := hI
        have hem := List.mem_of_getElem? he
        have hse := hk e hem
        have bad : okR e = false → saleB (.tuple ds) = false := fun h => by
          cases q : saleB (.tuple ds) with
          | false => rfl
          | true => rw [sale_okR q e hem] at h; cases h
        have htk : ds.take (i + 1) = ds.take i ++ [e] := by rw [List.take_add_one, he]; rfl
        have hkl : kvs.length ≤ 95000 := by have h1 := hz.len; rw [List.length_take] at h1; omega
        cases hte : isTup e with
        | false =>
          rw [bad (by cases e <;> first | rfl | (cases hte; done))]
          exact ds_cons (ds_if (k := true) (dt_or (k := true) (l := false) (dt_is (dt_not (dt_val (de_isi (d := e) (T := "tuple") (Tn := "tuple") (kit_tup e) T.isinstance T.tuple (by rfl) (de_var 2)))) (by rw [hte]; rfl)) (fun h => by cases h)) (fun _ => ds_one (ds_ret de_bl ⟨rfl, fun _ h => nomatch h⟩)) (fun h => by cases h))
        | true =>
          obtain ⟨es, rfl⟩ := isTup_of hte
          have hse : es.length ≤ 95000 := hse
          by_cases hle : 1 ≤ es.length ∧ es.length ≤ 6
          · have hle2 : (decide ((1 : Int) ≤ (es.length : Int)) && decide ((es.length : Int) ≤ 6)) = true := by rw [decide_eq_true (by omega), decide_eq_true (by omega)]; rfl
            have hle3 : (decide (1 ≤ es.length) && decide (es.length ≤ 6)) = true := by rw [decide_eq_true hle.1, decide_eq_true hle.2]; rfl
            refine ds_cons (ds_if (k := false) (dt_or (k := false) (l := false) (dt_not (dt_val (k := true) (de_isi (d := .tuple es) (T := "tuple") (Tn := "tuple") (kit_tup _) T.isinstance T.tuple (by rfl) (de_var 2)))) (fun _ => dw_or1 (dt_is (dt_not (dt_chain de_int (de_lenT T.len (de_var 2)) de_int)) (by rw [hle2]; rfl)))) (fun h => by cases h) (fun _ => ds_nil ?_))
            have hshp : Shp 8 (.list ((es.filter fun x => !numB 0 1000000 x).map fun x => x)) := shp_lst fun x hx => by
              obtain ⟨y, hy, rfl⟩ := List.mem_map.mp hx
              have h1 := Shp.tup (n := 6) (Shp.tup (n := 7) hsh _ hem) y (List.mem_filter.mp hy).1
              exact ⟨h1.1, Nat.le_trans h1.2 (by decide)⟩
            refine ds_cons (ds_if (k := !(es.all (numB 0 1000000))) (dt_is (dt_ne hr (shaped_of hshp) (by rfl) (de_lc (xs := es) (fun x => x) (fun x => !numB 0 1000000 x) (fun x => x) 3 (di_id (di_tup (de_var 2))) (fun x hx O s0 H0 C cl fp => dts_one (dt_not (dt_val (de_call (c1.cal hr) (da_cons (de_var 3) (da_cons de_int (da_cons de_int da_nil))) ⟨x, 0, _, rfl, rfl⟩)))) (fun x hx _ O s0 H0 C cl fp => de_var 3) (by omega) hN) (de_lst (ds := []) da_nil)) (by rw [eqv_nilL, List.isEmpty_map, filter_all])) (fun h => ?_) (fun h => ds_nil ?_))
            · have h2 : es.all (numB 0 1000000) = false := by simpa using h
              rw [bad (by show ((_ && _) && es.all (numB 0 1000000)) = false; rw [h2, Bool.and_false])]
              exact ds_one (ds_ret de_bl ⟨rfl, fun _ h => nomatch h⟩)
            · have h2 : es.all (numB 0 1000000) = true := by simpa using h
              have hoe : okR (.tuple es) = true := by
                show ((decide (1 ≤ es.length) && decide (es.length ≤ 6)) && es.all (numB 0 1000000)) = true
                rw [h2, hle3]
                rfl
              refine ds_one (ds_dput 1 hr de_bl (de_lenT T.len (de_var 2)) mem_one (by omega) ⟨_, _, _, rfl, by rw [setO_one], ?_, ?_⟩)
              · rw [htk]
                intro x hx
                rcases List.mem_append.mp hx with z | z
                · exact hok x z
                · rw [List.mem_singleton.mp z]; exact hoe
              · rw [htk]
                exact hz.put (e := .tuple es)
          · have hle2 : (decide ((1 : Int) ≤ (es.length : Int)) && decide ((es.length : Int) ≤ 6)) = false := by
              rw [Bool.and_eq_false_iff]
              by_cases h1 : 1 ≤ es.length
              · exact .inr (decide_eq_false (by omega))
              · exact .inl (decide_eq_false (by omega))
            have hle3 : (decide (1 ≤ es.length) && decide (es.length ≤ 6)) = false := by
              rw [Bool.and_eq_false_iff]
              by_cases h1 : 1 ≤ es.length
              · exact .inr (decide_eq_false (by omega))
              · exact .inl (decide_eq_false h1)
            rw [bad (by show ((decide (1 ≤ es.length) && decide (es.length ≤ 6)) && es.all (numB 0 1000000)) = false; rw [hle3, Bool.false_and])]
            exact ds_cons (ds_if (k := true) (dt_or (k := false) (l := true) (dt_not (dt_val (k := true) (de_isi (d := .tuple es) (T := "tuple") (Tn := "tuple") (kit_tup _) T.isinstance T.tuple (by rfl) (de_var 2)))) (fun _ => dw_or1 (dt_is (dt_not (dt_chain de_int (de_lenT T.len (de_var 2)) de_int)) (by rw [hle2]; rfl)))) (fun _ => ds_one (ds_ret de_bl ⟨rfl, fun _ h => nomatch h⟩)) (fun h => by cases h))
      · obtain ⟨y2, y3, kvs, rfl, rfl, hok, hz⟩ := hI
        rw [List.take_length] at hok hz
        refine ds_one (ds_ret (de_is (de_eqI (de_lenO 1 mem_one T.len) de_int) ?_) ⟨rfl, fun _ h => nomatch h⟩)
        congr 1
        rw [Bool.eq_iff_iff, decide_eq_true_iff, sale_lens hl.1 hl.2 hok, ← hz.one hl.1]
        omega
    · have hl2 : (decide ((1 : Int) ≤ (ds.length : Int)) && decide ((ds.length : Int) ≤ 6)) = false := by
        rw [Bool.and_eq_false_iff]
        by_cases h1 : 1 ≤ ds.length
        · exact .inr (decide_eq_false (by omega))
        · exact .inl (decide_eq_false (by omega))
      have hsl : saleB (.tuple ds) = false := by
        cases ds with
        | nil => rfl
        | cons e es =>
          cases e with
          | tuple rs =>
            have h5 : ¬ es.length ≤ 5 := fun h => hl ⟨by simp, by rw [List.length_cons]; omega⟩
            show (decide (es.length ≤ 5) && _) = false
            rw [decide_eq_false h5, Bool.false_and]
          | _ => rfl
      rw [hsl]
      exact ds_cons (ds_if (k := true) (dt_or (k := false) (l := true) (dt_not (dt_val (k := true) (de_isi (d := .tuple ds) (T := "tuple") (Tn := "tuple") (kit_tup _) T.isinstance T.tuple (by rfl) (de_var 0)))) (fun _ => dw_or1 (dt_is (dt_not (dt_chain de_int (de_lenT T.len (de_var 0)) de_int)) (by rw [hl2]; rfl)))) (fun _ => ds_one (ds_ret de_bl ⟨rfl, fun _ h => h⟩)) (fun h => by cases h))
end
end Bid

namespace Bid
open PySem PySem.Spec PyProof.Rows L2
def oddA : List D := [.int (-1), .int 0, .int 1, .int 6, .int 1000000, .int 1000001, .int 10000001, .bool true, .bool false, .none, .str "", .str "0", .tuple [], .list [], .tuple [.int 0], .tuple [.int 1, .int 2], .tuple [.none], .list [.int 0]]
def oddB : List D := [.tuple [.tuple [.int 0]], .tuple [.tuple [.int 1, .int 2], .tuple [.int 3, .int 4]], .tuple [.int 0, .int 0], .tuple [.bool true], .int 2, .int 5, .tuple [.int 1000001]]
def oddM (n : Int) : D := (oddA ++ oddB).getD (n % 25).toNat .none
def spT (ds : List D) (n : Int) : D := [PyData.list ds, .tuple (cutD ds none (some (-1))), .tuple (ds ++ cutD ds (some (-1)) none), .tuple (cutD ds (some 1) none), .tuple ds.reverse, .tuple (List.replicate 3 ds).flatten].getD (n % 6).toNat .none
def spI (i n : Int) : D := [PyData.str (toString i), .int (-i), .int (i + 1), .bool (decide (i = 1)), .int (i + 1000000)].getD (n % 5).toNat .none
def flatM : D → Int → D
  | .tuple ds, n => if (0 < ds.length) ∧ n / 6 % 2 = 0 then spT ds (n / 12) else oddM (n / 6)
  | .int i, n => if n / 6 % 2 = 0 then spI i (n / 12) else oddM (n / 6)
  | _, n => oddM (n / 6)
def spoiltM : Nat → D → Int → D
  | 0, d, n => flatM d n
  | j + 1, .tuple ds, n => if (0 < ds.length) ∧ 0 < n % 6 then .tuple (ds.set (n / 6 % (ds.length : Int)).toNat (spoiltM j (ds.getD (n / 6 % (ds.length : Int)).toNat .none) (n / 36))) else flatM (.tuple ds) n
  | _ + 1, d, n => flatM d n
def RawD : Nat → D → Prop
  | _, .none => True
  | _, .int i => i.natAbs ≤ 10000000
  | k + 1, .tuple ds => ds.length ≤ 6 ∧ ∀ e ∈ ds, RawD k e
  | _, _ => False
theorem RawD.up : ∀ {k : Nat} {d : D}, RawD k d → RawD (k + 1) d
  | _, .none, _ => by simp [RawD]
  | _, .int i, h => by simpa [RawD] using h
  | 0, .tuple ds, h => by simp [RawD] at h
  | k + 1, .tuple ds, h => by
    rw [RawD] at h
    rw [RawD]
    exact ⟨h.1, fun e he => (h.2 e he).up⟩
  | 0, .bool _, h => by simp [RawD] at h
  | _ + 1, .bool _, h => by simp [RawD] at h
  | 0, .str _, h => by simp [RawD] at h
  | _ + 1, .str _, h => by simp [RawD] at h
  | 0, .list _, h => by simp [RawD] at h
  | _ + 1, .list _, h => by simp [RawD] at h
  | 0, .dict _, h => by simp [RawD] at h
  | _ + 1, .dict _, h => by simp [RawD] at h
theorem raw_tup {k : Nat} {ds : List D} (h : RawD k (.tuple ds)) : ds.length ≤ 6 ∧ ∀ e ∈ ds, RawD k e := by
  cases k with
  | zero => simp [RawD] at h
  | succ k =>
    rw [RawD] at h
    exact ⟨h.1, fun e he => (h.2 e he).up⟩
theorem raw_int {k : Nat} {i : Int} (h : RawD k (.int i)) : i.natAbs ≤ 10000000 := by cases k <;> simpa [RawD] using h
theorem raw_cases {k : Nat} {d : D} (h : RawD k d) : d = .none ∨ (∃ i, d = .int i) ∨ ∃ ds, d = .tuple ds := by
  cases d with
  | none => exact .inl rfl
  | int i => exact .inr (.inl ⟨i, rfl⟩)
  | tuple ds => exact .inr (.inr ⟨ds, rfl⟩)
  | _ => cases k <;> simp [RawD] at h
theorem getD_lt {α : Type} {xs : List α} {i : Nat} {z : α} (h : i < xs.length) : xs[i]? = some (xs.getD i z) := by
  rw [List.getD_eq_getElem?_getD, List.getElem?_eq_getElem h]
  rfl
theorem atI_mod {xs : List D} {n : Int} {m : Nat} (hm : 0 < m) (h : xs.length = m) : atI xs (n % (m : Int)) = some (xs.getD (n % (m : Int)).toNat .none) := by
  have h1 : 0 ≤ n % (m : Int) := Int.emod_nonneg _ (by omega)
  have h2 : n % (m : Int) < m := Int.emod_lt_of_pos _ (by omega)
  exact atI_of h1 (getD_lt (by omega))
theorem log_small {i : Int} (h : i.natAbs ≤ 10000000) : i.natAbs.log2 < 1920 := by
  by_cases h0 : i.natAbs = 0
  · rw [h0]; decide
  · exact (Nat.log2_lt h0).mpr (Nat.lt_of_le_of_lt h (Nat.lt_of_lt_of_le (show 10000000 < 2 ^ 64 by decide) (Nat.pow_le_pow_right (by decide) (by decide))))
def R_odd : List Sl → D → Prop := fun ss v => ∃ (n : Int), ss = [.d (.int n)] ∧ v = oddM n
def R_spoilt (n : Nat) : List Sl → D → Prop := fun ss v => ∃ (d : D) (x : Int) (j : Nat), ss = [.d d, .d (.int x), .d (.int (j : Int))] ∧ j ≤ n ∧ RawD 2 d ∧ v = spoiltM j d x
def R_same : List Sl → D → Prop := fun ss v => ∃ (a b : Bool), ss = [.d (.bool a), .d (.bool b)] ∧ v = .bool (decide (a = b))
def maybeM (d : D) (n : Int) : D := if n % 2 = 1 then spoiltM (n / 2 % 3).toNat d (n / 6) else d
def R_maybe : List Sl → D → Prop := fun ss v => ∃ (d : D) (n : Int), ss = [.d d, .d (.int n)] ∧ RawD 2 d ∧ v = maybeM d n
theorem eqv_boolB (a b : Bool) : PyData.eqv (.bool a) (.bool b) = decide (a = b) := by cases a <;> cases b <;> simp [PyData.eqv]
section
variable {P : Program} {w : World} {K : Frg} {mg : Str → Option Value} {base : Heap} {f : Addr} {fd : FuncData} {k : Nat}
variable {X : Cx} {G : Gd} {ρ : Ro} {O : Ow} {e e2 : Expr} {pos : Pos}
theorem de_putD {xs : List D} {v : D} {i : Nat} {a b ev : Expr} {p1 p2 p3 p4 p5 p6 p7 p8 : Pos} {j tk} (hl : i < xs.length) (hz : xs.length ≤ 1000) (hx : DE X G ρ O e O (.tuple xs)) (hi : DE X G ρ O a O (.int (i : Int))) (hv : DE X G ρ O ev O v) (hx2 : DE X G ρ O e2 O (.tuple xs)) (hi2 : DE X G ρ O b O (.int (i : Int)))
    (hs : starEach [ev] X.env = (false, eval ev X.env) :: starEach [] X.env := by rfl) :
    DE X G ρ O (.BinOp (.BinOp (.Subscript e (.Slice none (some a) none p1) p2) .Add (.Tuple [ev] tk p7) p8) .Add (.Subscript e2 (.Slice (some (.BinOp b .Add (.Constant (.int 1) j p6) p3)) none none p4) p5) pos) O (.tuple (xs.set i v)) := by
  have h1 : ∀ l : List D, (l.map fun x => x) = l := fun l => List.map_id' l
  have := de_put (X := X) (G := G) (ρ := ρ) (O := O) (xs := xs) (h := fun x : D => x) (v := v) (i := i) (a := a) (b := b) (ev := ev) (e := e) (e2 := e2) (p1 := p1) (p2 := p2) (p3 := p3) (p4 := p4) (p5 := p5) (p6 := p6) (p7 := p7) (p8 := p8) (pos := pos) (j := j) (tk := tk) hl hz (by rw [h1]; exact hx) hi hv (by rw [h1]; exact hx2) hi2 hs
  rw [h1] at this
  exact this
theorem cutD_len {α : Type} (ds : List α) (lo hi : Option Int) : (cutD ds lo hi).length ≤ ds.length := by
  unfold cutD
  rw [List.length_take, List.length_drop]
  omega
end
def Fit (n : Nat) (d : D) : Prop := Shp n d ∧ shortD2 d
theorem Shp.mono {a b : Nat} {d : D} (h : Shp a d) (q : a ≤ b) : Shp b d := ⟨h.1, Nat.le_trans h.2 q⟩
theorem Fit.mono {a b : Nat} {d : D} (h : Fit a d) (q : a ≤ b) : Fit b d := ⟨h.1.mono q, h.2⟩
theorem strOk_of (s : String) : PyData.strOk (Str.ofString s) = true := by
  rw [Str.ofString_eq_toList]
  unfold PyData.strOk
  rw [List.size_toArray, List.all_toArray', List.all_eq_true]
  · intro c hc
    obtain ⟨ch, _, rfl⟩ := List.mem_map.mp hc
    exact decide_eq_true (by have := ch.valid; show ch.val.toNat < _; have := ch.val.toNat_lt; rcases ch.valid with h | h <;> omega)
  · rfl
theorem shp_str (s : String) : Shp 0 (.str s) := ⟨by show PyData.strOk _ = true; exact strOk_of s, by simp [PyData.depth]⟩
theorem shp_bool (b : Bool) : Shp 0 (.bool b) := ⟨by simp [PyData.canLay0], by simp [PyData.depth]⟩
theorem fit_flat {n : Nat} {d : D} (h : Shp n d) (hf : flatD d = true) : Fit n d := by
  refine ⟨h, ?_, ?_⟩
  · cases d <;> first | trivial | (cases hf; done)
  · cases d <;> first | (intro e he; cases he; done) | (cases hf; done)
theorem fit_tup {n : Nat} {ds : List D} (hl : ds.length ≤ 1000) (h : ∀ e ∈ ds, Shp n e ∧ shortD e) : Fit (n + 1) (.tuple ds) := ⟨shp_tup fun e he => (h e he).1, hl, fun e he => (h e he).2⟩
theorem fit_lst {n : Nat} {ds : List D} (hl : ds.length ≤ 1000) (h : ∀ e ∈ ds, Shp n e ∧ shortD e) : Fit (n + 1) (.list ds) := ⟨shp_lst fun e he => (h e he).1, hl, fun e he => (h e he).2⟩
theorem getD_all {Q : D → Prop} {l : List D} (i : Nat) (h : ∀ x ∈ l, Q x) (h0 : Q .none) : Q (l.getD i .none) := by
  rw [List.getD_eq_getElem?_getD]
  cases e : l[i]? with
  | none => exact h0
  | some x => exact h x (List.mem_of_getElem? e)
theorem raw_short {k : Nat} {d : D} (h : RawD k d) : shortD d := by
  rcases raw_cases h with rfl | ⟨i, rfl⟩ | ⟨ds, rfl⟩
  · trivial
  · trivial
  · exact Nat.le_trans (raw_tup h).1 (by decide)
theorem raw_shp : ∀ {k : Nat} {d : D}, RawD k d → Shp k d
  | 0, d, h => by
    rcases raw_cases h with rfl | ⟨i, rfl⟩ | ⟨ds, rfl⟩
    · exact shp_non
    · exact shp_int i
    · simp [RawD] at h
  | k + 1, d, h => by
    rcases raw_cases h with rfl | ⟨i, rfl⟩ | ⟨ds, rfl⟩
    · exact Shp.mono shp_non (by omega)
    · exact Shp.mono (shp_int i) (by omega)
    · rw [RawD] at h
      exact shp_tup fun e he => raw_shp (h.2 e he)
theorem fit_odd (n : Int) : Fit 2 (oddM n) := by
  have f0 : ∀ {d : D}, Shp 0 d → flatD d = true → Fit 2 d := fun h q => fit_flat (h.mono (by omega)) q
  have e0 : ∀ {d : D}, Shp 0 d → flatD d = true → Shp 0 d ∧ shortD d := fun h q => ⟨h, (fit_flat h q).2.1⟩
  have t1 : ∀ {ds : List D}, ds.length ≤ 1000 → (∀ e ∈ ds, Shp 0 e ∧ flatD e = true) → Fit 2 (.tuple ds) := fun hl h => (fit_tup (n := 0) hl fun e he => e0 (h e he).1 (h e he).2).mono (by omega)
  have l1 : ∀ {ds : List D}, ds.length ≤ 1000 → (∀ e ∈ ds, Shp 0 e ∧ flatD e = true) → Fit 2 (.list ds) := fun hl h => (fit_lst (n := 0) hl fun e he => e0 (h e he).1 (h e he).2).mono (by omega)
  have i0 : ∀ i : Int, Shp 0 (.int i) ∧ flatD (.int i) = true := fun i => ⟨shp_int i, rfl⟩
  have tt : ∀ {ds : List D}, ds.length ≤ 1000 → (∀ e ∈ ds, Shp 0 e ∧ flatD e = true) → Shp 1 (.tuple ds) ∧ shortD (.tuple ds) := fun hl h => ⟨shp_tup fun e he => (h e he).1, hl⟩
  have one : ∀ {d : D}, (Shp 0 d ∧ flatD d = true) → ∀ e ∈ [d], Shp 0 e ∧ flatD e = true := fun h e he => by rw [List.mem_singleton.mp he]; exact h
  have two : ∀ {d d' : D}, (Shp 0 d ∧ flatD d = true) → (Shp 0 d' ∧ flatD d' = true) → ∀ e ∈ [d, d'], Shp 0 e ∧ flatD e = true := fun h h' e he => by
    rcases List.mem_cons.mp he with q | q
    · rw [q]; exact h
    · rw [List.mem_singleton.mp q]; exact h'
  unfold oddM
  refine getD_all (Q := Fit 2) _ (fun x hx => ?_) (f0 shp_non rfl)
  unfold oddA oddB at hx
  simp only [List.cons_append, List.nil_append, List.mem_cons, List.not_mem_nil, or_false] at hx
  rcases hx with rfl | rfl | rfl | rfl | rfl | rfl | rfl | rfl | rfl | rfl | rfl | rfl | rfl | rfl | rfl | rfl | rfl | rfl | rfl | rfl | rfl | rfl | rfl | rfl | rfl
  · exact f0 (shp_int _) rfl
  · exact f0 (shp_int _) rfl
  · exact f0 (shp_int _) rfl
  · exact f0 (shp_int _) rfl
  · exact f0 (shp_int _) rfl
  · exact f0 (shp_int _) rfl
  · exact f0 (shp_int _) rfl
  · exact f0 (shp_bool _) rfl
  · exact f0 (shp_bool _) rfl
  · exact f0 shp_non rfl
  · exact f0 (shp_str _) rfl
  · exact f0 (shp_str _) rfl
  · exact t1 (by decide) (fun e he => nomatch he)
  · exact l1 (by decide) (fun e he => nomatch he)
  · exact t1 (by decide) (one (i0 _))
  · exact t1 (by decide) (two (i0 _) (i0 _))
  · exact t1 (by decide) (one ⟨shp_non, rfl⟩)
  · exact l1 (by decide) (one (i0 _))
  · exact fit_tup (n := 1) (by decide) fun e he => by rw [List.mem_singleton.mp he]; exact tt (by decide) (one (i0 _))
  · exact fit_tup (n := 1) (by decide) fun e he => by
      rcases List.mem_cons.mp he with q | q
      · rw [q]; exact tt (by decide) (two (i0 _) (i0 _))
      · rw [List.mem_singleton.mp q]; exact tt (by decide) (two (i0 _) (i0 _))
  · exact t1 (by decide) (two (i0 _) (i0 _))
  · exact t1 (by decide) (one ⟨shp_bool _, rfl⟩)
  · exact f0 (shp_int _) rfl
  · exact f0 (shp_int _) rfl
  · exact t1 (by decide) (one (i0 _))
theorem cutD_sub {α : Type} {ds : List α} {lo hi : Option Int} {e : α} (h : e ∈ cutD ds lo hi) : e ∈ ds := by
  unfold cutD at h
  exact List.mem_of_mem_drop (List.mem_of_mem_take h)
theorem fit_flatM {d : D} (n : Int) (h : RawD 2 d) : Fit 2 (flatM d n) := by
  rcases raw_cases h with rfl | ⟨i, rfl⟩ | ⟨ds, rfl⟩
  · exact fit_odd _
  · unfold flatM
    dsimp only
    split
    · unfold spI
      refine getD_all (Q := Fit 2) _ (fun x hx => ?_) (fit_flat (Shp.mono shp_non (by omega)) rfl)
      simp only [List.mem_cons, List.not_mem_nil, or_false] at hx
      rcases hx with rfl | rfl | rfl | rfl | rfl
      · exact fit_flat ((shp_str _).mono (by omega)) rfl
      · exact fit_flat (Shp.mono (shp_int _) (by omega)) rfl
      · exact fit_flat (Shp.mono (shp_int _) (by omega)) rfl
      · exact fit_flat ((shp_bool _).mono (by omega)) rfl
      · exact fit_flat (Shp.mono (shp_int _) (by omega)) rfl
    · exact fit_odd _
  · unfold flatM
    dsimp only
    obtain ⟨hl, hk⟩ := raw_tup h
    have hk2 : ∀ e ∈ ds, Shp 1 e ∧ shortD e := fun e he => ⟨by rw [RawD] at h; exact raw_shp (h.2 e he), raw_short (hk e he)⟩
    split
    · unfold spT
      refine getD_all (Q := Fit 2) _ (fun x hx => ?_) (fit_flat (Shp.mono shp_non (by omega)) rfl)
      simp only [List.mem_cons, List.not_mem_nil, or_false] at hx
      have hc := fun lo hi => cutD_len ds lo hi
      rcases hx with rfl | rfl | rfl | rfl | rfl | rfl
      · exact fit_lst (n := 1) (by omega) hk2
      · exact fit_tup (n := 1) (by have := hc none (some (-1)); omega) fun e he => hk2 e (cutD_sub he)
      · exact fit_tup (n := 1) (by have := hc (some (-1)) none; rw [List.length_append]; omega) fun e he => by
          rcases List.mem_append.mp he with q | q
          · exact hk2 e q
          · exact hk2 e (cutD_sub q)
      · exact fit_tup (n := 1) (by have := hc (some 1) none; omega) fun e he => hk2 e (cutD_sub he)
      · exact fit_tup (n := 1) (by rw [List.length_reverse]; omega) fun e he => hk2 e (List.mem_reverse.mp he)
      · refine fit_tup (n := 1) ?_ fun e he => ?_
        · show (ds ++ (ds ++ (ds ++ []))).length ≤ 1000
          rw [List.length_append, List.length_append, List.length_append]
          show _ + (_ + (_ + 0)) ≤ 1000
          omega
        · obtain ⟨l, hl1, hl2⟩ := List.mem_flatten.mp he
          rw [List.eq_of_mem_replicate hl1] at hl2
          exact hk2 e hl2
    · exact fit_odd _
theorem fit_spoilt : ∀ (j : Nat) (d : D) (n : Int), RawD 2 d → Fit (2 + j) (spoiltM j d n)
  | 0, d, n, h => by
    rw [spoiltM]
    exact fit_flatM n h
  | j + 1, d, n, h => by
    rcases raw_cases h with rfl | ⟨i, rfl⟩ | ⟨ds, rfl⟩
    · rw [spoiltM]
      · exact (fit_flatM n h).mono (by omega)
      · intro ds h; cases h
    · rw [spoiltM]
      · exact (fit_flatM n h).mono (by omega)
      · intro ds h; cases h
    · rw [spoiltM]
      obtain ⟨hl, hk⟩ := raw_tup h
      have hk2 : ∀ e ∈ ds, Shp 1 e ∧ shortD e := fun e he => ⟨by rw [RawD] at h; exact raw_shp (h.2 e he), raw_short (hk e he)⟩
      split
      · rename_i q
        refine fit_tup (n := 2 + j) (by rw [List.length_set]; omega) fun e he => ?_
        rcases List.mem_or_eq_of_mem_set he with z | z
        · exact ⟨(hk2 e z).1.mono (by omega), (hk2 e z).2⟩
        · rw [z]
          have hmem : RawD 2 (ds.getD (n / 6 % (ds.length : Int)).toNat .none) := by
            refine getD_all (Q := RawD 2) _ hk (by simp [RawD])
          have := fit_spoilt j _ (n / 36) hmem
          exact ⟨this.1, this.2.1⟩
      · exact (fit_flatM n h).mono (by omega)
theorem fit_raw {d : D} (h : RawD 2 d) : Fit 2 d := by
  refine ⟨raw_shp h, raw_short h, ?_⟩
  rcases raw_cases h with rfl | ⟨i, rfl⟩ | ⟨ds, rfl⟩
  · exact fun e he => nomatch he
  · exact fun e he => nomatch he
  · exact fun e he => raw_short ((raw_tup h).2 e he)
theorem fit_maybe {d : D} (n : Int) (h : RawD 2 d) : Fit 8 (maybeM d n) := by
  unfold maybeM
  split
  · have h1 : 0 ≤ n / 2 % 3 := Int.emod_nonneg _ (by decide)
    have h2 : n / 2 % 3 < 3 := Int.emod_lt_of_pos _ (by decide)
    exact (fit_spoilt _ d _ h).mono (by omega)
  · exact (fit_raw h).mono (by omega)
theorem raw_sal {S : List (List Int)} (h1 : S.length ≤ 6) (h2 : ∀ r ∈ S, r.length ≤ 6 ∧ ∀ b ∈ r, b.natAbs ≤ 10000000) : RawD 2 (sal S) := by
  show RawD 2 (.tuple (S.map row))
  rw [RawD]
  refine ⟨by rw [List.length_map]; exact h1, fun e he => ?_⟩
  obtain ⟨r, hr, rfl⟩ := List.mem_map.mp he
  show RawD 1 (.tuple (r.map PyData.int))
  rw [RawD]
  refine ⟨by rw [List.length_map]; exact (h2 r hr).1, fun e he => ?_⟩
  obtain ⟨b, hb, rfl⟩ := List.mem_map.mp he
  simpa [RawD] using (h2 r hr).2 b hb
theorem raw_row {r : List Int} (h1 : r.length ≤ 6) (h2 : ∀ b ∈ r, b.natAbs ≤ 10000000) : RawD 2 (tupI r) := by
  show RawD 2 (.tuple (r.map PyData.int))
  rw [RawD]
  refine ⟨by rw [List.length_map]; exact h1, fun e he => ?_⟩
  obtain ⟨b, hb, rfl⟩ := List.mem_map.mp he
  simpa [RawD] using h2 b hb
theorem raw_gv {os : List (Option Int)} (h1 : os.length ≤ 6) (h2 : ∀ t, some t ∈ os → t.natAbs ≤ 10000000) : RawD 2 (gvD os) := by
  show RawD 2 (.tuple (os.map oD))
  rw [RawD]
  refine ⟨by rw [List.length_map]; exact h1, fun e he => ?_⟩
  obtain ⟨o, ho, rfl⟩ := List.mem_map.mp he
  cases o with
  | none => simp [RawD]
  | some t => simpa [RawD] using h2 t ho
end Bid

namespace Bid
open PySem PySem.Spec PyProof.Rows L2 TL
structure SalB (S : List (List Int)) : Prop where
  g1 : 1 ≤ S.length
  g6 : S.length ≤ 6
  row : ∃ m, 1 ≤ m ∧ m ≤ 6 ∧ ∀ r ∈ S, r.length = m
  bid : ∀ r ∈ S, ∀ b ∈ r, 0 ≤ b ∧ b ≤ 1000000
theorem SalB.len {S : List (List Int)} (h : SalB S) : ∀ r ∈ S, 1 ≤ r.length ∧ r.length ≤ 6 := fun r hr => by
  obtain ⟨m, h1, h2, h3⟩ := h.row
  rw [h3 r hr]
  exact ⟨h1, h2⟩
theorem salB_of {S : List (List Int)} {g m : Nat} (h : Sz S g m) (hm : m ≤ 6) (hb : ∀ r ∈ S, ∀ b ∈ r, 0 ≤ b ∧ b ≤ 1000000) : SalB S := ⟨by rw [h.len]; exact h.g1, by rw [h.len]; exact h.g6, ⟨m, h.m1, hm, h.row⟩, hb⟩
theorem nums_iff (r : List Int) (lo hi : Int) : (r.map PyData.int).all (numB lo hi) = true ↔ ∀ b ∈ r, lo ≤ b ∧ b ≤ hi := by
  rw [List.all_map, List.all_eq_true]
  constructor
  · intro h b hb
    have : (decide (lo ≤ b) && decide (b ≤ hi)) = true := h b hb
    rw [Bool.and_eq_true, decide_eq_true_eq, decide_eq_true_eq] at this
    exact this
  · intro h b hb
    show (decide (lo ≤ b) && decide (b ≤ hi)) = true
    rw [decide_eq_true (h b hb).1, decide_eq_true (h b hb).2]
    rfl
theorem salB_sale {S : List (List Int)} (h : SalB S) : saleB (sal S) = true := by
  have hok : ∀ e ∈ S.map row, okR e = true := fun e he => by
    obtain ⟨r, hr, rfl⟩ := List.mem_map.mp he
    have h1 := h.len r hr
    show ((decide (1 ≤ (r.map PyData.int).length) && decide ((r.map PyData.int).length ≤ 6)) && (r.map PyData.int).all (numB 0 1000000)) = true
    rw [List.length_map, decide_eq_true h1.1, decide_eq_true h1.2, (nums_iff r 0 1000000).mpr (h.bid r hr)]
    rfl
  obtain ⟨m, _, _, h3⟩ := h.row
  refine (sale_lens (by rw [List.length_map]; exact h.g1) (by rw [List.length_map]; exact h.g6) hok).mpr ⟨m, fun e he => ?_⟩
  obtain ⟨r, hr, rfl⟩ := List.mem_map.mp he
  show (r.map PyData.int).length = m
  rw [List.length_map, h3 r hr]
theorem sale_len {ds : List D} (h : saleB (.tuple ds) = true) : 1 ≤ ds.length ∧ ds.length ≤ 6 := by
  cases ds with
  | nil => cases h
  | cons e es =>
    cases e with
    | tuple rs =>
      have h : (decide (es.length ≤ 5) && ((decide (1 ≤ rs.length) && decide (rs.length ≤ 6)) && (PyData.tuple rs :: es).all (rowB rs.length))) = true := h
      rw [Bool.and_eq_true, decide_eq_true_eq] at h
      rw [List.length_cons]
      omega
    | _ => cases h
theorem sale_salB {d : D} (h : saleB d = true) : ∃ S, d = sal S ∧ SalB S := by
  cases ht : isTup d with
  | false => rw [sale_no ht] at h; cases h
  | true =>
    obtain ⟨ds, rfl⟩ := isTup_of ht
    have hok := sale_okR h
    obtain ⟨h1, h6⟩ := sale_len h
    have hr : ∀ e ∈ ds, ∃ r : List Int, e = row r ∧ (1 ≤ r.length ∧ r.length ≤ 6) ∧ ∀ b ∈ r, 0 ≤ b ∧ b ≤ 1000000 := fun e he => by
      have q := hok e he
      cases e with
      | tuple es =>
        have q : ((decide (1 ≤ es.length) && decide (es.length ≤ 6)) && es.all (numB 0 1000000)) = true := q
        rw [Bool.and_eq_true, Bool.and_eq_true, decide_eq_true_eq, decide_eq_true_eq] at q
        have e1 := nums_map q.2
        refine ⟨es.map intOf, by show PyData.tuple es = .tuple _; rw [← e1], by rw [List.length_map]; exact q.1, ?_⟩
        have q2 := q.2
        rw [e1] at q2
        exact (nums_iff _ 0 1000000).mp q2
      | _ => cases q
    have key : ∀ l : List D, (∀ e ∈ l, e ∈ ds) → ∃ S : List (List Int), l = S.map row ∧ ∀ r ∈ S, (1 ≤ r.length ∧ r.length ≤ 6) ∧ ∀ b ∈ r, 0 ≤ b ∧ b ≤ 1000000 := by
      intro l
      induction l with
      | nil => exact fun _ => ⟨[], rfl, fun _ h => nomatch h⟩
      | cons e l ih =>
        intro hl
        obtain ⟨r, h1, h2⟩ := hr e (hl e (List.mem_cons_self ..))
        obtain ⟨S, h3, h4⟩ := ih fun x hx => hl x (List.mem_cons_of_mem _ hx)
        refine ⟨r :: S, by rw [h1, h3]; rfl, fun q hq => ?_⟩
        rcases List.mem_cons.mp hq with z | z
        · rw [z]; exact h2
        · exact h4 q z
    obtain ⟨S, hS, hb⟩ := key ds fun _ h => h
    subst hS
    rw [List.length_map] at h1 h6
    obtain ⟨m, hm⟩ := (sale_lens (by rw [List.length_map]; exact h1) (by rw [List.length_map]; exact h6) hok).mp h
    have hm' : ∀ r ∈ S, r.length = m := fun r hr => by
      have := hm (row r) (List.mem_map.mpr ⟨r, hr, rfl⟩)
      have e : lenR (row r) = r.length := by show (r.map PyData.int).length = _; rw [List.length_map]
      rw [e] at this
      exact this
    refine ⟨S, rfl, h1, h6, ⟨m, ?_, ?_, hm'⟩, fun r hr => (hb r hr).2⟩
    · match S, h1 with
      | r :: S, _ =>
        have := (hb r (List.mem_cons_self ..)).1.1
        rw [hm' r (List.mem_cons_self ..)] at this
        exact this
    · match S, h1 with
      | r :: S, _ =>
        have := (hb r (List.mem_cons_self ..)).1.2
        rw [hm' r (List.mem_cons_self ..)] at this
        exact this
theorem fit_salB {S : List (List Int)} (h : SalB S) : Fit 2 (sal S) := fit_raw (raw_sal h.g6 fun r hr => ⟨(h.len r hr).2, fun b hb => by have := h.bid r hr b hb; omega⟩)
theorem rowS_len {r : List Int} (h6 : r.length ≤ 6) (hb : ∀ b ∈ r, 0 ≤ b ∧ b ≤ 1000000) : (rowS r).length ≤ 48 := by
  unfold rowS
  rw [join_eq]
  refine Nat.le_trans (PySem.StrLaws.join_length_le _ _) ?_
  have h1 := sum_le (fun x : Str => x.length) 7 (r.map txt) fun x hx => by
    obtain ⟨b, hb', rfl⟩ := List.mem_map.mp hx
    exact txt_len (hb b hb').1 (hb b hb').2
  rw [List.length_map] at h1 ⊢
  have e : (Str.ofString " ").length = 1 := by decide +kernel
  rw [e]
  omega
theorem rowL_len {r : List Int} (h6 : r.length ≤ 6) (hb : ∀ b ∈ r, 0 ≤ b ∧ b ≤ 1000000) : (rowL r).length ≤ 60 := by
  unfold rowL
  have := flat_le (fun a : Int × Nat => (if a.2 = 0 then sgB else sgA) ++ tl (txt a.1)) 10 r.zipIdx fun a ha => by
    have h1 := hb a.1 (List.fst_mem_of_mem_zipIdx ha)
    have h2 := txt_len h1.1 h1.2
    rw [len_tl] at h2
    rw [List.length_append]
    split
    · show 3 + _ ≤ 10
      omega
    · show 1 + _ ≤ 10
      omega
  rw [List.length_zipIdx] at this
  omega
def R_textof : List Sl → D → Prop := fun ss v => ∃ (S : List (List Int)), ss = [.d (sal S)] ∧ SalB S ∧ v = .str (wrS S)
def Rx_written (K : Frg) : List Sl → Value → Prop := fun ss c => ∃ (d : D), ss = [.d d] ∧ shortD2 d ∧ saleB d = false ∧ c = .ref (He.ga K "NoSale")
def R_bad : List Sl → D → Prop := fun ss v => ∃ (d : D), ss = [.d d] ∧ shortD2 d ∧ saleB d = false ∧ v = .bool true
section
variable {P : Program} {w : World} {K : Frg} {mg : Str → Option Value} {base : Heap} {f : Addr} {fd : FuncData} {k : Nat}
theorem ok_text_of (F : F_text_of K f fd) (T : Bt mg) : FnOk P w K mg base CX0 (k + 1) f fd p_text_of (spP P w K R_textof) := by
  refine fn_R F sc_text_of (lenP fun ss r h => by obtain ⟨S, rfl, _⟩ := h; rfl) ?_
  intro cdv A outer s H E G ss O O' r hr hR
  obtain ⟨rfl, rfl, S, rfl, hS, rfl⟩ := hR
  have hN := sc_text_of.nd
  have h6 := hS.g6
  have eA : (Str.ofString " ").length = 1 := by decide +kernel
  have eB : (Str.ofString " ; ").length = 3 := by decide +kernel
  refine ds_one (ds_ret (de_join (z := Str.ofString " ; ") (ys := S.map rowS) ?_ de_str (de_is (de_lc0 (xs := S) row (fun r => .str (rowS r)) 2 (di_tup (de_var 0)) (fun r hr' _ O s0 H0 C cl fp => ?_) (by omega) hN) (by rw [List.map_map]; rfl))) ⟨rfl, fun _ h => h⟩)
  · have := sum_le (fun x : Str => x.length) 48 (S.map rowS) fun x hx => by
      obtain ⟨r, hr', rfl⟩ := List.mem_map.mp hx
      exact rowS_len (hS.len r hr').2 (hS.bid r hr')
    rw [List.length_map] at this ⊢
    rw [eB]
    omega
  · have hl := hS.len r hr'
    refine de_join (z := Str.ofString " ") (ys := r.map txt) ?_ de_str (de_is (de_lc0 (xs := r) (fun b => .int b) (fun b => .str (txt b)) 1 (di_tup (de_var 2)) (fun b hb _ O s0 H0 C cl fp => de_strI (log_small (by have := hS.bid r hr' b hb; omega)) T.str (de_var 1)) (by omega) hN) (by rw [List.map_map]; rfl))
    have := sum_le (fun x : Str => x.length) 7 (r.map txt) fun x hx => by
      obtain ⟨b, hb, rfl⟩ := List.mem_map.mp hx
      exact txt_len (hS.bid r hr' b hb).1 (hS.bid r hr' b hb).2
    rw [List.length_map] at this ⊢
    rw [eA]
    omega
theorem ok_l_written (F : F_l_written K f fd) (T : Bt mg) : FnOk P w K mg base CX0 (k + 1) f fd p_l_written (spP P w K R_textof) := by
  refine fn_R F sc_l_written (lenP fun ss r h => by obtain ⟨S, rfl, _⟩ := h; rfl) ?_
  intro cdv A outer s H E G ss O O' r hr hR
  obtain ⟨rfl, rfl, S, rfl, hS, rfl⟩ := hR
  have hN := sc_l_written.nd
  have h6 := hS.g6
  have eA : (Str.ofString " ").length = 1 := by decide +kernel
  have eB : (Str.ofString " ; ").length = 3 := by decide +kernel
  have e0 : tl (Str.ofString "") = [] := by decide +kernel
  refine ds_cons (ds_set 1 (d := .str (Str.ofString "")) de_str ?_ hN)
  refine ds_cons (ds_for (xs := S) row 2 (fun i ρ O => ∃ y2 y3 y4 x, ρ = [some (.d (sal S)), some (.d (.str x)), y2, y3, y4] ∧ O = [] ∧ tl x = ((S.take i).map rowL).flatten)
    (di_tup (de_var 0)) ⟨none, none, none, _, rfl, rfl, by rw [List.take_zero]; exact e0⟩ (fun i r ρ' O' hr' hI => ?_) (fun ρ' O' hI => ?_) hN)
  · obtain ⟨y2, y3, y4, x, rfl, rfl, hx⟩ := hI
    have hrm := List.mem_of_getElem? hr'
    have hil : i < S.length := (List.getElem?_eq_some_iff.mp hr').1
    have hl := hS.len r hrm
    have hb := hS.bid r hrm
    have hx1 := flat_le rowL 60 (S.take i) fun q hq => rowL_len (hS.len q (List.mem_of_mem_take hq)).2 (hS.bid q (List.mem_of_mem_take hq))
    rw [List.length_take] at hx1
    refine ds_one (ds_forP (xs := r.zipIdx) (fun a => .int (a.2 : Int)) (fun a => .int a.1) 3 4 (fun j ρ O => ∃ y3 y4 z, ρ = [some (.d (sal S)), some (.d (.str z)), some (.d (row r)), y3, y4] ∧ O = [] ∧ tl z = tl x ++ ((r.zipIdx.take j).map fun a => (if a.2 = 0 then sgB else sgA) ++ tl (txt a.1)).flatten)
      (di_enumT (ds := r) (f := PyData.int) T.enumerate (de_var 2)) ⟨_, _, x, rfl, rfl, by rw [List.take_zero]; exact (List.append_nil _).symm⟩ (fun j a ρ' O' ha hI => ?_) (fun ρ' O' hI => ?_) hN)
    · obtain ⟨y3, y4, z, rfl, rfl, hz⟩ := hI
      have hbm := hb a.1 (List.fst_mem_of_mem_zipIdx (List.mem_of_getElem? ha))
      have htl := txt_len hbm.1 hbm.2
      have hz1 := flat_le (fun a : Int × Nat => (if a.2 = 0 then sgB else sgA) ++ tl (txt a.1)) 10 (r.zipIdx.take j) fun c hc => by
        have h1 := hb c.1 (List.fst_mem_of_mem_zipIdx (List.mem_of_mem_take hc))
        have h2 := txt_len h1.1 h1.2
        rw [len_tl] at h2
        rw [List.length_append]
        split
        · show 3 + _ ≤ 10
          omega
        · show 1 + _ ≤ 10
          omega
      rw [List.length_take, List.length_zipIdx] at hz1
      have hzl : z.length ≤ 1000 := by
        rw [len_tl, hz, List.length_append, hx]
        omega
      obtain ⟨sp, hsp, hspl, hsi⟩ : ∃ sp : Str, tl sp = (if a.2 = 0 then sgB else sgA) ∧ sp.length ≤ 3 ∧ atI ([.str (Str.ofString " "), .str (Str.ofString " ; ")] : List D) (if decide ((a.2 : Int) = 0) = true then 1 else 0) = some (.str sp) := by
        by_cases h : a.2 = 0
        · refine ⟨Str.ofString " ; ", by rw [if_pos h]; exact tl_B, by rw [eB]; exact Nat.le_refl _, ?_⟩
          rw [if_pos (decide_eq_true (by omega))]
          rfl
        · refine ⟨Str.ofString " ", by rw [if_neg h]; exact tl_A, by rw [eA]; decide, ?_⟩
          rw [if_neg (by rw [decide_eq_false (show ¬ (a.2 : Int) = 0 by omega)]; decide)]
          rfl
      refine ds_one (ds_set 1 (d := .str (z ++ sp ++ txt a.1)) (de_catS (de_catS (de_var 1) (de_ixL (ds := [.str (Str.ofString " "), .str (Str.ofString " ; ")]) hsi (de_lst (ds := [.str (Str.ofString " "), .str (Str.ofString " ; ")]) (da_cons de_str (da_cons de_str da_nil))) (de_intB T.int (de_eqI (de_var 3) de_int))) (by rw [sizeLine_eq]; omega)) (de_strI (log_small (by omega)) T.str (de_var 4)) (by rw [sizeLine_eq, Str.length_append]; show _ + (txt a.1).length ≤ _; omega))
        ⟨_, _, _, rfl, rfl, ?_⟩ hN)
      rw [tl_append, tl_append, hz, hsp, List.take_add_one, ha, List.map_append, List.flatten_append, List.append_assoc, List.append_assoc]
      congr 2
      show _ = ([(if a.2 = 0 then sgB else sgA) ++ tl (txt a.1)]).flatten
      rw [List.flatten_cons, List.flatten_nil, List.append_nil]
    · obtain ⟨y3, y4, z, rfl, rfl, hz⟩ := hI
      refine ⟨_, _, _, z, rfl, rfl, ?_⟩
      rw [List.take_length] at hz
      rw [hz, hx, List.take_add_one, hr', List.map_append, List.flatten_append]
      congr 1
      show _ = [rowL r].flatten
      rw [List.flatten_cons, List.flatten_nil, List.append_nil]
      rfl
  · obtain ⟨y2, y3, y4, x, rfl, rfl, hx⟩ := hI
    rw [List.take_length] at hx
    have hxl := flat_le rowL 60 S fun q hq => rowL_len (hS.len q hq).2 (hS.bid q hq)
    have hne : ∀ r ∈ S, r ≠ [] := fun r hr e => by
      have := (hS.len r hr).1
      rw [e] at this
      exact absurd this (by decide)
    have hS0 : S ≠ [] := fun e => by
      have := hS.g1
      rw [e] at this
      exact absurd this (by decide)
    have ew : cutS x (some 3) none = wrS S := ext_tl (by
      rw [tl_cut3, hx, rows_eq hS0 hne, tl_wrS]
      rfl)
    rw [← ew]
    exact ds_one (ds_ret (de_cutS (by rw [len_tl, hx]; omega) (de_var 1) (dp_some de_int) dp_none) ⟨rfl, fun _ h => h⟩)
end
end Bid

namespace Bid
open PySem PySem.Spec PyProof.Rows L2 TL
abbrev wsum (l : List (List Nat)) : Nat := (l.map fun p => p.length + 1).sum
theorem spl_sum (S : List Nat) : ∀ (l : List Nat) (k : Nat) (acc : List Nat), wsum (spl S k acc l) ≤ acc.length + l.length + 1
  | [], k, acc => by
    rw [spl_nil]
    show acc.length + 1 + 0 ≤ acc.length + 0 + 1
    omega
  | c :: r, 0, acc => by
    cases h : pre S (c :: r) with
    | true =>
      rw [spl_hit h]
      have := spl_sum S r (S.length - 1) []
      show acc.length + 1 + wsum (spl S (S.length - 1) [] r) ≤ _
      rw [List.length_cons]
      rw [List.length_nil] at this
      omega
    | false =>
      rw [spl_miss h]
      have := spl_sum S r 0 (acc ++ [c])
      rw [List.length_append, List.length_singleton] at this
      rw [List.length_cons]
      omega
  | c :: r, k + 1, acc => by
    have := spl_sum S r k acc
    show wsum (spl S k acc r) ≤ _
    rw [List.length_cons]
    omega
theorem spl_mem (S : List Nat) (Q : Nat → Prop) : ∀ (l : List Nat) (k : Nat) (acc : List Nat), (∀ c ∈ acc, Q c) → (∀ c ∈ l, Q c) → ∀ p ∈ spl S k acc l, ∀ c ∈ p, Q c
  | [], k, acc, ha, _ => by
    rw [spl_nil]
    intro p hp
    rw [List.mem_singleton.mp hp]
    exact ha
  | c :: r, 0, acc, ha, hl => by
    have hr : ∀ x ∈ r, Q x := fun x hx => hl x (List.mem_cons_of_mem _ hx)
    cases h : pre S (c :: r) with
    | true =>
      rw [spl_hit h]
      intro p hp
      rcases List.mem_cons.mp hp with e | hp
      · rw [e]; exact ha
      · exact spl_mem S Q r (S.length - 1) [] (fun _ h => nomatch h) hr p hp
    | false =>
      rw [spl_miss h]
      refine spl_mem S Q r 0 (acc ++ [c]) (fun x hx => ?_) hr
      rcases List.mem_append.mp hx with e | e
      · exact ha x e
      · rw [List.mem_singleton.mp e]; exact hl c (List.mem_cons_self ..)
  | c :: r, k + 1, acc, ha, hl => spl_mem S Q r k acc ha fun x hx => hl x (List.mem_cons_of_mem _ hx)
theorem spl_pos (S : List Nat) : ∀ (l : List Nat) (k : Nat) (acc : List Nat), 1 ≤ (spl S k acc l).length
  | [], k, acc => by rw [spl_nil]; exact Nat.le_refl _
  | c :: r, 0, acc => by
    cases h : pre S (c :: r) with
    | true => rw [spl_hit h, List.length_cons]; omega
    | false => rw [spl_miss h]; exact spl_pos S r 0 _
  | c :: r, k + 1, acc => spl_pos S r k acc
/-- the words of l have at most n signs in all, each counted once more; their signs are plain -/
structure Pc (n : Nat) (l : List Str) : Prop where
  sum : (l.map fun p => p.length + 1).sum ≤ n
  low : ∀ p ∈ l, ∀ c ∈ tl p, c < 128
theorem sum_app {α : Type} (f : α → Nat) : ∀ l m : List α, ((l ++ m).map f).sum = (l.map f).sum + (m.map f).sum
  | [], m => by simp
  | x :: l, m => by
    rw [List.cons_append, List.map_cons, List.sum_cons, sum_app f l m, List.map_cons, List.sum_cons]
    omega
theorem Pc.app {a b : Nat} {l m : List Str} (h : Pc a l) (g : Pc b m) : Pc (a + b) (l ++ m) := ⟨by rw [sum_app]; have := h.sum; have := g.sum; omega, fun p hp => (List.mem_append.mp hp).elim (h.low p) (g.low p)⟩
theorem Pc.cut {a : Nat} {l : List Str} (h : Pc a l) (lo hi : Option Int) : Pc a (cutD l lo hi) := by
  refine ⟨?_, fun p hp => h.low p (cutD_sub hp)⟩
  have e1 := sum_app (fun p : Str => p.length + 1) (l.take (HT.sIx l.length 0 lo)) (l.drop (HT.sIx l.length 0 lo))
  rw [List.take_append_drop] at e1
  have e2 := sum_app (fun p : Str => p.length + 1) ((l.drop (HT.sIx l.length 0 lo)).take (HT.sIx l.length l.length hi - HT.sIx l.length 0 lo)) ((l.drop (HT.sIx l.length 0 lo)).drop (HT.sIx l.length l.length hi - HT.sIx l.length 0 lo))
  rw [List.take_append_drop] at e2
  have := h.sum
  unfold cutD
  omega
theorem Pc.len {a : Nat} {l : List Str} (h : Pc a l) : l.length ≤ a := by
  have key : ∀ l : List Str, l.length ≤ (l.map fun p : Str => p.length + 1).sum := by
    intro l
    induction l with
    | nil => exact Nat.zero_le _
    | cons p l ih => rw [List.map_cons, List.sum_cons, List.length_cons]; omega
  exact Nat.le_trans (key l) h.sum
theorem Pc.one {a : Nat} {l : List Str} (h : Pc a l) : ∀ p ∈ l, p.length + 1 ≤ a := fun p hp => by
  have key : ∀ l : List Str, p ∈ l → p.length + 1 ≤ (l.map fun p : Str => p.length + 1).sum := by
    intro l
    induction l with
    | nil => exact fun h => nomatch h
    | cons q l ih =>
      intro hp
      rw [List.map_cons, List.sum_cons]
      rcases List.mem_cons.mp hp with e | e
      · rw [e]; omega
      · have := ih e; omega
  exact Nat.le_trans (key l hp) h.sum
theorem Pc.lens {a : Nat} {l : List Str} (h : Pc a l) : (l.map (·.length)).sum + l.length ≤ a := by
  have key : ∀ l : List Str, (l.map (·.length)).sum + l.length = (l.map fun p : Str => p.length + 1).sum := by
    intro l
    induction l with
    | nil => rfl
    | cons p l ih => rw [List.map_cons, List.sum_cons, List.length_cons, List.map_cons, List.sum_cons]; omega
  rw [key l]
  exact h.sum
abbrev sA : Str := Str.ofString " "
abbrev sB : Str := Str.ofString " ; "
abbrev sF : Str := Str.ofString "0123456789"
structure Tx (n : Nat) (z : Str) : Prop where
  len : z.length ≤ n
  low : ∀ c ∈ tl z, c < 128
theorem Tx.mono {a b : Nat} {z : Str} (h : Tx a z) (q : a ≤ b) : Tx b z := ⟨Nat.le_trans h.len q, h.low⟩
theorem Tx.ok {n : Nat} {z : Str} (h : Tx n z) : PyData.strOk z = true := by
  unfold PyData.strOk
  rw [← Array.all_toList, List.all_eq_true]
  exact fun c hc => decide_eq_true (Nat.lt_trans (h.low c hc) (by decide))
theorem Tx.shp {n : Nat} {z : Str} (h : Tx n z) : Shp 0 (.str z) := ⟨by show PyData.strOk _ = true; exact h.ok, by simp [PyData.depth]⟩
theorem split_pc {n : Nat} {x y : Str} (hy : tl y ≠ []) (hk : y.cps.all (· < 256) = true) (h : Tx n x) : Pc (n + 1) (Txt.split x y) ∧ 1 ≤ (Txt.split x y).length := by
  have e := split_spl x y hy (kind_ok hk)
  have e1 : (Txt.split x y).map (fun p => p.length + 1) = ((Txt.split x y).map tl).map fun p => p.length + 1 := by
    rw [List.map_map]
    exact List.map_congr_left fun p _ => by show p.length + 1 = (tl p).length + 1; rw [len_tl]
  have hs := spl_sum (tl y) (tl x) 0 []
  have hm := spl_mem (tl y) (fun c => c < 128) (tl x) 0 [] (fun _ h => nomatch h) h.low
  have hp := spl_pos (tl y) (tl x) 0 []
  rw [← e] at hs hm hp
  refine ⟨⟨?_, fun p hp => hm (tl p) (List.mem_map.mpr ⟨p, hp, rfl⟩)⟩, by rw [List.length_map] at hp; exact hp⟩
  have hl := h.len
  rw [len_tl] at hl
  rw [e1]
  have hs : (((Txt.split x y).map tl).map fun p => p.length + 1).sum ≤ ([] : List Nat).length + (tl x).length + 1 := hs
  rw [List.length_nil] at hs
  omega
theorem tl_sA : tl sA = [32] := by decide +kernel
theorem tl_sB : tl sB = [32, 59, 32] := by decide +kernel
theorem tl_sF : tl sF = [48, 49, 50, 51, 52, 53, 54, 55, 56, 57] := by decide +kernel
theorem pcA {n : Nat} {x : Str} (h : Tx n x) : Pc (n + 1) (Txt.split x sA) ∧ 1 ≤ (Txt.split x sA).length := split_pc (by rw [tl_sA]; simp) (by decide +kernel) h
theorem pcB {n : Nat} {x : Str} (h : Tx n x) : Pc (n + 1) (Txt.split x sB) ∧ 1 ≤ (Txt.split x sB).length := split_pc (by rw [tl_sB]; simp) (by decide +kernel) h
theorem Pc.tx {a : Nat} {l : List Str} (h : Pc (a + 1) l) : ∀ p ∈ l, Tx a p := fun p hp => ⟨by have := h.one p hp; omega, h.low p hp⟩
theorem low_join {q : List Nat} (hq : ∀ c ∈ q, c < 128) : ∀ {l : List (List Nat)}, (∀ p ∈ l, ∀ c ∈ p, c < 128) → ∀ c ∈ joinL q l, c < 128
  | [], _, c, hc => nomatch hc
  | p :: ps, hl, c, hc => by
    rw [joinL_cons] at hc
    rcases List.mem_append.mp hc with z | z
    · exact hl p (List.mem_cons_self ..) c z
    · obtain ⟨x, hx, hcx⟩ := List.mem_flatten.mp z
      obtain ⟨y, hy, rfl⟩ := List.mem_map.mp hx
      rcases List.mem_append.mp hcx with z | z
      · exact hq c z
      · exact hl y (List.mem_cons_of_mem _ hy) c z
theorem Pc.join {a : Nat} {l : List Str} (h : Pc a l) : Tx a (Txt.join sA l) := by
  refine ⟨?_, ?_⟩
  · rw [join_eq]
    refine Nat.le_trans (PySem.StrLaws.join_length_le _ _) ?_
    have e : sA.length = 1 := by decide +kernel
    have := h.lens
    rw [e]
    omega
  · rw [join_eq, tl_join, tl_sA]
    refine low_join (by decide) fun p hp => ?_
    obtain ⟨x, hx, rfl⟩ := List.mem_map.mp hp
    exact h.low x hx
theorem Tx.cut {n : Nat} {z : Str} (h : Tx n z) (lo hi : Option Int) : Tx n (cutS z lo hi) := ⟨Nat.le_trans (cutS_length z lo hi) h.len, fun c hc => by
  have hc : c ∈ (z.cps.toList.drop (HT.sIx z.length 0 lo)).take (HT.sIx z.length z.length hi - HT.sIx z.length 0 lo) := hc
  exact h.low c (List.mem_of_mem_drop (List.mem_of_mem_take hc))⟩
theorem Tx.app {a b : Nat} {x y : Str} (h : Tx a x) (g : Tx b y) : Tx (a + b) (x ++ y) := ⟨by rw [Str.length_append]; have := h.len; have := g.len; omega, fun c hc => by
  rw [tl_append] at hc
  exact (List.mem_append.mp hc).elim (h.low c) (g.low c)⟩
def okW (z : Str) : Bool := (decide (1 ≤ z.length) && decide (z.length ≤ 7)) && (tl z).all fun c => decide (c ∈ tl sF)
def valW (z : Str) : Int := ((NumText.digitsVal (tl z) : Nat) : Int)
theorem chain_len (z : Str) : (decide ((1 : Int) ≤ (z.length : Int)) && decide ((z.length : Int) ≤ 7)) = (decide (1 ≤ z.length) && decide (z.length ≤ 7)) := by
  congr 1 <;> exact decide_eq_decide.mpr ⟨fun h => by omega, fun h => by omega⟩
theorem okW_int {z : Str} (h : okW z = true) : PySem.intText? z = some (valW z) ∧ z.length ≤ 7 := by
  have h : ((decide (1 ≤ z.length) && decide (z.length ≤ 7)) && (tl z).all fun c => decide (c ∈ tl sF)) = true := h
  rw [Bool.and_eq_true, Bool.and_eq_true, decide_eq_true_eq, decide_eq_true_eq, List.all_eq_true] at h
  obtain ⟨⟨h1, h7⟩, hd⟩ := h
  have hl := len_tl z
  refine ⟨PySem.intText_digits (x := z) (fun c hc => ?_) (fun e => ?_) (by omega), h7⟩
  · have := of_decide_eq_true (hd c hc)
    rw [tl_sF] at this
    simp only [List.mem_cons, List.not_mem_nil, or_false] at this
    omega
  · have e : tl z = [] := e
    rw [e, List.length_nil] at hl
    omega
theorem find_sign (z : Str) (c : Nat) : decide (Txt.find z ⟨#[c]⟩ < 0) = !decide (c ∈ tl z) := by
  have hy : tl (⟨#[c]⟩ : Str) ≠ [] := by simp
  rcases find_whole z ⟨#[c]⟩ with ⟨h, hn⟩ | ⟨i, h, hi, _⟩
  · rw [h]
    by_cases hc : c ∈ tl z
    · obtain ⟨i, hi, e⟩ := List.getElem_of_mem hc
      refine absurd ((at_iff hy i).mpr ?_) (hn i)
      show (((tl z).drop i).take 1 == [c]) = true
      rw [List.drop_eq_getElem_cons hi, e, List.take_succ_cons, List.take_zero]
      exact beq_self_eq_true _
    · rw [decide_eq_false hc]
      rfl
  · rw [h]
    have hc : c ∈ tl z := by
      have q := (at_iff hy i).mp hi
      have q : ((tl z).drop i).take 1 = [c] := eq_of_beq q
      have q2 : c ∈ ((tl z).drop i).take 1 := by rw [q]; exact List.mem_singleton.mpr rfl
      exact List.mem_of_mem_drop (List.mem_of_mem_take q2)
    rw [decide_eq_true hc, decide_eq_false (by omega)]
    rfl
def partsT (z : Str) : List Str := Txt.split z sB
def wordsT (z : Str) : List Str := Txt.split z sA
def okP (p : Str) : Bool := (wordsT p).all okW
def rowP (p : Str) : List Int := (wordsT p).map valW
def okT (z : Str) : Bool := (partsT z).all okP
def rowsT (z : Str) : List (List Int) := (partsT z).map rowP
def goodT (z : Str) : Bool := saleB (sal (rowsT z)) && decide (wrS (rowsT z) = z)
def readM (z : Str) : Option (List (List Int)) := if (okT z && goodT z) = true then some (rowsT z) else none
def resD : Option (List (List Int)) → D
  | none => .none
  | some S => sal S
theorem read_bad {z : Str} (h : okT z = false) : readM z = none := by
  unfold readM
  rw [h]
  rfl
theorem read_not {z : Str} (h : goodT z = false) : readM z = none := by
  unfold readM
  rw [h, Bool.and_false]
  rfl
theorem read_good {z : Str} (h : okT z = true) (g : goodT z = true) : readM z = some (rowsT z) := by
  unfold readM
  rw [h, g]
  rfl
theorem read_some {z : Str} {S : List (List Int)} (h : readM z = some S) : okT z = true ∧ goodT z = true ∧ S = rowsT z := by
  cases e1 : okT z with
  | false => rw [read_bad e1] at h; cases h
  | true =>
    cases e2 : goodT z with
    | false => rw [read_not e2] at h; cases h
    | true => rw [read_good e1 e2] at h; cases h; exact ⟨rfl, rfl, rfl⟩
theorem row_inj {a b : List Int} (h : row a = row b) : a = b := by
  have := eqv_row a b
  have e : PyData.eqv (.tuple (a.map .int)) (.tuple (b.map .int)) = PyData.eqv (.tuple (a.map .int)) (.tuple (a.map .int)) := by
    have h : PyData.tuple (a.map .int) = .tuple (b.map .int) := h
    rw [h]
  rw [e, eqv_row, decide_eq_true rfl] at this
  exact of_decide_eq_true this.symm
theorem sal_inj {a b : List (List Int)} (h : sal a = sal b) : a = b := by
  have := eqv_sal a b
  have e : PyData.eqv (.tuple (a.map fun r => PyData.tuple (r.map PyData.int))) (.tuple (b.map fun r => PyData.tuple (r.map PyData.int))) = PyData.eqv (.tuple (a.map fun r => PyData.tuple (r.map PyData.int))) (.tuple (a.map fun r => PyData.tuple (r.map PyData.int))) := by
    have h : PyData.tuple (a.map fun r => PyData.tuple (r.map PyData.int)) = .tuple (b.map fun r => PyData.tuple (r.map PyData.int)) := h
    rw [h]
  rw [e, eqv_sal, decide_eq_true rfl] at this
  exact of_decide_eq_true this.symm
theorem salB_back {S : List (List Int)} (h : saleB (sal S) = true) : SalB S := by
  obtain ⟨S2, e, h2⟩ := sale_salB h
  rw [sal_inj e]
  exact h2
theorem good_iff {z : Str} : goodT z = true ↔ SalB (rowsT z) ∧ wrS (rowsT z) = z := by
  unfold goodT
  rw [Bool.and_eq_true, decide_eq_true_eq]
  exact ⟨fun h => ⟨salB_back h.1, h.2⟩, fun h => ⟨salB_sale h.1, h.2⟩⟩
/-- what is read is short -/
theorem shortF_rows {z : Str} (h : Tx 90000 z) : shortF (sal (rowsT z)) := by
  have hp := (pcB h).1
  refine ⟨?_, fun e he => ?_⟩
  · show ((rowsT z).map row).length ≤ 95000
    rw [List.length_map]
    show ((partsT z).map rowP).length ≤ 95000
    rw [List.length_map]
    exact Nat.le_trans hp.len (by decide)
  · obtain ⟨r, hr, rfl⟩ := List.mem_map.mp (show e ∈ (rowsT z).map row from he)
    obtain ⟨p, hpm, rfl⟩ := List.mem_map.mp (show r ∈ (partsT z).map rowP from hr)
    show ((rowP p).map PyData.int).length ≤ 95000
    rw [List.length_map]
    show ((wordsT p).map valW).length ≤ 95000
    rw [List.length_map]
    exact Nat.le_trans (pcA (hp.tx p hpm)).1.len (by decide)
theorem first_bad {α : Type} {f : α → Bool} : ∀ {l : List α}, l.all f = false → ∃ (n : Nat) (a : α), l[n]? = some a ∧ f a = false ∧ ∀ (i : Nat) (b : α), i < n → l[i]? = some b → f b = true
  | [], h => by cases h
  | x :: l, h => by
    cases e : f x with
    | false => exact ⟨0, x, rfl, e, fun i b hi => absurd hi (Nat.not_lt_zero _)⟩
    | true =>
      rw [List.all_cons, e, Bool.true_and] at h
      obtain ⟨n, a, h1, h2, h3⟩ := first_bad h
      refine ⟨n + 1, a, by rw [List.getElem?_cons_succ]; exact h1, h2, fun i b hi hb => ?_⟩
      cases i with
      | zero => rw [List.getElem?_cons_zero] at hb; cases hb; exact e
      | succ i => rw [List.getElem?_cons_succ] at hb; exact h3 i b (by omega) hb
theorem txt_low {b : Int} (h0 : 0 ≤ b) : ∀ c ∈ tl (txt b), c < 128 := by
  obtain ⟨n, rfl⟩ : ∃ n : Nat, b = (n : Int) := ⟨b.toNat, (Int.toNat_of_nonneg h0).symm⟩
  unfold txt
  rw [tl_num]
  intro c hc
  have := numL_digits n c hc
  omega
theorem tx_wr {S : List (List Int)} (h : SalB S) : Tx 320 (wrS S) := by
  refine ⟨?_, ?_⟩
  · unfold wrS
    rw [join_eq]
    refine Nat.le_trans (PySem.StrLaws.join_length_le _ _) ?_
    have h1 := sum_le (fun x : Str => x.length) 48 (S.map rowS) fun x hx => by
      obtain ⟨r, hr, rfl⟩ := List.mem_map.mp hx
      exact rowS_len (h.len r hr).2 (h.bid r hr)
    have h6 := h.g6
    rw [List.length_map] at h1 ⊢
    have e : (Str.ofString " ; ").length = 3 := by decide +kernel
    rw [e]
    omega
  · rw [tl_wrS]
    refine low_join (by decide) fun p hp => ?_
    obtain ⟨r, hr, rfl⟩ := List.mem_map.mp hp
    refine low_join (by decide) fun p hp => ?_
    obtain ⟨b, hb, rfl⟩ := List.mem_map.mp hp
    exact txt_low (h.bid r hr b hb).1
theorem eqv_str2 (x y : Str) : PyData.eqv (.str x) (.str y) = decide (x = y) := by
  by_cases h : x = y
  · subst h
    rw [decide_eq_true rfl]
    simp [PyData.eqv]
  · rw [decide_eq_false h]
    simp [PyData.eqv, h]
abbrev sg18 : Str := Str.ofString " 0123456789;;-+_\n\t"
abbrev sm12 : Str := Str.ofString "; 0 1 1000000 1000001 00 -0 5 ;; 9999999 3 7"
def smW : List Str := Txt.split sm12 sA
def chA (z : Str) (n : Int) : Nat := (n / 8 % ((wordsT z).length : Int)).toNat
def chP (z : Str) (n : Int) : Nat := (n / 8 % ((z.length : Int) + 1)).toNat
def chS (n : Int) : Nat := (tl sg18).getD (n / 7 % 18).toNat 0
def chN (n : Int) : Str := smW.getD (n / 7 % 12).toNat sA
def changedM (z : Str) (n : Int) : Str :=
  if n % 8 = 0 then cutS z none (some (chP z n : Int)) ++ cutS z (some ((chP z n : Int) + 1)) none
  else if n % 8 < 3 then cutS z none (some (chP z n : Int)) ++ ⟨#[chS n]⟩ ++ cutS z (some ((chP z n : Int) + n % 8 - 1)) none
  else if n % 8 = 3 then Txt.join sA (cutD (wordsT z) none (some (chA z n : Int)) ++ cutD (wordsT z) (some ((chA z n : Int) + 1)) none)
  else if n % 8 = 4 then Txt.join sA (cutD (wordsT z) none (some (chA z n : Int)) ++ cutD (wordsT z) (some (chA z n : Int)) (some ((chA z n : Int) + 1)) ++ cutD (wordsT z) (some (chA z n : Int)) none)
  else if n % 8 = 5 then Txt.join sA (cutD (wordsT z) none (some (chA z n : Int)) ++ (cutD (wordsT z) (some ((chA z n : Int) + 1)) (some ((chA z n : Int) + 2)) ++ cutD (wordsT z) (some (chA z n : Int)) (some ((chA z n : Int) + 1))) ++ cutD (wordsT z) (some ((chA z n : Int) + 2)) none)
  else Txt.join sA (cutD (wordsT z) none (some (chA z n : Int)) ++ [chN n] ++ cutD (wordsT z) (some ((chA z n : Int) + 1)) none)
theorem sg18_all : (tl sg18).length = 18 ∧ ∀ c ∈ tl sg18, c < 128 := by decide +kernel
theorem smW_all : smW.length = 12 ∧ ∀ p ∈ smW, p.length ≤ 7 ∧ ∀ c ∈ tl p, c < 128 := by decide +kernel
theorem chA_eq {z : Str} {n : Int} (h : 1 ≤ (wordsT z).length) : n / 8 % ((wordsT z).length : Int) = (chA z n : Int) := (Int.toNat_of_nonneg (Int.emod_nonneg _ (by omega))).symm
theorem chP_eq {z : Str} {n : Int} : n / 8 % ((z.length : Int) + 1) = (chP z n : Int) := (Int.toNat_of_nonneg (Int.emod_nonneg _ (by omega))).symm
theorem chS_at (n : Int) : atI sg18.cps.toList (n / 7 % 18) = some (chS n) := by
  have h0 : 0 ≤ n / 7 % 18 := Int.emod_nonneg _ (by decide)
  have h1 : n / 7 % 18 < 18 := Int.emod_lt_of_pos _ (by decide)
  exact atI_of h0 (getD_lt (xs := tl sg18) (by rw [sg18_all.1]; omega))
theorem chS_low (n : Int) : chS n < 128 := by
  have h0 : 0 ≤ n / 7 % 18 := Int.emod_nonneg _ (by decide)
  have h1 : n / 7 % 18 < 18 := Int.emod_lt_of_pos _ (by decide)
  exact sg18_all.2 _ (List.mem_of_getElem? (getD_lt (xs := tl sg18) (z := 0) (i := (n / 7 % 18).toNat) (by rw [sg18_all.1]; omega)))
theorem chN_at (n : Int) : atI (smW.map PyData.str) (n / 7 % 12) = some (.str (chN n)) := by
  have h0 : 0 ≤ n / 7 % 12 := Int.emod_nonneg _ (by decide)
  have h1 : n / 7 % 12 < 12 := Int.emod_lt_of_pos _ (by decide)
  refine atI_of h0 ?_
  rw [List.getElem?_map, getD_lt (xs := smW) (i := (n / 7 % 12).toNat) (z := sA) (by rw [smW_all.1]; omega)]
  rfl
theorem chN_pc (n : Int) : Pc 8 [chN n] := by
  have h0 : 0 ≤ n / 7 % 12 := Int.emod_nonneg _ (by decide)
  have h1 : n / 7 % 12 < 12 := Int.emod_lt_of_pos _ (by decide)
  have hm : chN n ∈ smW := List.mem_of_getElem? (getD_lt (xs := smW) (z := sA) (i := (n / 7 % 12).toNat) (by rw [smW_all.1]; omega))
  have := smW_all.2 _ hm
  refine ⟨?_, fun p hp => ?_⟩
  · show (chN n).length + 1 + 0 ≤ 8
    omega
  · rw [List.mem_singleton.mp hp]
    exact this.2
theorem cutD_map {α β : Type} (f : α → β) (l : List α) (lo hi : Option Int) : cutD (l.map f) lo hi = (cutD l lo hi).map f := by
  unfold cutD
  rw [List.length_map, List.map_take, List.map_drop]
theorem changed_tx {m : Nat} {z : Str} (n : Int) (h : Tx m z) : Tx (4 * m + 14) (changedM z n) := by
  have hp := (pcA h).1
  have hw : ∀ lo hi, Pc (m + 1) (cutD (wordsT z) lo hi) := fun lo hi => hp.cut lo hi
  have hS : Tx 1 ⟨#[chS n]⟩ := ⟨Nat.le_refl _, fun c hc => by
    rw [List.mem_singleton.mp (show c ∈ [chS n] from hc)]
    exact chS_low n⟩
  unfold changedM
  split
  · exact ((h.cut _ _).app (h.cut _ _)).mono (by omega)
  split
  · exact (((h.cut _ _).app hS).app (h.cut _ _)).mono (by omega)
  split
  · exact ((hw _ _).app (hw _ _)).join.mono (by omega)
  split
  · exact (((hw _ _).app (hw _ _)).app (hw _ _)).join.mono (by omega)
  split
  · exact (((hw _ _).app ((hw _ _).app (hw _ _))).app (hw _ _)).join.mono (by omega)
  · exact (((hw _ _).app (chN_pc n)).app (hw _ _)).join.mono (by omega)
def bdT : Nat → Nat
  | 0 => 320
  | n + 1 => 4 * bdT n + 14
theorem bdT_le {n : Nat} (h : n ≤ 4) : bdT n ≤ 90000 := by
  match n, h with
  | 0, _ => decide
  | 1, _ => decide
  | 2, _ => decide
  | 3, _ => decide
  | 4, _ => decide
end Bid

namespace Bid
open PySem PySem.Spec PyProof.Rows L2 TL
def R_bid : List Sl → D → Prop := fun ss v => ∃ z : Str, ss = [.d (.str z)] ∧ z.length ≤ 90000 ∧ okW z = true ∧ v = .int (valW z)
def Rx_bid (K : Frg) : List Sl → Value → Prop := fun ss c => ∃ z : Str, ss = [.d (.str z)] ∧ z.length ≤ 90000 ∧ okW z = false ∧ c = .ref (He.ga K "NoText")
def R_read : List Sl → D → Prop := fun ss v => ∃ (z : Str) (S : List (List Int)), ss = [.d (.str z)] ∧ Tx 90000 z ∧ readM z = some S ∧ v = sal S
def Rx_read (K : Frg) : List Sl → Value → Prop := fun ss c => ∃ z : Str, ss = [.d (.str z)] ∧ Tx 90000 z ∧ readM z = none ∧ c = .ref (He.ga K "NoText")
def R_told : List Sl → D → Prop := fun ss v => ∃ z : Str, ss = [.d (.str z)] ∧ Tx 90000 z ∧ v = resD (readM z)
def R_changed : List Sl → D → Prop := fun ss v => ∃ (z : Str) (n : Int), ss = [.d (.str z), .d (.int n)] ∧ Tx 22000 z ∧ v = .str (changedM z n)
section
variable {P : Program} {w : World} {K : Frg} {mg : Str → Option Value} {base : Heap} {f : Addr} {fd : FuncData} {k : Nat}
theorem ok_bid_of (F : F_bid_of K f fd) (T : Bt mg) (Z : Er K mg) (Ki_FIGURES : ∃ t, mg "FIGURES" = some (.str "0123456789" t)) : FnOk P w K mg base (L2.CX P w) (k + 1) f fd p_bid_of (spX P w K R_bid (Rx_bid K)) := by
  obtain ⟨tf, hfig⟩ := Ki_FIGURES
  have hN := sc_bid_of.nd
  refine fn_X F sc_bid_of (fun ss r h => by obtain ⟨z, rfl, _⟩ := h; rfl) (fun ss r h => by obtain ⟨z, rfl, _⟩ := h; rfl) ?_ ?_
  · intro cdv A outer s H E G ss v hr hR
    obtain ⟨z, rfl, hz, hok, rfl⟩ := hR
    have hl := len_tl z
    obtain ⟨hint, h7⟩ := okW_int hok
    have hok2 : ((decide (1 ≤ z.length) && decide (z.length ≤ 7)) && (tl z).all fun c => decide (c ∈ tl sF)) = true := hok
    rw [Bool.and_eq_true] at hok2
    refine ds_cons (ds_if (k := false) (dt_or (k := false) (l := false) (dt_is (dt_not (dt_chain de_int (de_lenS (z := z) (by rw [sizeLine_eq]; omega) T.len (de_var 0)) de_int)) (by rw [chain_len, hok2.1]; rfl))
      (fun _ => dw_or1 (dt_is (dt_not (dt_val (de_all (bs := (tl z).map fun c => decide (c ∈ tl sF)) T.all (de_is (de_lc0 (xs := tl z) (fun c => .str ⟨#[c]⟩) (fun c => .bool (decide (c ∈ tl sF))) 1 (di_str (de_var 0)) (fun c hc _ O s0 H0 C cl fp => de_inSign (de_var 1) (de_gstr hfig)) (by omega) hN) (by rw [List.map_map]; rfl))))) (by rw [bools_all, hok2.2]; rfl)))) (fun h => by cases h) (fun _ => ds_nil ?_))
    exact ds_one (ds_ret (de_intT hint (by omega) T.int (de_var 0)) ⟨rfl, fun _ h => h⟩)
  · intro cdv A outer s H E G ss cls hr hR tk
    obtain ⟨z, rfl, hz, hok, rfl⟩ := hR
    have hl := len_tl z
    have hok2 : ((decide (1 ≤ z.length) && decide (z.length ≤ 7)) && (tl z).all fun c => decide (c ∈ tl sF)) = false := hok
    cases h1 : (decide (1 ≤ z.length) && decide (z.length ≤ 7)) with
    | false => exact dr_here (dr_if (k := true) (dt_or (k := true) (l := false) (dt_is (dt_not (dt_chain de_int (de_lenS (z := z) (by rw [sizeLine_eq]; omega) T.len (de_var 0)) de_int)) (by rw [chain_len, h1]; rfl)) (fun h => by cases h)) (fun _ => dr_here (dr_raise tk (Z.cls "NoText" (by decide)) rfl)) (fun h => by cases h))
    | true =>
      rw [h1, Bool.true_and] at hok2
      exact dr_here (dr_if (k := true) (dt_or (k := false) (l := true) (dt_is (dt_not (dt_chain de_int (de_lenS (z := z) (by rw [sizeLine_eq]; omega) T.len (de_var 0)) de_int)) (by rw [chain_len, h1]; rfl))
        (fun _ => dw_or1 (dt_is (dt_not (dt_val (de_all (bs := (tl z).map fun c => decide (c ∈ tl sF)) T.all (de_is (de_lc0 (xs := tl z) (fun c => .str ⟨#[c]⟩) (fun c => .bool (decide (c ∈ tl sF))) 1 (di_str (de_var 0)) (fun c hc _ O s0 H0 C cl fp => de_inSign (de_var 1) (de_gstr hfig)) (by omega) hN) (by rw [List.map_map]; rfl))))) (by rw [bools_all, hok2]; rfl)))) (fun _ => dr_here (dr_raise tk (Z.cls "NoText" (by decide)) rfl)) (fun h => by cases h))
theorem ok_read (F : F_read K f fd) (T : Bt mg) (Z : Er K mg) (c1 : CfX P w K mg base k "bid_of" (spX P w K R_bid (Rx_bid K))) (c2 : Cf P w K mg base k "is_sale" (spP P w K R_issale)) (c3 : Cf P w K mg base k "text_of" (spP P w K R_textof)) : FnOk P w K mg base (L2.CX P w) (k + 1) f fd p_read (spX P w K R_read (Rx_read K)) := by
  have hN := sc_read.nd
  have e1 : (sA.length == 0) = false := by decide +kernel
  have e3 : (sB.length == 0) = false := by decide +kernel
  refine fn_X F sc_read (fun ss r h => by obtain ⟨z, S, rfl, _⟩ := h; rfl) (fun ss r h => by obtain ⟨z, rfl, _⟩ := h; rfl) ?_ ?_
  · intro cdv A outer s H E G ss v hr hR
    obtain ⟨z, S, rfl, hz, hrd, rfl⟩ := hR
    obtain ⟨h1, h2, rfl⟩ := read_some hrd
    obtain ⟨hS, hw⟩ := good_iff.mp h2
    have hB := (pcB hz).1
    have hzl := hz.len
    refine ds_cons (ds_if (k := false) (dt_not (dt_val (k := true) (de_isi (d := .str z) (T := "str") (Tn := "str") (kit_str _) T.isinstance T.str (by rfl) (de_var 0)))) (fun h => by cases h) (fun _ => ds_nil ?_))
    refine ds_cons (ds_set 1 (d := sal (rowsT z)) (de_tupleL T.tuple (de_is (de_lc0 (xs := partsT z) (fun p => .str p) (fun p => row (rowP p)) 3 (di_list (de_split (y := sB) e3 (by rw [sizeLine_eq]; omega) (de_var 0) de_str)) (fun p hp _ O s0 H0 C cl fp => ?_) (Nat.le_trans hB.len (by decide)) hN) (by unfold rowsT; rw [List.map_map]; rfl))) ?_ hN)
    · have hx := hB.tx p hp
      have hxl := hx.len
      have hW := (pcA hx).1
      have hpo : okP p = true := List.all_eq_true.mp h1 p hp
      exact de_tupleL T.tuple (de_is (de_lc0 (xs := wordsT p) (fun q => .str q) (fun q => .int (valW q)) 2 (di_list (de_split (y := sA) e1 (by rw [sizeLine_eq]; omega) (de_var 3) de_str)) (fun q hq _ O s0 H0 C cl fp => de_callX (c1.cal hr) (da_cons (de_var 2) da_nil) ⟨q, rfl, (hW.tx q hq).len, List.all_eq_true.mp hpo q hq, rfl⟩) (Nat.le_trans hW.len (by decide)) hN) (by unfold rowP; rw [List.map_map]; rfl))
    · have sh1 : SeqAt.shaped (.str (wrS (rowsT z))) = true := by rw [hw]; exact shaped_of (n := 0) hz.shp
      refine ds_cons (ds_if (k := false) (dt_or (k := false) (l := false) (dt_is (dt_not (dt_val (de_call (c2.cal hr) (da_cons (de_var 1) da_nil) ⟨_, rfl, shortF_rows hz, rfl⟩))) (by rw [salB_sale hS]; rfl)) (fun _ => dw_or1 (dt_is (dt_ne (da := .str (wrS (rowsT z))) (db := .str z) hr sh1 (shaped_of (n := 0) hz.shp) (de_call (c3.cal hr) (da_cons (de_var 1) da_nil) ⟨_, rfl, hS, rfl⟩) (de_var 0)) (by rw [eqv_str2, hw, decide_eq_true rfl]; rfl)))) (fun h => by cases h) (fun _ => ds_nil ?_))
      exact ds_one (ds_ret (de_var 1) ⟨rfl, fun _ h => h⟩)
  · intro cdv A outer s H E G ss cls hr hR tk
    obtain ⟨z, rfl, hz, hno, rfl⟩ := hR
    have hB := (pcB hz).1
    have hzl := hz.len
    refine dr_cons (ds_if (k := false) (dt_not (dt_val (k := true) (de_isi (d := .str z) (T := "str") (Tn := "str") (kit_str _) T.isinstance T.str (by rfl) (de_var 0)))) (fun h => by cases h) (fun _ => ds_nil ?_))
    cases hok : okT z with
    | false =>
      obtain ⟨n, p, h1, h2, h3⟩ := first_bad hok
      obtain ⟨m, q, g1, g2, g3⟩ := first_bad (show (wordsT p).all okW = false from h2)
      have hx := hB.tx p (List.mem_of_getElem? h1)
      have hxl := hx.len
      have hW := (pcA hx).1
      refine dr_here (dr_set 1 (dx_tuple T.tuple (dx_lc (xs := partsT z) (n := n) (an := p) (fun p => .str p) (fun p => row (rowP p)) 3 (takesL_of tk) (di_list (de_split (y := sB) e3 (by rw [sizeLine_eq]; omega) (de_var 0) de_str)) h1 (fun i p' hi hp' O s0 H0 C cl fp xe => ?_) (fun O s0 H0 C cl fp xe Wb tkb => ?_) (Nat.le_trans hB.len (by decide)) rfl rfl rfl hN)) rfl hN)
      · have hx' := hB.tx p' (List.mem_of_getElem? hp')
        have hxl' := hx'.len
        have hW' := (pcA hx').1
        have hpo : okP p' = true := h3 i p' hi hp'
        exact de_tupleL T.tuple (de_is (de_lc0 (xs := wordsT p') (fun q => .str q) (fun q => .int (valW q)) 2 (di_list (de_split (y := sA) e1 (by rw [sizeLine_eq]; omega) (de_var 3) de_str)) (fun q hq _ O s0 H0 C cl fp => de_callX (c1.cal hr) (da_cons (de_var 2) da_nil) ⟨q, rfl, (hW'.tx q hq).len, List.all_eq_true.mp hpo q hq, rfl⟩) (Nat.le_trans hW'.len (by decide)) hN) (by unfold rowP; rw [List.map_map]; rfl))
      · exact dx_tuple T.tuple (dx_lc (xs := wordsT p) (n := m) (an := q) (fun q => .str q) (fun q => .int (valW q)) 2 tkb (di_list (de_split (y := sA) e1 (by rw [sizeLine_eq]; omega) (de_var 3) de_str)) g1 (fun i q' hi hq' O s0 H0 C cl fp xe => de_callX (c1.cal hr) (da_cons (de_var 2) da_nil) ⟨q', rfl, (hW.tx q' (List.mem_of_getElem? hq')).len, g3 i q' hi hq', rfl⟩)
          (fun O s0 H0 C cl fp xe Wb tkb2 => dx_callL (c1.cal hr) tkb2 (da_cons (de_var 2) da_nil) ⟨q, rfl, (hW.tx q (List.mem_of_getElem? g1)).len, g2, rfl⟩) (Nat.le_trans hW.len (by decide)) rfl rfl rfl hN)
    | true =>
      have hg : goodT z = false := by
        cases hg : goodT z with
        | false => rfl
        | true => rw [read_good hok hg] at hno; cases hno
      refine dr_cons (ds_set 1 (d := sal (rowsT z)) (de_tupleL T.tuple (de_is (de_lc0 (xs := partsT z) (fun p => .str p) (fun p => row (rowP p)) 3 (di_list (de_split (y := sB) e3 (by rw [sizeLine_eq]; omega) (de_var 0) de_str)) (fun p hp _ O s0 H0 C cl fp => ?_) (Nat.le_trans hB.len (by decide)) hN) (by unfold rowsT; rw [List.map_map]; rfl))) ?_ hN)
      · have hx := hB.tx p hp
        have hxl := hx.len
        have hW := (pcA hx).1
        have hpo : okP p = true := List.all_eq_true.mp hok p hp
        exact de_tupleL T.tuple (de_is (de_lc0 (xs := wordsT p) (fun q => .str q) (fun q => .int (valW q)) 2 (di_list (de_split (y := sA) e1 (by rw [sizeLine_eq]; omega) (de_var 3) de_str)) (fun q hq _ O s0 H0 C cl fp => de_callX (c1.cal hr) (da_cons (de_var 2) da_nil) ⟨q, rfl, (hW.tx q hq).len, List.all_eq_true.mp hpo q hq, rfl⟩) (Nat.le_trans hW.len (by decide)) hN) (by unfold rowP; rw [List.map_map]; rfl))
      · cases hs : saleB (sal (rowsT z)) with
        | false => exact dr_here (dr_if (k := true) (dt_or (k := true) (l := false) (dt_is (dt_not (dt_val (de_call (c2.cal hr) (da_cons (de_var 1) da_nil) ⟨_, rfl, shortF_rows hz, rfl⟩))) (by rw [hs]; rfl)) (fun h => by cases h)) (fun _ => dr_here (dr_raise tk (Z.cls "NoText" (by decide)) rfl)) (fun h => by cases h))
        | true =>
          have hS := salB_back hs
          have hne : ¬ wrS (rowsT z) = z := fun e => by rw [good_iff.mpr ⟨hS, e⟩] at hg; cases hg
          exact dr_here (dr_if (k := true) (dt_or (k := false) (l := true) (dt_is (dt_not (dt_val (de_call (c2.cal hr) (da_cons (de_var 1) da_nil) ⟨_, rfl, shortF_rows hz, rfl⟩))) (by rw [hs]; rfl)) (fun _ => dw_or1 (dt_is (dt_ne (da := .str (wrS (rowsT z))) (db := .str z) hr (shaped_of (n := 0) (tx_wr hS).shp) (shaped_of (n := 0) hz.shp) (de_call (c3.cal hr) (da_cons (de_var 1) da_nil) ⟨_, rfl, hS, rfl⟩) (de_var 0)) (by rw [eqv_str2, decide_eq_false hne]; rfl)))) (fun _ => dr_here (dr_raise tk (Z.cls "NoText" (by decide)) rfl)) (fun h => by cases h))
theorem ok_l_found (F : F_l_found K f fd) (T : Bt mg) (Z : Er K mg) (c1 : CfX P w K mg base k "read" (spX P w K R_read (Rx_read K))) : FnOk P w K mg base CX0 (k + 1) f fd p_l_found (spP P w K R_told) := by
  refine fn_R F sc_l_found (lenP fun ss r h => by obtain ⟨z, rfl, _⟩ := h; rfl) ?_
  intro cdv A outer s H E G ss O O' r hr hR
  obtain ⟨rfl, rfl, z, rfl, hz, rfl⟩ := hR
  have hN := sc_l_found.nd
  have Zr := Z.cls "NoText" (by decide)
  cases hm : readM z with
  | none =>
    refine ds_cons (ds_tryX (i := 2) (fun c ρ' O' => c = .ref (He.ga K "NoText") ∧ ρ' = [some (.d (.str z)), none, none, none] ∧ O' = []) (fun W pn xe tk => ?_) (C := .ref (He.ga K "NoText")) ⟨rfl, by decide, .inl Zr.g⟩ (fun cls ρ' O' h => ?_) (fun cls ρ' O' a oe pn h hz hf => ?_) (hN := hN))
    · exact dr_here (dr_set 1 (dx_call (c1.cal hr) tk (da_cons (de_var 0) da_nil) ⟨z, rfl, hz, hm, rfl⟩) ⟨rfl, rfl, rfl⟩ hN)
    · rw [h.1]
      exact Z.exm "NoText" (by decide) "NoText" (by decide)
    · obtain ⟨rfl, rfl, rfl⟩ := h
      refine ds_cons (ds_set 3 (d := .bool true) (de_and (k := true) (l := true) (de_isErr 2 (k := true) Zr.e hz hf (Z.kit "NoText" (by decide) "SaleError" (by decide)) Z.base T.isinstance) (fun _ => de_one (de_isErrV 2 Zr.e hz hf Zr.ve Z.ve T.isinstance))) ?_ hN)
      exact ds_one (ds_ret (de_ixL (ds := [.tuple [], .none]) (i := 1) (d := .none) rfl (de_lst (ds := [.tuple [], .none]) (da_cons (de_tup (ds := []) da_nil) (da_cons de_non da_nil))) (de_intB (k := true) T.int (de_and (k := true) (l := true) (de_var 3) (fun _ => de_and (k := true) (l := true) (de_not (k := false) (de_isErr 2 (k := false) Zr.e hz hf (Z.kit "NoText" (by decide) "NoSale" (by decide)) (Z.cls "NoSale" (by decide)).g T.isinstance)) (fun _ => de_one (de_not (k := false) (de_isErr 2 (k := false) Zr.e hz hf (Z.kit "NoText" (by decide) "NoRoom" (by decide)) (Z.cls "NoRoom" (by decide)).g T.isinstance))))))) ⟨rfl, fun _ h => h⟩)
  | some S =>
    refine ds_cons (ds_try (i := 2) (fun pn xe => ds_one (ds_set 1 (d := sal S) (de_callX (c1.cal hr) (da_cons (de_var 0) da_nil) ⟨z, S, rfl, hz, hm, rfl⟩) ?_ hN)) (c := .ref (He.ga K "NoText")) ⟨rfl, by decide, .inl Zr.g⟩ (hN := hN))
    exact ds_one (ds_ret (de_ixL (ds := [sal S, .tuple []]) (i := 0) (d := sal S) rfl (de_lst (ds := [sal S, .tuple []]) (da_cons (de_var 1) (da_cons (de_tup (ds := []) da_nil) da_nil))) (de_intB (k := false) T.int (de_isN (da := sal S) (de_var 1)))) ⟨rfl, fun _ h => h⟩)
end
end Bid

namespace Bid
open PySem PySem.Spec PyProof.Rows L2 TL
theorem take_one {α : Type} {xs : List α} {i : Nat} {a : α} (h : xs[i]? = some a) : xs.take (i + 1) = xs.take i ++ [a] := by rw [List.take_add_one, h]; rfl
theorem all_snoc {α : Type} {f : α → Bool} {xs : List α} {i : Nat} {a : α} (h : xs[i]? = some a) (q : ∀ x ∈ xs.take i, f x = true) (ha : f a = true) : ∀ x ∈ xs.take (i + 1), f x = true := fun x hx => by
  rw [take_one h] at hx
  rcases List.mem_append.mp hx with z | z
  · exact q x z
  · rw [List.mem_singleton.mp z]; exact ha
theorem bad_of {α : Type} {f : α → Bool} {l : List α} {a : α} (h : a ∈ l) (q : f a = false) : l.all f = false := by
  cases e : l.all f with
  | false => rfl
  | true => rw [List.all_eq_true.mp e a h] at q; cases q
theorem lt_of_at {α : Type} {xs : List α} {i : Nat} {a : α} (h : xs[i]? = some a) : i < xs.length := (List.getElem?_eq_some_iff.mp h).1
section
variable {P : Program} {w : World} {K : Frg} {mg : Str → Option Value} {base : Heap} {f : Addr} {fd : FuncData} {k : Nat}
theorem ok_l_due (F : F_l_due K f fd) (T : Bt mg) (c1 : Cf P w K mg base k "_law_is_sale" (spP P w K R_lissale)) (c2 : Cf P w K mg base k "_law_written" (spP P w K R_textof)) : FnOk P w K mg base CX0 (k + 1) f fd p_l_due (spP P w K R_told) := by
  refine fn_R F sc_l_due (lenP fun ss r h => by obtain ⟨z, rfl, _⟩ := h; rfl) ?_
  intro cdv A outer s H E G ss O O' r hr hR
  obtain ⟨rfl, rfl, z, rfl, hz, rfl⟩ := hR
  have hN := sc_l_due.nd
  have e1 : (sA.length == 0) = false := by decide +kernel
  have e3 : (sB.length == 0) = false := by decide +kernel
  have hB := (pcB hz).1
  have hBl : (partsT z).length ≤ 90001 := hB.len
  have hzl := hz.len
  refine ds_cons (ds_set 1 (d := .tuple []) (de_tup (ds := []) da_nil) ?_ hN)
  refine ds_cons (ds_for (xs := partsT z) (fun p => .str p) 2 (fun i ρ O => ∃ y2 y3 y4 y5, ρ = [some (.d (.str z)), some (.d (sal (((partsT z).take i).map rowP))), y2, y3, y4, y5] ∧ O = [] ∧ ∀ p ∈ (partsT z).take i, okP p = true)
    (di_list (de_split (y := sB) e3 (by rw [sizeLine_eq]; omega) (de_var 0) de_str)) ⟨none, none, none, none, by rw [List.take_zero]; rfl, rfl, by rw [List.take_zero]; exact fun _ h => nomatch h⟩ (fun i p ρ' O' hp hI => ?_) (fun ρ' O' hI => ?_) hN)
  · obtain ⟨y2, y3, y4, y5, rfl, rfl, hok⟩ := hI
    have hpm := List.mem_of_getElem? hp
    have hil := lt_of_at hp
    have hx := hB.tx p hpm
    have hxl := hx.len
    have hW := (pcA hx).1
    have hWl : (wordsT p).length ≤ 90001 := hW.len
    refine ds_cons (ds_set 3 (d := .tuple []) (de_tup (ds := []) da_nil) ?_ hN)
    refine ds_cons (ds_for (xs := wordsT p) (fun q => .str q) 4 (fun j ρ O => ∃ y4 y5, ρ = [some (.d (.str z)), some (.d (sal (((partsT z).take i).map rowP))), some (.d (.str p)), some (.d (row (((wordsT p).take j).map valW))), y4, y5] ∧ O = [] ∧ ∀ q ∈ (wordsT p).take j, okW q = true)
      (di_list (de_split (y := sA) e1 (by rw [sizeLine_eq]; omega) (de_var 2) de_str)) ⟨_, _, by rw [List.take_zero]; rfl, rfl, by rw [List.take_zero]; exact fun _ h => nomatch h⟩ (fun j q ρ' O' hq hI => ?_) (fun ρ' O' hI => ?_) hN)
    · obtain ⟨y4, y5, rfl, rfl, hokw⟩ := hI
      have hqm := List.mem_of_getElem? hq
      have hjl := lt_of_at hq
      have hqx := hW.tx q hqm
      have hql := hqx.len
      have hqt := len_tl q
      have hsh : Shp 1 (.list (((tl q).filter fun c => !decide (c ∈ tl sF)).map fun c => .str ⟨#[c]⟩)) := shp_lst fun x hx => by
        obtain ⟨c, hc, rfl⟩ := List.mem_map.mp hx
        have hc := hqx.low c (List.mem_filter.mp hc).1
        exact (Tx.shp (n := 1) ⟨Nat.le_refl _, fun x hx => by rw [List.mem_singleton.mp (show x ∈ [c] from hx)]; exact hc⟩)
      have cnd : ∀ b : Bool, okW q = !b → (decide (1 ≤ q.length) && decide (q.length ≤ 7)) = true → ((tl q).all fun c => decide (c ∈ tl sF)) = !b := fun b h1 h2 => by
        have h1 : ((decide (1 ≤ q.length) && decide (q.length ≤ 7)) && (tl q).all fun c => decide (c ∈ tl sF)) = !b := h1
        rw [h2, Bool.true_and] at h1
        exact h1
      cases hkw : okW q with
      | false =>
        have hn : readM z = none := read_bad (bad_of hpm (bad_of hqm hkw))
        rw [hn]
        cases h1 : (decide (1 ≤ q.length) && decide (q.length ≤ 7)) with
        | false => exact ds_cons (ds_if (k := true) (dt_or (k := true) (l := false) (dt_is (dt_not (dt_chain de_int (de_lenS (z := q) (by rw [sizeLine_eq]; omega) T.len (de_var 4)) de_int)) (by rw [chain_len, h1]; rfl)) (fun h => by cases h)) (fun _ => ds_one (ds_ret de_non ⟨rfl, fun _ h => nomatch h⟩)) (fun h => by cases h))
        | true =>
          have h2 := cnd true hkw h1
          exact ds_cons (ds_if (k := true) (dt_or (k := false) (l := true) (dt_is (dt_not (dt_chain de_int (de_lenS (z := q) (by rw [sizeLine_eq]; omega) T.len (de_var 4)) de_int)) (by rw [chain_len, h1]; rfl))
            (fun _ => dw_or1 (dt_is (dt_ne hr (shaped_of hsh) (by rfl) (de_lc (xs := tl q) (fun c => .str ⟨#[c]⟩) (fun c => !decide (c ∈ tl sF)) (fun c => .str ⟨#[c]⟩) 5 (di_str (de_var 4)) (fun c hc O s0 H0 C cl fp => dts_one (dt_is (dt_lt (de_find (z := sF) de_str (de_var 5)) de_int) (find_sign _ _))) (fun c hc _ O s0 H0 C cl fp => de_var 5) (by omega) hN) (de_lst (ds := []) da_nil)) (by rw [eqv_nilL, List.isEmpty_map, filter_all, h2]; rfl)))) (fun _ => ds_one (ds_ret de_non ⟨rfl, fun _ h => nomatch h⟩)) (fun h => by cases h))
      | true =>
        obtain ⟨hint, h7⟩ := okW_int hkw
        have h1 : (decide (1 ≤ q.length) && decide (q.length ≤ 7)) = true := by
          have h : ((decide (1 ≤ q.length) && decide (q.length ≤ 7)) && (tl q).all fun c => decide (c ∈ tl sF)) = true := hkw
          rw [Bool.and_eq_true] at h
          exact h.1
        have h2 := cnd false hkw h1
        refine ds_cons (ds_if (k := false) (dt_or (k := false) (l := false) (dt_is (dt_not (dt_chain de_int (de_lenS (z := q) (by rw [sizeLine_eq]; omega) T.len (de_var 4)) de_int)) (by rw [chain_len, h1]; rfl))
          (fun _ => dw_or1 (dt_is (dt_ne hr (shaped_of hsh) (by rfl) (de_lc (xs := tl q) (fun c => .str ⟨#[c]⟩) (fun c => !decide (c ∈ tl sF)) (fun c => .str ⟨#[c]⟩) 5 (di_str (de_var 4)) (fun c hc O s0 H0 C cl fp => dts_one (dt_is (dt_lt (de_find (z := sF) de_str (de_var 5)) de_int) (find_sign _ _))) (fun c hc _ O s0 H0 C cl fp => de_var 5) (by omega) hN) (de_lst (ds := []) da_nil)) (by rw [eqv_nilL, List.isEmpty_map, filter_all, h2]; rfl)))) (fun h => by cases h) (fun _ => ds_nil ?_))
        have ht := List.length_take_le j (wordsT p)
        refine ds_one (ds_set 3 (d := row (((wordsT p).take (j + 1)).map valW)) (de_is (de_catT (ds := (((wordsT p).take j).map valW).map .int) (es := [.int (valW q)]) (de_var 3) (de_tup (ds := [.int (valW q)]) (da_cons (de_intT hint (by omega) T.int (de_var 4)) da_nil)) (by rw [List.length_map, List.length_map, List.length_singleton]; omega)) (by rw [take_one hq, List.map_append]; show _ = PyData.tuple _; rw [List.map_append]; rfl)) ⟨_, _, rfl, rfl, all_snoc hq hokw hkw⟩ hN)
    · obtain ⟨y4, y5, rfl, rfl, hokw⟩ := hI
      rw [List.take_length] at hokw
      have ht := List.length_take_le i (partsT z)
      have hokp : okP p = true := List.all_eq_true.mpr hokw
      refine ds_one (ds_set 1 (d := sal (((partsT z).take (i + 1)).map rowP)) (de_is (de_catT (ds := (((partsT z).take i).map rowP).map row) (es := [row (rowP p)]) (de_var 1) (de_tup (ds := [row (rowP p)]) (da_cons (de_is (de_var 3) (by rw [List.take_length]; rfl)) da_nil)) (by rw [List.length_map, List.length_map, List.length_singleton]; omega)) (by rw [take_one hp, List.map_append]; show _ = PyData.tuple _; rw [List.map_append]; rfl)) ⟨_, _, _, _, rfl, rfl, all_snoc hp hok hokp⟩ hN)
  · obtain ⟨y2, y3, y4, y5, rfl, rfl, hok⟩ := hI
    rw [List.take_length] at hok
    have hT : okT z = true := List.all_eq_true.mpr hok
    have eS : sal (((partsT z).take (partsT z).length).map rowP) = sal (rowsT z) := by rw [List.take_length]; rfl
    rw [eS]
    have hsp : Shp 8 (sal (rowsT z)) := Shp.mono (shp_sal (rowsT z)) (by decide)
    cases hs : saleB (sal (rowsT z)) with
    | false =>
      have hn : readM z = none := read_not (by unfold goodT; rw [hs]; rfl)
      rw [hn]
      exact ds_cons (ds_if (k := true) (dt_or (k := true) (l := false) (dt_is (dt_not (dt_val (de_call (c1.cal hr) (da_cons (de_var 1) da_nil) ⟨_, rfl, shortF_rows hz, hsp, rfl⟩))) (by rw [hs]; rfl)) (fun h => by cases h)) (fun _ => ds_one (ds_ret de_non ⟨rfl, fun _ h => nomatch h⟩)) (fun h => by cases h))
    | true =>
      have hS := salB_back hs
      by_cases hw : wrS (rowsT z) = z
      · rw [read_good hT (good_iff.mpr ⟨hS, hw⟩)]
        refine ds_cons (ds_if (k := false) (dt_or (k := false) (l := false) (dt_is (dt_not (dt_val (de_call (c1.cal hr) (da_cons (de_var 1) da_nil) ⟨_, rfl, shortF_rows hz, hsp, rfl⟩))) (by rw [hs]; rfl)) (fun _ => dw_or1 (dt_is (dt_ne (da := .str (wrS (rowsT z))) (db := .str z) hr (shaped_of (n := 0) (tx_wr hS).shp) (shaped_of (n := 0) hz.shp) (de_call (c2.cal hr) (da_cons (de_var 1) da_nil) ⟨_, rfl, hS, rfl⟩) (de_var 0)) (by rw [eqv_str2, decide_eq_true hw]; rfl)))) (fun h => by cases h) (fun _ => ds_nil ?_))
        exact ds_one (ds_ret (de_var 1) ⟨rfl, fun _ h => nomatch h⟩)
      · have hn : readM z = none := read_not (by
          cases e : goodT z with
          | false => rfl
          | true => exact absurd (good_iff.mp e).2 hw)
        rw [hn]
        exact ds_cons (ds_if (k := true) (dt_or (k := false) (l := true) (dt_is (dt_not (dt_val (de_call (c1.cal hr) (da_cons (de_var 1) da_nil) ⟨_, rfl, shortF_rows hz, hsp, rfl⟩))) (by rw [hs]; rfl)) (fun _ => dw_or1 (dt_is (dt_ne (da := .str (wrS (rowsT z))) (db := .str z) hr (shaped_of (n := 0) (tx_wr hS).shp) (shaped_of (n := 0) hz.shp) (de_call (c2.cal hr) (da_cons (de_var 1) da_nil) ⟨_, rfl, hS, rfl⟩) (de_var 0)) (by rw [eqv_str2, decide_eq_false hw]; rfl)))) (fun _ => ds_one (ds_ret de_non ⟨rfl, fun _ h => nomatch h⟩)) (fun h => by cases h))
theorem ok_l_changed (F : F_l_changed K f fd) (T : Bt mg) : FnOk P w K mg base CX0 (k + 1) f fd p_l_changed (spP P w K R_changed) := by
  refine fn_R F sc_l_changed (lenP fun ss r h => by obtain ⟨z, n, rfl, _⟩ := h; rfl) ?_
  intro cdv A outer s H E G ss O O' r hr hR
  obtain ⟨rfl, rfl, z, n, rfl, hz, rfl⟩ := hR
  have hN := sc_l_changed.nd
  have e1 : (sA.length == 0) = false := by decide +kernel
  have eA : sA.length = 1 := by decide +kernel
  have hzl := hz.len
  obtain ⟨hp, hp1⟩ := pcA hz
  have hp1 : 1 ≤ (wordsT z).length := hp1
  have hpl : (wordsT z).length ≤ 22001 := hp.len
  have hl : ∀ lo hi, Pc 22001 (cutD (wordsT z) lo hi) := fun lo hi => hp.cut lo hi
  have hc : ∀ lo hi, (cutS z lo hi).length ≤ 22000 := fun lo hi => Nat.le_trans (cutS_length z lo hi) hzl
  have cl : ∀ lo hi, (cutD ((wordsT z).map PyData.str) lo hi).length ≤ 22001 := fun lo hi => by rw [cutD_map, List.length_map]; exact (hl lo hi).len
  have cl2 : ∀ a b c d, (cutD ((wordsT z).map PyData.str) a b).length + (cutD ((wordsT z).map PyData.str) c d).length ≤ 100000 := fun a b c d => by
    have := cl a b; have := cl c d; omega
  have cl3 : ∀ a b c d e f, (cutD ((wordsT z).map PyData.str) a b ++ cutD ((wordsT z).map PyData.str) c d).length + (cutD ((wordsT z).map PyData.str) e f).length ≤ 100000 := fun a b c d e f => by
    have := cl a b; have := cl c d; have := cl e f; rw [List.length_append]; omega
  have cl3' : ∀ a b c d e f, (cutD ((wordsT z).map PyData.str) a b).length + (cutD ((wordsT z).map PyData.str) c d ++ cutD ((wordsT z).map PyData.str) e f).length ≤ 100000 := fun a b c d e f => by
    have := cl a b; have := cl c d; have := cl e f; rw [List.length_append]; omega
  have cl4 : ∀ a b c d e f g h, (cutD ((wordsT z).map PyData.str) a b ++ (cutD ((wordsT z).map PyData.str) c d ++ cutD ((wordsT z).map PyData.str) e f)).length + (cutD ((wordsT z).map PyData.str) g h).length ≤ 100000 := fun a b c d e f g h => by
    have := cl a b; have := cl c d; have := cl e f; have := cl g h; rw [List.length_append, List.length_append]; omega
  have cl1 : ∀ a b (x : D), (cutD ((wordsT z).map PyData.str) a b).length + [x].length ≤ 100000 := fun a b x => by
    have := cl a b; rw [List.length_singleton]; omega
  have cl1' : ∀ a b (x : D) c d, (cutD ((wordsT z).map PyData.str) a b ++ [x]).length + (cutD ((wordsT z).map PyData.str) c d).length ≤ 100000 := fun a b x c d => by
    have := cl a b; have := cl c d; rw [List.length_append, List.length_singleton]; omega
  have jn : ∀ {m : Nat} {l : List Str}, Pc m l → m ≤ 1000000 → (l.map (·.length)).sum + l.length * sA.length ≤ 16777216 := fun {m l} h hm => by
    have := h.lens
    rw [eA]
    omega
  refine ds_cons (ds_set 2 (d := .list ((wordsT z).map .str)) (de_split (y := sA) e1 (by rw [sizeLine_eq]; omega) (de_var 0) de_str) ?_ hN)
  refine ds_cons (ds_set 3 (d := .int (chA z n)) (de_is (de_mod (j := (((wordsT z).map PyData.str).length : Int)) (by rw [List.length_map]; omega) (de_div ⟨by decide, by decide⟩ (de_var 1) de_int) (de_lenL T.len (de_var 2))) (by rw [List.length_map, chA_eq hp1])) ?_ hN)
  refine ds_cons (ds_set 4 (d := .int (chP z n)) (de_is (de_mod (j := (z.length : Int) + 1) (by omega) (de_div ⟨by decide, by decide⟩ (de_var 1) de_int) (de_add (de_lenS (z := z) (by rw [sizeLine_eq]; omega) T.len (de_var 0)) de_int)) (by rw [chP_eq])) ?_ hN)
  refine ds_cons (ds_set 5 (d := .int (n % 8)) (de_mod (by decide) (de_var 1) de_int) ?_ hN)
  refine ds_cons (ds_if (dt_eqI (de_var 5) de_int) (fun h => ?_) (fun h => ds_nil ?_))
  · have h0 : n % 8 = 0 := of_decide_eq_true h
    refine ds_one (ds_ret (de_catS (de_cutS (z := z) (by omega) (de_var 0) dp_none (dp_some (de_var 4))) (de_cutS (z := z) (by omega) (de_var 0) (dp_some (de_add (de_var 4) de_int)) dp_none) ?_) ⟨?_, fun _ h => h⟩)
    · have := hc none (some (chP z n : Int)); have := hc (some ((chP z n : Int) + 1)) none
      rw [sizeLine_eq]; omega
    · unfold changedM
      rw [if_pos h0]
  have n0 : ¬ n % 8 = 0 := of_decide_eq_false h
  refine ds_cons (ds_if (dt_lt (de_var 5) de_int) (fun h => ?_) (fun h => ds_nil ?_))
  · have h1 : n % 8 < 3 := of_decide_eq_true h
    refine ds_cons (ds_set 6 (d := .str ⟨#[chS n]⟩) (de_ixS (by decide +kernel) (chS_at n) (de_str (x := sg18)) (de_mod (by decide) (de_div ⟨by decide, by decide⟩ (de_var 1) de_int) de_int)) ?_ hN)
    have a1 := hc none (some (chP z n : Int)); have a2 := hc (some ((chP z n : Int) + n % 8 - 1)) none
    have a3 : (⟨#[chS n]⟩ : Str).length = 1 := rfl
    refine ds_one (ds_ret (de_catS (de_catS (de_cutS (z := z) (by omega) (de_var 0) dp_none (dp_some (de_var 4))) (de_var 6) ?_) (de_cutS (z := z) (by omega) (de_var 0) (dp_some (de_sub (de_add (de_var 4) (de_var 5)) de_int)) dp_none) ?_) ⟨?_, fun _ h => h⟩)
    · rw [sizeLine_eq]; omega
    · rw [sizeLine_eq, Str.length_append]; omega
    · unfold changedM
      rw [if_neg n0, if_pos h1]
  have n1 : ¬ n % 8 < 3 := of_decide_eq_false h
  refine ds_cons (ds_if (dt_eqI (de_var 5) de_int) (fun h => ?_) (fun h => ds_nil ?_))
  · have h2 : n % 8 = 3 := of_decide_eq_true h
    refine ds_one (ds_ret (de_join (z := sA) (jn ((hl none (some (chA z n : Int))).app (hl (some ((chA z n : Int) + 1)) none)) (by decide)) de_str (de_is (de_catL (de_cutL (de_var 2) dp_none (dp_some (de_var 3))) (de_cutL (de_var 2) (dp_some (de_add (de_var 3) de_int)) dp_none) (cl2 _ _ _ _)) (by simp only [cutD_map, List.map_append]))) ⟨?_, fun _ h => h⟩)
    unfold changedM
    rw [if_neg n0, if_neg n1, if_pos h2]
  have n2 : ¬ n % 8 = 3 := of_decide_eq_false h
  refine ds_cons (ds_if (dt_eqI (de_var 5) de_int) (fun h => ?_) (fun h => ds_nil ?_))
  · have h3 : n % 8 = 4 := of_decide_eq_true h
    refine ds_one (ds_ret (de_join (z := sA) (jn (((hl none (some (chA z n : Int))).app (hl (some (chA z n : Int)) (some ((chA z n : Int) + 1)))).app (hl (some (chA z n : Int)) none)) (by decide)) de_str (de_is (de_catL (de_catL (de_cutL (de_var 2) dp_none (dp_some (de_var 3))) (de_cutL (de_var 2) (dp_some (de_var 3)) (dp_some (de_add (de_var 3) de_int))) (cl2 _ _ _ _)) (de_cutL (de_var 2) (dp_some (de_var 3)) dp_none) (cl3 _ _ _ _ _ _)) (by simp only [cutD_map, List.map_append]))) ⟨?_, fun _ h => h⟩)
    unfold changedM
    rw [if_neg n0, if_neg n1, if_neg n2, if_pos h3]
  have n3 : ¬ n % 8 = 4 := of_decide_eq_false h
  refine ds_cons (ds_if (dt_eqI (de_var 5) de_int) (fun h => ?_) (fun h => ds_nil ?_))
  · have h4 : n % 8 = 5 := of_decide_eq_true h
    refine ds_cons (ds_set 7 (d := .list (cutD ((wordsT z).map PyData.str) (some ((chA z n : Int) + 1)) (some ((chA z n : Int) + 2)) ++ cutD ((wordsT z).map PyData.str) (some (chA z n : Int)) (some ((chA z n : Int) + 1)))) (de_catL (de_cutL (de_var 2) (dp_some (de_add (de_var 3) de_int)) (dp_some (de_add (de_var 3) de_int))) (de_cutL (de_var 2) (dp_some (de_var 3)) (dp_some (de_add (de_var 3) de_int))) (cl2 _ _ _ _)) ?_ hN)
    refine ds_one (ds_ret (de_join (z := sA) (jn (((hl none (some (chA z n : Int))).app ((hl (some ((chA z n : Int) + 1)) (some ((chA z n : Int) + 2))).app (hl (some (chA z n : Int)) (some ((chA z n : Int) + 1))))).app (hl (some ((chA z n : Int) + 2)) none)) (by decide)) de_str (de_is (de_catL (de_catL (de_cutL (de_var 2) dp_none (dp_some (de_var 3))) (de_var 7) (cl3' _ _ _ _ _ _)) (de_cutL (de_var 2) (dp_some (de_add (de_var 3) de_int)) dp_none) (cl4 _ _ _ _ _ _ _ _)) (by simp only [cutD_map, List.map_append]))) ⟨?_, fun _ h => h⟩)
    unfold changedM
    rw [if_neg n0, if_neg n1, if_neg n2, if_neg n3, if_pos h4]
  have n4 : ¬ n % 8 = 5 := of_decide_eq_false h
  refine ds_cons (ds_set 8 (d := .list (smW.map .str)) (de_split (z := sm12) (y := sA) e1 (by decide +kernel) de_str de_str) ?_ hN)
  refine ds_one (ds_ret (de_join (z := sA) (jn (((hl none (some (chA z n : Int))).app (chN_pc n)).app (hl (some ((chA z n : Int) + 1)) none)) (by decide)) de_str (de_is (de_catL (de_catL (de_cutL (de_var 2) dp_none (dp_some (de_var 3))) (de_lst (ds := [.str (chN n)]) (da_cons (de_ixL (chN_at n) (de_var 8) (de_mod (by decide) (de_div ⟨by decide, by decide⟩ (de_var 1) de_int) de_int)) da_nil)) (cl1 _ _ _)) (de_cutL (de_var 2) (dp_some (de_add (de_var 3) de_int)) dp_none) (cl1' _ _ _ _ _)) (by simp only [cutD_map, List.map_append, List.map_cons, List.map_nil]))) ⟨?_, fun _ h => h⟩)
  unfold changedM
  rw [if_neg n0, if_neg n1, if_neg n2, if_neg n3, if_neg n4]
end
end Bid

namespace Bid
open PySem PySem.Spec PyProof.Rows L2 TL
theorem shp_res {z : Str} : SeqAt.shaped (resD (readM z)) = true := by
  cases readM z with
  | none => rfl
  | some S => exact shaped_of (n := 2) (shp_sal S)
theorem eqv_res {z : Str} : PyData.eqv (resD (readM z)) (resD (readM z)) = true := by
  cases readM z with
  | none => simp [resD, PyData.eqv]
  | some S => exact (eqv_sal S S).trans (decide_eq_true rfl)
section
variable {P : Program} {w : World} {K : Frg} {mg : Str → Option Value} {base : Heap} {f : Addr} {fd : FuncData} {k : Nat}
theorem ok_law (F : F_law K f fd) (T : Bt mg) (c1 : Cf P w K mg base k "_law_mixed" (spP P w K R_mixed)) (c2 : Cf P w K mg base k "_law_sale" (spP P w K R_sale)) (c3 : Cf P w K mg base k "_law_written" (spP P w K R_textof)) (c4 : Cf P w K mg base k "_law_changed" (spP P w K R_changed))
    (c5 : Cf P w K mg base k "_law_drawn" (spP P w K R_drawn)) (c6 : Cf P w K mg base k "_law_found" (spP P w K R_told)) (c7 : Cf P w K mg base k "_law_due" (spP P w K R_told)) (c8 : Cf P w K mg base k "_law_is_sale" (spP P w K R_lissale)) : FnOk P w K mg base CX0 (k + 1) f fd p_law (spP P w K R_law) := by
  refine fn_R F sc_law (lenP fun ss r h => by obtain ⟨ns, rfl, _⟩ := h; rfl) ?_
  intro cdv A outer s H E G ss O O' r hr hR
  obtain ⟨rfl, rfl, ns, rfl, _, rfl⟩ := hR
  have hN := sc_law.nd
  obtain ⟨g, hg, g1, g6⟩ := draw_nat (x := mixN ns 0) (b := 6) (by decide)
  obtain ⟨t, ht, t1, t6⟩ := draw_nat (x := mixN ns 0 / 6) (b := 6) (by decide)
  have hS : Sz (saleN (mixN ns 1) g t) g t := saleN_sz g1 (by omega) t1 (by omega)
  have hE := saleN_ent (n := mixN ns 1) (g := g) (t := t)
  generalize hSe : saleN (mixN ns 1) g t = S at hS hE
  have hB : SalB S := salB_of hS t6 hE
  obtain ⟨a, ha, a3⟩ := draw_mod (x := mixN ns 2) (b := 3) (by decide)
  obtain ⟨b, hb, b2⟩ := draw_nat (x := mixN ns 2 / 3) (b := 2) (by decide)
  have ha : mixN ns 2 % 3 = (a : Int) := ha
  have hb : 1 + mixN ns 2 / 3 % 2 = (b : Int) := hb
  have hm : a * b ≤ 4 := Nat.mul_le_mul (show a ≤ 2 by omega) b2.2
  refine ds_cons (ds_set 1 (d := .int g) (de_is (de_add de_int (de_mod (by decide) (de_call (c1.cal hr) (da_cons (de_var 0) (da_cons de_int da_nil)) ⟨ns, 0, rfl, by decide, rfl⟩) de_int)) (by rw [← hg]; rfl)) ?_ hN)
  refine ds_cons (ds_set 2 (d := .int t) (de_is (de_add de_int (de_mod (by decide) (de_div ⟨by decide, by decide⟩ (de_call (c1.cal hr) (da_cons (de_var 0) (da_cons de_int da_nil)) ⟨ns, 0, rfl, by decide, rfl⟩) de_int) de_int)) (by rw [← ht]; rfl)) ?_ hN)
  refine ds_cons (ds_set 3 (d := sal S) (de_call (c2.cal hr) (da_cons (de_call (c1.cal hr) (da_cons (de_var 0) (da_cons de_int da_nil)) ⟨ns, 1, rfl, by decide, rfl⟩) (da_cons (de_var 1) (da_cons (de_var 2) da_nil))) ⟨mixN ns 1, g, t, rfl, mixN_nn _ _, by omega, by omega, by omega, by omega, by rw [hSe]⟩) ?_ hN)
  refine ds_cons (ds_set 4 (d := .str (wrS S)) (de_call (c3.cal hr) (da_cons (de_var 3) da_nil) ⟨S, rfl, hB, rfl⟩) ?_ hN)
  refine ds_cons (ds_set 5 (d := .int (mixN ns 2)) (de_call (c1.cal hr) (da_cons (de_var 0) (da_cons de_int da_nil)) ⟨ns, 2, rfl, by decide, rfl⟩) ?_ hN)
  refine ds_cons (ds_for (xs := List.range (a * b)) (fun i => .int (i : Int)) 6 (fun i ρ O => ∃ z y6, ρ = [some (.d (lsI ns)), some (.d (.int g)), some (.d (.int t)), some (.d (sal S)), some (.d (.str z)), some (.d (.int (mixN ns 2))), y6, none] ∧ O = [] ∧ Tx (bdT i) z)
    (di_range (n := ((a * b : Nat) : Int)) T.range (de_is (de_mul (cmul_small (i := (a : Int)) (by omega) (by omega)) (de_is (de_mod (by decide) (de_var 5) de_int) (by rw [ha])) (de_is (de_add de_int (de_mod (by decide) (de_div ⟨by decide, by decide⟩ (de_var 5) de_int) de_int)) (by rw [hb]))) (by rw [Int.natCast_mul])) (by omega) (by omega)) ⟨wrS S, none, rfl, rfl, tx_wr hB⟩ (fun i j ρ' O' hj hI => ?_) (fun ρ' O' hI => ?_) hN)
  · obtain ⟨z, y6, rfl, rfl, hz⟩ := hI
    obtain ⟨rfl, hi⟩ := range_at hj
    have hi3 : j ≤ 3 := by omega
    have hz2 : Tx 22000 z := hz.mono (by
      match j, hi3 with
      | 0, _ => decide
      | 1, _ => decide
      | 2, _ => decide
      | 3, _ => decide)
    exact ds_one (ds_set 4 (d := .str (changedM z (drawnN (mixN ns 2) (j : Int)))) (de_call (c4.cal hr) (da_cons (de_var 4) (da_cons (de_call (c5.cal hr) (da_cons (de_var 5) (da_cons (de_var 6) da_nil)) ⟨_, _, rfl, rfl⟩) da_nil)) ⟨z, _, rfl, hz2, rfl⟩) ⟨_, _, rfl, rfl, changed_tx _ hz⟩ hN)
  · obtain ⟨z, y6, rfl, rfl, hz⟩ := hI
    rw [List.length_range] at hz
    have hz := hz.mono (bdT_le hm)
    refine ds_cons (ds_set 7 (d := resD (readM z)) (de_call (c6.cal hr) (da_cons (de_var 4) da_nil) ⟨z, rfl, hz, rfl⟩) ?_ hN)
    refine ds_one (ds_ret (de_and (k := true) (l := true) (de_is (de_eq hr shp_res shp_res (de_var 7) (de_call (c7.cal hr) (da_cons (de_var 4) da_nil) ⟨z, rfl, hz, rfl⟩)) (by rw [eqv_res])) (fun _ => de_one ?_)) ⟨rfl, fun _ h => h⟩)
    cases hm : readM z with
    | none => exact de_or (k := true) (l := true) (de_isN (da := .none) (de_var 7)) (fun h => by cases h)
    | some T2 =>
      obtain ⟨h1, h2, rfl⟩ := read_some hm
      have hS2 := (good_iff.mp h2).1
      exact de_or (k := false) (l := true) (de_isN (da := sal (rowsT z)) (de_var 7)) (fun _ => de_one (de_is (de_call (c8.cal hr) (da_cons (de_var 7) da_nil) ⟨sal (rowsT z), rfl, shortF_rows hz, Shp.mono (shp_sal (rowsT z)) (by decide), rfl⟩) (by rw [salB_sale hS2])))
end
end Bid

namespace Bid
open PySem PySem.Spec PyProof.Rows L2
def d_is_number : He.DefD := ⟨("is_number", none), "is_number", "is_number", defArgs s_is_number, defBody s_is_number, defScope s_is_number, [], []⟩
def d_is_row : He.DefD := ⟨("is_row", none), "is_row", "is_row", defArgs s_is_row, defBody s_is_row, defScope s_is_row, [], []⟩
def d_is_sale : He.DefD := ⟨("is_sale", none), "is_sale", "is_sale", defArgs s_is_sale, defBody s_is_sale, defScope s_is_sale, [], []⟩
def d_text_of : He.DefD := ⟨("text_of", none), "text_of", "text_of", defArgs s_text_of, defBody s_text_of, defScope s_text_of, [], []⟩
def d_bid_of : He.DefD := ⟨("bid_of", none), "bid_of", "bid_of", defArgs s_bid_of, defBody s_bid_of, defScope s_bid_of, [], []⟩
def d_read : He.DefD := ⟨("read", none), "read", "read", defArgs s_read, defBody s_read, defScope s_read, [], []⟩
def d_l_cell_at : He.DefD := ⟨("_law_cell_at", none), "_law_cell_at", "_law_cell_at", defArgs s_l_cell_at, defBody s_l_cell_at, defScope s_l_cell_at, [], []⟩
def d_l_mixed : He.DefD := ⟨("_law_mixed", none), "_law_mixed", "_law_mixed", defArgs s_l_mixed, defBody s_l_mixed, defScope s_l_mixed, [], []⟩
def d_l_drawn : He.DefD := ⟨("_law_drawn", none), "_law_drawn", "_law_drawn", defArgs s_l_drawn, defBody s_l_drawn, defScope s_l_drawn, [], []⟩
def d_l_number : He.DefD := ⟨("_law_number", none), "_law_number", "_law_number", defArgs s_l_number, defBody s_l_number, defScope s_l_number, [], []⟩
def d_l_sale : He.DefD := ⟨("_law_sale", none), "_law_sale", "_law_sale", defArgs s_l_sale, defBody s_l_sale, defScope s_l_sale, [], []⟩
def d_l_is_sale : He.DefD := ⟨("_law_is_sale", none), "_law_is_sale", "_law_is_sale", defArgs s_l_is_sale, defBody s_l_is_sale, defScope s_l_is_sale, [], []⟩
def d_l_written : He.DefD := ⟨("_law_written", none), "_law_written", "_law_written", defArgs s_l_written, defBody s_l_written, defScope s_l_written, [], []⟩
def d_l_changed : He.DefD := ⟨("_law_changed", none), "_law_changed", "_law_changed", defArgs s_l_changed, defBody s_l_changed, defScope s_l_changed, [], []⟩
def d_l_due : He.DefD := ⟨("_law_due", none), "_law_due", "_law_due", defArgs s_l_due, defBody s_l_due, defScope s_l_due, [], []⟩
def d_l_found : He.DefD := ⟨("_law_found", none), "_law_found", "_law_found", defArgs s_l_found, defBody s_l_found, defScope s_l_found, [], []⟩
def d_law : He.DefD := ⟨("law", none), "law", "law", defArgs s_law, defBody s_law, defScope s_law, [], []⟩
def fnL : List He.DefD := [d_is_number, d_is_row, d_is_sale, d_text_of, d_bid_of, d_read, d_l_cell_at, d_l_mixed, d_l_drawn, d_l_number, d_l_sale, d_l_is_sale, d_l_written, d_l_changed, d_l_due, d_l_found, d_law]
def faL : List He.Fa := [.glo "is_number", .glo "is_row", .glo "is_sale", .glo "text_of", .glo "bid_of", .glo "read", .glo "_law_cell_at", .glo "_law_mixed", .glo "_law_drawn", .glo "_law_number", .glo "_law_sale", .glo "_law_is_sale", .glo "_law_written", .glo "_law_changed", .glo "_law_due", .glo "_law_found", .glo "law", .free "len", .free "range", .free "tuple", .free "list", .free "max", .free "min", .free "sum", .free "all", .free "isinstance", .free "int", .free "bool", .free "str", .free "set", .free "sorted", .free "zip", .free "enumerate", .int "MOST" 6, .int "GREATEST_BID" 1000000, .str "FIGURES" "0123456789"]
abbrev Rr : PySem.W.OpenRow := PySem.W.OpenLaw.row PySem.Challenge.rw_truebid_k03_whole_read
abbrev hk : PySem.W.Hook := hookX 4 faL fnL
def ob (s : PySem.W.SharedT) : AlX := obsXG 4 faL fnL (HandSHeadRun.getT s)
theorem ob_eq (s : PySem.W.SharedT) : ob s = hk.obs s.abs := obsXG_eq (HandSHeadRun.getT_eq s)
def looseL : List Str := ["SaleError", "NoSale", "NoText", "NoRoom", "is_number", "is_row", "is_sale", "text_of", "bid_of", "read", "_law_cell_at", "_law_mixed", "_law_drawn", "_law_number", "_law_sale", "_law_is_sale", "_law_written", "_law_changed", "_law_due", "_law_found", "MOST", "GREATEST_BID", "FIGURES"]
theorem run (w : World) : HandSHeadRun.RunEq Rr (PySem.W.view Rr.prog [28]) hk ob 4000 looseL w := by
  intro os
  kernel_rfl
theorem facts {w : World} {K : Frg} {h : Heap} {mg : Str → Option Value} {f : Addr} (X : K.In h) (G : h.Ns mainGlobals mg) (hfa : mg ("law" : Str) = some (.ref f)) (c : He.SaysD faL fnL K) (cx : xtB K = true) :
    ∃ fd : FuncData, (∀ (s : Shared) (v : Value), BindsTo s fd ⟨[v], []⟩ [("_law_script", v)]) ∧ ∀ base : Heap, K.In base → base.Ns mainGlobals mg → FnOk PySem.Challenge.pw_truebid_k03_whole_read w K mg base CX0 6 f fd ["_law_script"] (spP PySem.Challenge.pw_truebid_k03_whole_read w K R_law) := by
  have T : Bt mg := ⟨He.free_ok X G (c.fact 17 (f := .free "len") rfl), He.free_ok X G (c.fact 18 (f := .free "range") rfl), He.free_ok X G (c.fact 19 (f := .free "tuple") rfl), He.free_ok X G (c.fact 20 (f := .free "list") rfl), He.free_ok X G (c.fact 21 (f := .free "max") rfl), He.free_ok X G (c.fact 22 (f := .free "min") rfl), He.free_ok X G (c.fact 23 (f := .free "sum") rfl), He.free_ok X G (c.fact 24 (f := .free "all") rfl), He.free_ok X G (c.fact 25 (f := .free "isinstance") rfl), He.free_ok X G (c.fact 26 (f := .free "int") rfl), He.free_ok X G (c.fact 27 (f := .free "bool") rfl), He.free_ok X G (c.fact 28 (f := .free "str") rfl), He.free_ok X G (c.fact 29 (f := .free "set") rfl), He.free_ok X G (c.fact 30 (f := .free "sorted") rfl), He.free_ok X G (c.fact 31 (f := .free "zip") rfl), He.free_ok X G (c.fact 32 (f := .free "enumerate") rfl)⟩
  have Z : Er K mg := er_of X G cx
  have Ki_MOST : Gi mg "MOST" 6 := He.int_ok X G (c.fact 33 (f := .int "MOST" 6) rfl)
  have Ki_GREATEST_BID : Gi mg "GREATEST_BID" 1000000 := He.int_ok X G (c.fact 34 (f := .int "GREATEST_BID" 1000000) rfl)
  have Ki_FIGURES : ∃ t, mg "FIGURES" = some (.str "0123456789" t) := He.str_ok X G (c.fact 35 (f := .str "FIGURES" "0123456789") rfl)
  obtain ⟨fd_l_cell_at, F_l_cell_at⟩ := c.def_ 6 (d := d_l_cell_at) rfl
  have F_l_cell_at : Bid.F_l_cell_at K (He.ga K "_law_cell_at") fd_l_cell_at := F_l_cell_at
  have g_l_cell_at : mg "_law_cell_at" = some (.ref (He.ga K "_law_cell_at")) := He.glo_ok X G (c.fact 6 (f := .glo "_law_cell_at") rfl)
  have b_l_cell_at : Binds K fd_l_cell_at p_l_cell_at [] := FunD.bindsN F_l_cell_at fun _ _ _ _ _ _ us hl => match us, hl with | [_, _], _ => rfl
  obtain ⟨fd_l_mixed, F_l_mixed⟩ := c.def_ 7 (d := d_l_mixed) rfl
  have F_l_mixed : Bid.F_l_mixed K (He.ga K "_law_mixed") fd_l_mixed := F_l_mixed
  have g_l_mixed : mg "_law_mixed" = some (.ref (He.ga K "_law_mixed")) := He.glo_ok X G (c.fact 7 (f := .glo "_law_mixed") rfl)
  have b_l_mixed : Binds K fd_l_mixed p_l_mixed [] := FunD.bindsN F_l_mixed fun _ _ _ _ _ _ us hl => match us, hl with | [_, _], _ => rfl
  obtain ⟨fd_l_drawn, F_l_drawn⟩ := c.def_ 8 (d := d_l_drawn) rfl
  have F_l_drawn : Bid.F_l_drawn K (He.ga K "_law_drawn") fd_l_drawn := F_l_drawn
  have g_l_drawn : mg "_law_drawn" = some (.ref (He.ga K "_law_drawn")) := He.glo_ok X G (c.fact 8 (f := .glo "_law_drawn") rfl)
  have b_l_drawn : Binds K fd_l_drawn p_l_drawn [] := FunD.bindsN F_l_drawn fun _ _ _ _ _ _ us hl => match us, hl with | [_, _], _ => rfl
  obtain ⟨fd_l_sale, F_l_sale⟩ := c.def_ 10 (d := d_l_sale) rfl
  have F_l_sale : Bid.F_l_sale K (He.ga K "_law_sale") fd_l_sale := F_l_sale
  have g_l_sale : mg "_law_sale" = some (.ref (He.ga K "_law_sale")) := He.glo_ok X G (c.fact 10 (f := .glo "_law_sale") rfl)
  have b_l_sale : Binds K fd_l_sale p_l_sale [] := FunD.bindsN F_l_sale fun _ _ _ _ _ _ us hl => match us, hl with | [_, _, _], _ => rfl
  obtain ⟨fd_l_written, F_l_written⟩ := c.def_ 12 (d := d_l_written) rfl
  have F_l_written : Bid.F_l_written K (He.ga K "_law_written") fd_l_written := F_l_written
  have g_l_written : mg "_law_written" = some (.ref (He.ga K "_law_written")) := He.glo_ok X G (c.fact 12 (f := .glo "_law_written") rfl)
  have b_l_written : Binds K fd_l_written p_l_written [] := FunD.bindsN F_l_written fun _ _ _ _ _ _ us hl => match us, hl with | [_], _ => rfl
  obtain ⟨fd_l_changed, F_l_changed⟩ := c.def_ 13 (d := d_l_changed) rfl
  have F_l_changed : Bid.F_l_changed K (He.ga K "_law_changed") fd_l_changed := F_l_changed
  have g_l_changed : mg "_law_changed" = some (.ref (He.ga K "_law_changed")) := He.glo_ok X G (c.fact 13 (f := .glo "_law_changed") rfl)
  have b_l_changed : Binds K fd_l_changed p_l_changed [] := FunD.bindsN F_l_changed fun _ _ _ _ _ _ us hl => match us, hl with | [_, _], _ => rfl
  obtain ⟨fd_bid_of, F_bid_of⟩ := c.def_ 4 (d := d_bid_of) rfl
  have F_bid_of : Bid.F_bid_of K (He.ga K "bid_of") fd_bid_of := F_bid_of
  have g_bid_of : mg "bid_of" = some (.ref (He.ga K "bid_of")) := He.glo_ok X G (c.fact 4 (f := .glo "bid_of") rfl)
  have b_bid_of : Binds K fd_bid_of p_bid_of [] := FunD.bindsN F_bid_of fun _ _ _ _ _ _ us hl => match us, hl with | [_], _ => rfl
  obtain ⟨fd_is_number, F_is_number⟩ := c.def_ 0 (d := d_is_number) rfl
  have F_is_number : Bid.F_is_number K (He.ga K "is_number") fd_is_number := F_is_number
  have g_is_number : mg "is_number" = some (.ref (He.ga K "is_number")) := He.glo_ok X G (c.fact 0 (f := .glo "is_number") rfl)
  have b_is_number : Binds K fd_is_number p_is_number [] := FunD.bindsN F_is_number fun _ _ _ _ _ _ us hl => match us, hl with | [_, _], _ => rfl
  obtain ⟨fd_is_row, F_is_row⟩ := c.def_ 1 (d := d_is_row) rfl
  have F_is_row : Bid.F_is_row K (He.ga K "is_row") fd_is_row := F_is_row
  have g_is_row : mg "is_row" = some (.ref (He.ga K "is_row")) := He.glo_ok X G (c.fact 1 (f := .glo "is_row") rfl)
  have b_is_row : Binds K fd_is_row p_is_row [] := FunD.bindsN F_is_row fun _ _ _ _ _ _ us hl => match us, hl with | [_, _], _ => rfl
  obtain ⟨fd_is_sale, F_is_sale⟩ := c.def_ 2 (d := d_is_sale) rfl
  have F_is_sale : Bid.F_is_sale K (He.ga K "is_sale") fd_is_sale := F_is_sale
  have g_is_sale : mg "is_sale" = some (.ref (He.ga K "is_sale")) := He.glo_ok X G (c.fact 2 (f := .glo "is_sale") rfl)
  have b_is_sale : Binds K fd_is_sale p_is_sale [] := FunD.bindsN F_is_sale fun _ _ _ _ _ _ us hl => match us, hl with | [_], _ => rfl
  obtain ⟨fd_text_of, F_text_of⟩ := c.def_ 3 (d := d_text_of) rfl
  have F_text_of : Bid.F_text_of K (He.ga K "text_of") fd_text_of := F_text_of
  have g_text_of : mg "text_of" = some (.ref (He.ga K "text_of")) := He.glo_ok X G (c.fact 3 (f := .glo "text_of") rfl)
  have b_text_of : Binds K fd_text_of p_text_of [] := FunD.bindsN F_text_of fun _ _ _ _ _ _ us hl => match us, hl with | [_], _ => rfl
  obtain ⟨fd_read, F_read⟩ := c.def_ 5 (d := d_read) rfl
  have F_read : Bid.F_read K (He.ga K "read") fd_read := F_read
  have g_read : mg "read" = some (.ref (He.ga K "read")) := He.glo_ok X G (c.fact 5 (f := .glo "read") rfl)
  have b_read : Binds K fd_read p_read [] := FunD.bindsN F_read fun _ _ _ _ _ _ us hl => match us, hl with | [_], _ => rfl
  obtain ⟨fd_l_found, F_l_found⟩ := c.def_ 15 (d := d_l_found) rfl
  have F_l_found : Bid.F_l_found K (He.ga K "_law_found") fd_l_found := F_l_found
  have g_l_found : mg "_law_found" = some (.ref (He.ga K "_law_found")) := He.glo_ok X G (c.fact 15 (f := .glo "_law_found") rfl)
  have b_l_found : Binds K fd_l_found p_l_found [] := FunD.bindsN F_l_found fun _ _ _ _ _ _ us hl => match us, hl with | [_], _ => rfl
  obtain ⟨fd_l_number, F_l_number⟩ := c.def_ 9 (d := d_l_number) rfl
  have F_l_number : Bid.F_l_number K (He.ga K "_law_number") fd_l_number := F_l_number
  have g_l_number : mg "_law_number" = some (.ref (He.ga K "_law_number")) := He.glo_ok X G (c.fact 9 (f := .glo "_law_number") rfl)
  have b_l_number : Binds K fd_l_number p_l_number [] := FunD.bindsN F_l_number fun _ _ _ _ _ _ us hl => match us, hl with | [_, _, _], _ => rfl
  obtain ⟨fd_l_is_sale, F_l_is_sale⟩ := c.def_ 11 (d := d_l_is_sale) rfl
  have F_l_is_sale : Bid.F_l_is_sale K (He.ga K "_law_is_sale") fd_l_is_sale := F_l_is_sale
  have g_l_is_sale : mg "_law_is_sale" = some (.ref (He.ga K "_law_is_sale")) := He.glo_ok X G (c.fact 11 (f := .glo "_law_is_sale") rfl)
  have b_l_is_sale : Binds K fd_l_is_sale p_l_is_sale [] := FunD.bindsN F_l_is_sale fun _ _ _ _ _ _ us hl => match us, hl with | [_], _ => rfl
  obtain ⟨fd_l_due, F_l_due⟩ := c.def_ 14 (d := d_l_due) rfl
  have F_l_due : Bid.F_l_due K (He.ga K "_law_due") fd_l_due := F_l_due
  have g_l_due : mg "_law_due" = some (.ref (He.ga K "_law_due")) := He.glo_ok X G (c.fact 14 (f := .glo "_law_due") rfl)
  have b_l_due : Binds K fd_l_due p_l_due [] := FunD.bindsN F_l_due fun _ _ _ _ _ _ us hl => match us, hl with | [_], _ => rfl
  obtain ⟨fd_law, F_law⟩ := c.def_ 16 (d := d_law) rfl
  have F_law : Bid.F_law K (He.ga K "law") fd_law := F_law
  have g_law : mg "law" = some (.ref (He.ga K "law")) := He.glo_ok X G (c.fact 16 (f := .glo "law") rfl)
  have b_law : Binds K fd_law p_law [] := FunD.bindsN F_law fun _ _ _ _ _ _ us hl => match us, hl with | [_], _ => rfl
  have e := hfa.symm.trans g_law
  cases e
  refine ⟨fd_law, fun s v => FunD.bindsA (ps := p_law) F_law (fun _ _ _ _ _ _ us hl => match us, hl with | [_], _ => rfl) s [v] rfl, fun base _ _ => ?_⟩
  generalize PySem.Challenge.pw_truebid_k03_whole_read = P
  have C_l_cell_at : Cf P w K mg base 1 "_law_cell_at" (spP P w K R_cell) := ⟨_, _, _, ok_cell (k := 0) F_l_cell_at T , g_l_cell_at, F_l_cell_at.kp, b_l_cell_at⟩
  have C_l_mixed : Cf P w K mg base 2 "_law_mixed" (spP P w K R_mixed) := ⟨_, _, _, ok_mixed (k := 1) F_l_mixed T (C_l_cell_at.mono (by decide)), g_l_mixed, F_l_mixed.kp, b_l_mixed⟩
  have C_l_drawn : Cf P w K mg base 1 "_law_drawn" (spP P w K R_drawn) := ⟨_, _, _, ok_drawn (k := 0) F_l_drawn T , g_l_drawn, F_l_drawn.kp, b_l_drawn⟩
  have C_l_sale : Cf P w K mg base 2 "_law_sale" (spP P w K R_sale) := ⟨_, _, _, ok_sale (k := 1) F_l_sale T (C_l_drawn.mono (by decide)), g_l_sale, F_l_sale.kp, b_l_sale⟩
  have C_l_written : Cf P w K mg base 1 "_law_written" (spP P w K R_textof) := ⟨_, _, _, ok_l_written (k := 0) F_l_written T , g_l_written, F_l_written.kp, b_l_written⟩
  have C_l_changed : Cf P w K mg base 1 "_law_changed" (spP P w K R_changed) := ⟨_, _, _, ok_l_changed (k := 0) F_l_changed T , g_l_changed, F_l_changed.kp, b_l_changed⟩
  have C_bid_of : CfX P w K mg base 1 "bid_of" (spX P w K R_bid (Rx_bid K)) := ⟨_, _, _, ok_bid_of (k := 0) F_bid_of T Z Ki_FIGURES , g_bid_of, F_bid_of.kp, b_bid_of⟩
  have C_is_number : Cf P w K mg base 1 "is_number" (spP P w K R_num0) := ⟨_, _, _, ok_is_number (k := 0) F_is_number T , g_is_number, F_is_number.kp, b_is_number⟩
  have C_is_row : Cf P w K mg base 2 "is_row" (spP P w K R_row) := ⟨_, _, _, ok_is_row (k := 1) F_is_row T Ki_GREATEST_BID (C_is_number.mono (by decide)), g_is_row, F_is_row.kp, b_is_row⟩
  have C_is_sale : Cf P w K mg base 3 "is_sale" (spP P w K R_issale) := ⟨_, _, _, ok_is_sale (k := 2) F_is_sale T Ki_MOST (C_is_row.mono (by decide)), g_is_sale, F_is_sale.kp, b_is_sale⟩
  have C_text_of : Cf P w K mg base 1 "text_of" (spP P w K R_textof) := ⟨_, _, _, ok_text_of (k := 0) F_text_of T , g_text_of, F_text_of.kp, b_text_of⟩
  have C_read : CfX P w K mg base 4 "read" (spX P w K R_read (Rx_read K)) := ⟨_, _, _, ok_read (k := 3) F_read T Z (C_bid_of.mono (by decide)) (C_is_sale.mono (by decide)) (C_text_of.mono (by decide)), g_read, F_read.kp, b_read⟩
  have C_l_found : Cf P w K mg base 5 "_law_found" (spP P w K R_told) := ⟨_, _, _, ok_l_found (k := 4) F_l_found T Z (C_read.mono (by decide)), g_l_found, F_l_found.kp, b_l_found⟩
  have C_l_number : Cf P w K mg base 1 "_law_number" (spP P w K R_num) := ⟨_, _, _, ok_l_number (k := 0) F_l_number T , g_l_number, F_l_number.kp, b_l_number⟩
  have C_l_is_sale : Cf P w K mg base 2 "_law_is_sale" (spP P w K R_lissale) := ⟨_, _, _, ok_l_is_sale (k := 1) F_l_is_sale T (C_l_number.mono (by decide)), g_l_is_sale, F_l_is_sale.kp, b_l_is_sale⟩
  have C_l_due : Cf P w K mg base 3 "_law_due" (spP P w K R_told) := ⟨_, _, _, ok_l_due (k := 2) F_l_due T (C_l_is_sale.mono (by decide)) (C_l_written.mono (by decide)), g_l_due, F_l_due.kp, b_l_due⟩
  exact ok_law (k := 5) F_law T (C_l_mixed.mono (by decide)) (C_l_sale.mono (by decide)) (C_l_written.mono (by decide)) (C_l_changed.mono (by decide)) (C_l_drawn.mono (by decide)) (C_l_found.mono (by decide)) (C_l_due.mono (by decide)) (C_l_is_sale.mono (by decide))
end Bid
open PySem PySem.W PySem.Calls PyProof.Rows
theorem PySem.Challenge.cw_truebid_k03_whole_read_holds : PySem.Challenge.rw_truebid_k03_whole_read.Holds := by
  w_on; o_law
  refine HandSHeadRun.head_any (r := OpenLaw.row PySem.Challenge.rw_truebid_k03_whole_read) (q := view (OpenLaw.row PySem.Challenge.rw_truebid_k03_whole_read).prog [28]) (H := Bid.hk) (ob := Bid.ob) (M := 4000) (loose := Bid.looseL) (d := HandSHeadRun.topDef (OpenLaw.row PySem.Challenge.rw_truebid_k03_whole_read).prog 28) (kwd := []) Bid.ob_eq
    (by kernel_rfl) (fun s => by kernel_rfl) Bid.run (by kernel_rfl) (by kernel_rfl) (by kernel_rfl) (by rfl) (by first | assumption | decide +kernel) (by decide +kernel) ⟨rfl, rfl, rfl, rfl, rfl, by decide +kernel⟩ ?hw ?hc
  case hw => w_witness2
  case hc =>
    refine L2.walk_ofE (l := PySem.Challenge.rw_truebid_k03_whole_read) (n := 63) (k := 6) (x := "_law_script") (CX := L2.CX0) rfl (by decide) (by kernel_rfl) ⟨rfl, by decide, by decide⟩ ?F (fun _ _ _ _ z => z)
    intro w mg fa h Y G hmg0
    obtain ⟨K, KX, c, cx⟩ := Y
    have hmg : mg ("law" : PySem.Str) = some (.ref fa) := by
      have e : (HandSHeadRun.topDef (OpenLaw.row PySem.Challenge.rw_truebid_k03_whole_read).prog 28).name = ("law" : PySem.Str) := by kernel_rfl
      rw [← e]
      exact hmg0
    obtain ⟨fd, hb, hF⟩ := Bid.facts (w := w) KX G hmg c cx
    exact ⟨K, fd, _, KX, hb, fun H a ns hl _ hS => Bid.law_end hl hS, hF⟩
#print axioms PySem.Challenge.cw_truebid_k03_whole_read_holds

