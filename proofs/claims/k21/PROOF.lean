import PyProof.Rows.All
import Wide.All
import OpenK.AllK
import Wide.FinOn
import HandS.ForMost
import HandS.ForExc
import HandS.Wide
import HandS.WideBits
import HandS.Deep
import HandS.EndOwn
import HandS.SortInts
import HandS.TupAny
import HandS.SetFor
import HandS.ExcCtx
import HandS.Style
import HandS.IsInst
import HandS.RevRange
import HandS.Walk
import HandS.Hot
import HandS.HotCalls
import HandS.ExcValue
import HandS.ExcIs
import HandS.Lambda
import KE.KNestM
import HandS.Dict
import KE.GoesMore
import KE.KTupSum
import HandS.Strs
import KE.KSortTupG
import HandS.TupSets
import PyProof.P3In
import HandS.Text
import HandS.Steps
import OpenK.KOps
import HandS.SlotsOwn
import PyProof.StrOps2
import PySem.Challenge.RW_divisorwalks_k21_errors_apart
set_option Elab.async false
set_option linter.all false
set_option maxRecDepth 100000
set_option maxHeartbeats 4000000
/-! facts about data -/
namespace Dw
open PySem PySem.Spec PyProof.Rows L2
structure Sh (n : Nat) (d : PyData) : Prop where
  lay : d.canLay0 = true
  dep : d.depth ≤ n
theorem Sh.ok {n : Nat} {d : PyData} (h : Sh n d) (hn : n ≤ 64 := by decide) : SeqAt.shaped d = true := by
  unfold SeqAt.shaped
  rw [h.lay, Bool.true_and]
  exact decide_eq_true (Nat.le_trans h.dep hn)
theorem Sh.int {n : Nat} {i : Int} : Sh n (.int i) := ⟨by simp [PyData.canLay0], by simp [PyData.depth]⟩
theorem Sh.bl {n : Nat} {i : Bool} : Sh n (.bool i) := ⟨by simp [PyData.canLay0], by simp [PyData.depth]⟩
theorem Sh.non {n : Nat} : Sh n .none := ⟨by simp [PyData.canLay0], by simp [PyData.depth]⟩
theorem Sh.str {n : Nat} {x : Str} (h : PyData.strOk x = true) : Sh n (.str x) := ⟨by simpa [PyData.canLay0] using h, by simp [PyData.depth]⟩
theorem sh_all {n : Nat} : ∀ {ds : List PyData}, (∀ d ∈ ds, Sh n d) → PyData.canLayAll0 ds = true ∧ PyData.depthAll ds ≤ n
  | [], _ => ⟨by simp [PyData.canLayAll0], by simp [PyData.depthAll]⟩
  | d :: ds, h => by
    obtain ⟨a, b⟩ := sh_all (fun x hx => h x (List.mem_cons_of_mem _ hx))
    have c := h d (List.mem_cons_self ..)
    refine ⟨by simp [PyData.canLayAll0, a, c.lay], ?_⟩
    have := c.dep
    simp only [PyData.depthAll]
    omega
theorem Sh.lst {n : Nat} {ds : List PyData} (h : ∀ d ∈ ds, Sh n d) : Sh (n + 1) (.list ds) := by
  obtain ⟨a, b⟩ := sh_all h
  exact ⟨by simp [PyData.canLay0, a], by simp only [PyData.depth]; omega⟩
theorem Sh.tup {n : Nat} {ds : List PyData} (h : ∀ d ∈ ds, Sh n d) : Sh (n + 1) (.tuple ds) := by
  obtain ⟨a, b⟩ := sh_all h
  exact ⟨by simp [PyData.canLay0, a], by simp only [PyData.depth]; omega⟩
theorem sh_ints {n : Nat} (l : List Int) : Sh (n + 1) (.list (l.map .int)) := .lst fun d hd => by
  obtain ⟨i, _, rfl⟩ := List.mem_map.mp hd
  exact .int
theorem sh_intsT {n : Nat} (l : List Int) : Sh (n + 1) (.tuple (l.map .int)) := .tup fun d hd => by
  obtain ⟨i, _, rfl⟩ := List.mem_map.mp hd
  exact .int
theorem Sh.eqv {n : Nat} {d : PyData} (h : Sh n d) : PyData.eqv d d = true := SeqAt.eqv_refl d h.lay
theorem Sh.ne {n : Nat} {d : PyData} (h : Sh n d) : (!PyData.eqv d d) = false := by rw [h.eqv]; rfl
theorem eqvAll_ints : ∀ a b : List Int, PyData.eqvAll (a.map .int) (b.map .int) = decide (a = b)
  | [], [] => by simp [PyData.eqvAll]
  | [], _ :: _ => by simp [PyData.eqvAll]
  | _ :: _, [] => by simp [PyData.eqvAll]
  | x :: a, y :: b => by
    simp only [List.map_cons, PyData.eqvAll, PyData.eqv, eqvAll_ints a b, List.cons.injEq]
    by_cases h : x = y <;> simp [h]
theorem eqv_ints (a b : List Int) : PyData.eqv (.list (a.map .int)) (.list (b.map .int)) = decide (a = b) := by simp only [PyData.eqv, eqvAll_ints]
theorem eqv_intsT (a b : List Int) : PyData.eqv (.tuple (a.map .int)) (.tuple (b.map .int)) = decide (a = b) := by simp only [PyData.eqv, eqvAll_ints]
end Dw

/-! Layer D: data-level reading over the hand layer. -/
namespace Dw
open PySem PySem.Spec PyProof.Rows L2
abbrev D := PyData

/-! ### what a value stands for -/
/-- the object of an exception, of the class at C -/
def ExV (C a : Addr) : HO := .ext fun h => ∃ (oe : Obj) (vs : Array Value), h.get? a = some oe ∧ Zc (.ref C) none oe ∧ oe.data = .fields vs
/-- how it stands among data -/
def excD (C : Addr) : PyData := .dict [(.int (Int.ofNat C), .none)]
mutual
inductive Dq (H : Hp) : V → PyData → Prop
  | non : Dq H .non .none
  | bl (b : Bool) : Dq H (.bl b) (.bool b)
  | int (i : Int) : Dq H (.int i) (.int i)
  | str (x : Str) : Dq H (.str x) (.str x)
  | lst {a : Addr} {xs : List V} {ds : List PyData} : H a = some (.lst xs) → DqAll H xs ds → Dq H (.ref a) (.list ds)
  | tup {a : Addr} {xs : List V} {ds : List PyData} : H a = some (.tup xs) → DqAll H xs ds → Dq H (.ref a) (.tuple ds)
  | exc {a C : Addr} : H a = some (ExV C a) → Dq H (.ref a) (.dict [(.int (Int.ofNat C), .none)])
inductive DqAll (H : Hp) : List V → List PyData → Prop
  | nil : DqAll H [] []
  | cons {v : V} {vs : List V} {d : PyData} {ds : List PyData} : Dq H v d → DqAll H vs ds → DqAll H (v :: vs) (d :: ds)
end
mutual
theorem dq_mono {H H' : Hp} (e : Same H H') : ∀ (d : PyData) (v : V), Dq H v d → Dq H' v d
  | .none, _, h => by cases h; exact .non
  | .bool b, _, h => by cases h; exact .bl b
  | .int i, _, h => by cases h; exact .int i
  | .str x, _, h => by cases h; exact .str x
  | .list ds, _, h => by
    cases h with
    | lst hs ha => exact .lst (e _ _ hs) (dqAll_mono e ds _ ha)
  | .tuple ds, _, h => by
    cases h with
    | tup hs ha => exact .tup (e _ _ hs) (dqAll_mono e ds _ ha)
  | .dict _, _, h => by
    cases h with
    | exc h => exact .exc (e _ _ h)
theorem dqAll_mono {H H' : Hp} (e : Same H H') : ∀ (ds : List PyData) (vs : List V), DqAll H vs ds → DqAll H' vs ds
  | [], _, h => by cases h; exact .nil
  | d :: ds, _, h => by
    cases h with
    | cons h1 h2 => exact .cons (dq_mono e d _ h1) (dqAll_mono e ds _ h2)
end
mutual
theorem Dq.dp {K : PySem.W.Frag} {H : Hp} : ∀ (d : PyData) (v : V), d.canLay0 = true → Dq H v d → Dp K H v d
  | .none, _, _, h => by cases h; exact .non
  | .bool b, _, _, h => by cases h; exact .bl b
  | .int i, _, _, h => by cases h; exact .int i
  | .str x, _, _, h => by cases h; exact .str x
  | .list ds, _, c, h => by
    cases h with
    | lst hs ha => exact .lst (SqL.of hs) (DqAll.dp ds _ (by simpa [PyData.canLay0] using c) ha)
  | .tuple ds, _, c, h => by
    cases h with
    | tup hs ha => exact .tup (SqT.of hs) (DqAll.dp ds _ (by simpa [PyData.canLay0] using c) ha)
  | .dict _, _, c, _ => by simp [PyData.canLay0] at c
theorem DqAll.dp {K : PySem.W.Frag} {H : Hp} : ∀ (ds : List PyData) (vs : List V), PyData.canLayAll0 ds = true → DqAll H vs ds → DpAll K H vs ds
  | [], _, _, h => by cases h; exact .nil
  | d :: ds, _, c, h => by
    have c : d.canLay0 = true ∧ PyData.canLayAll0 ds = true := by simpa [PyData.canLayAll0] using c
    cases h with
    | cons h1 h2 => exact .cons (Dq.dp d _ c.1 h1) (DqAll.dp ds _ c.2 h2)
end
theorem dq_exc {H : Hp} {v : V} {C : Addr} (h : Dq H v (excD C)) : ∃ a, v = .ref a ∧ H a = some (ExV C a) := by
  cases h with
  | exc h => exact ⟨_, rfl, h⟩
theorem DqAll.len {H : Hp} : ∀ {vs : List V} {ds : List PyData}, DqAll H vs ds → vs.length = ds.length
  | [], [], _ => rfl
  | _ :: _, _ :: _, h => by
    cases h with
    | cons _ h2 => simp [DqAll.len h2]
theorem DqAll.get {H : Hp} : ∀ {vs : List V} {ds : List PyData} {i : Nat} {d : PyData}, DqAll H vs ds → ds[i]? = some d → ∃ v, vs[i]? = some v ∧ Dq H v d
  | _, [], _, _, _, e => by simp at e
  | _ :: _, d :: ds, 0, _, h, e => by
    cases h with
    | cons h1 h2 =>
      simp at e
      subst e
      exact ⟨_, rfl, h1⟩
  | _ :: _, d :: ds, i + 1, _, h, e => by
    cases h with
    | cons h1 h2 =>
      obtain ⟨v, a, b⟩ := DqAll.get (i := i) h2 (by simpa using e)
      exact ⟨v, by simpa using a, b⟩
theorem DqAll.get' {H : Hp} : ∀ {vs : List V} {ds : List PyData} {i : Nat} {v : V}, DqAll H vs ds → vs[i]? = some v → ∃ d, ds[i]? = some d ∧ Dq H v d
  | [], _, _, _, _, e => by simp at e
  | v :: vs, _, 0, _, h, e => by
    cases h with
    | cons h1 h2 =>
      simp at e
      subst e
      exact ⟨_, rfl, h1⟩
  | v :: vs, _, i + 1, _, h, e => by
    cases h with
    | cons h1 h2 =>
      obtain ⟨d, a, b⟩ := DqAll.get' (i := i) h2 (by simpa using e)
      exact ⟨d, by simpa using a, b⟩
theorem DqAll.app {H : Hp} : ∀ {vs ws : List V} {ds es : List PyData}, DqAll H vs ds → DqAll H ws es → DqAll H (vs ++ ws) (ds ++ es)
  | [], _, [], _, _, h => h
  | _ :: _, _, _ :: _, _, h, h' => by
    cases h with
    | cons h1 h2 => exact .cons h1 (DqAll.app h2 h')
theorem DqAll.drop {H : Hp} : ∀ (n : Nat) {vs : List V} {ds : List PyData}, DqAll H vs ds → DqAll H (vs.drop n) (ds.drop n)
  | 0, _, _, h => h
  | n + 1, [], [], _ => .nil
  | n + 1, _ :: _, _ :: _, h => by
    cases h with
    | cons h1 h2 => exact DqAll.drop n h2
theorem DqAll.take {H : Hp} : ∀ (n : Nat) {vs : List V} {ds : List PyData}, DqAll H vs ds → DqAll H (vs.take n) (ds.take n)
  | 0, _, _, _ => .nil
  | n + 1, [], [], _ => .nil
  | n + 1, _ :: _, _ :: _, h => by
    cases h with
    | cons h1 h2 => exact .cons h1 (DqAll.take n h2)
theorem DqAll.set {H : Hp} {v : V} {d : PyData} (r : Dq H v d) : ∀ (n : Nat) {vs : List V} {ds : List PyData}, DqAll H vs ds → DqAll H (vs.set n v) (ds.set n d)
  | _, [], [], _ => .nil
  | 0, _ :: _, _ :: _, h => by
    cases h with
    | cons h1 h2 => exact .cons r h2
  | n + 1, _ :: _, _ :: _, h => by
    cases h with
    | cons h1 h2 => exact .cons h1 (DqAll.set r n h2)
theorem DqAll.rev {H : Hp} : ∀ {vs : List V} {ds : List PyData}, DqAll H vs ds → DqAll H vs.reverse ds.reverse
  | [], [], _ => .nil
  | _ :: _, _ :: _, h => by
    cases h with
    | cons h1 h2 =>
      rw [List.reverse_cons, List.reverse_cons]
      exact DqAll.app (DqAll.rev h2) (.cons h1 .nil)
theorem DqAll.rep {H : Hp} {v : V} {d : PyData} (r : Dq H v d) : ∀ n : Nat, DqAll H (List.replicate n v) (List.replicate n d)
  | 0 => .nil
  | n + 1 => .cons r (DqAll.rep r n)
theorem DqAll.ints {H : Hp} : ∀ {vs : List V} {ns : List Int}, DqAll H vs (ns.map PyData.int) → vs = ns.map V.int
  | [], [], _ => rfl
  | _ :: _, n :: ns, h => by
    cases h with
    | cons h1 h2 =>
      cases h1
      rw [DqAll.ints h2]
      rfl
theorem DqAll.ofInts {H : Hp} : ∀ ns : List Int, DqAll H (ns.map V.int) (ns.map PyData.int)
  | [] => .nil
  | n :: ns => .cons (.int n) (DqAll.ofInts ns)
theorem DqAll.bls {H : Hp} : ∀ {vs : List V} {ns : List Bool}, DqAll H vs (ns.map PyData.bool) → vs = ns.map V.bl
  | [], [], _ => rfl
  | _ :: _, n :: ns, h => by
    cases h with
    | cons h1 h2 =>
      cases h1
      rw [DqAll.bls h2]
      rfl
theorem DqAll.ofBls {H : Hp} : ∀ ns : List Bool, DqAll H (ns.map V.bl) (ns.map PyData.bool)
  | [] => .nil
  | n :: ns => .cons (.bl n) (DqAll.ofBls ns)
theorem DqAll.strs {H : Hp} : ∀ {vs : List V} {ns : List Str}, DqAll H vs (ns.map PyData.str) → vs = ns.map V.str
  | [], [], _ => rfl
  | _ :: _, n :: ns, h => by
    cases h with
    | cons h1 h2 =>
      cases h1
      rw [DqAll.strs h2]
      rfl
theorem DqAll.ofStrs {H : Hp} : ∀ ns : List Str, DqAll H (ns.map V.str) (ns.map PyData.str)
  | [] => .nil
  | n :: ns => .cons (.str n) (DqAll.ofStrs ns)

/-! ### growth: P the part that is never written, H all -/
/-- a list or a tuple -/
def isD : HO → Bool
  | .lst _ => true
  | .tup _ => true
  | .ext _ => true
  | _ => false
structure Gr (P H P' H' : Hp) : Prop where
  hh : Same H H'
  pp : Same P P'
  ph : Same P' H'
  nw : ∀ a o, P' a = some o → P a = some o ∨ H a = Option.none
  nd : ∀ a o, P' a = some o → P a = some o ∨ isD o = true
theorem Gr.refl {P H : Hp} (e : Same P H) : Gr P H P H := ⟨Same.refl H, Same.refl P, e, fun _ _ h => .inl h, fun _ _ h => .inl h⟩
theorem Gr.trans {P H P1 H1 P2 H2 : Hp} (a : Gr P H P1 H1) (b : Gr P1 H1 P2 H2) : Gr P H P2 H2 :=
  ⟨a.hh.trans b.hh, a.pp.trans b.pp, b.ph, fun c o h => by
    rcases b.nw c o h with h | h
    · exact a.nw c o h
    · exact .inr (a.hh.free h), fun c o h => by
    rcases b.nd c o h with h | h
    · exact a.nd c o h
    · exact .inr h⟩
theorem same_new {H : Hp} {p : Addr} {o : HO} (h : H p = Option.none) : Same H (upd H p o) := fun b u e => by
  rw [upd_ne (ne_of_none e h)]
  exact e
theorem Gr.new {P H : Hp} {p : Addr} {o : HO} (e : Same P H) (h : H p = Option.none) (hd : isD o = true := by rfl) : Gr P H (upd P p o) (upd H p o) := by
  refine ⟨same_new h, same_new (e.free h), fun b u q => ?_, fun b u q => ?_, fun b u q => ?_⟩
  · by_cases hb : b = p
    · subst hb
      rw [upd_same] at q ⊢
      exact q
    · rw [upd_ne hb] at q ⊢
      exact e _ _ q
  · by_cases hb : b = p
    · subst hb
      exact .inr h
    · rw [upd_ne hb] at q
      exact .inl q
  · by_cases hb : b = p
    · subst hb
      rw [upd_same] at q
      cases q
      exact .inr hd
    · rw [upd_ne hb] at q
      exact .inl q
/-- new, but not kept for good -/
theorem Gr.tmp {P H : Hp} {p : Addr} {o : HO} (e : Same P H) (h : H p = Option.none) : Gr P H P (upd H p o) :=
  ⟨same_new h, Same.refl P, fun b u q => same_new h b u (e b u q), fun _ _ q => .inl q, fun _ _ q => .inl q⟩
/-- all lists and tuples that are new since (P0, H0) -/
def pmax (P0 H0 H : Hp) : Hp := fun a => match H0 a with
  | Option.none => (H a).filter isD
  | some _ => P0 a
theorem pmax_none' {P0 H0 H : Hp} {a : Addr} (h : H0 a = Option.none) : pmax P0 H0 H a = (H a).filter isD := by unfold pmax; rw [h]
theorem pmax_none {P0 H0 H : Hp} {a : Addr} {o : HO} (h : H0 a = Option.none) (e : H a = some o) (hd : isD o = true := by rfl) : pmax P0 H0 H a = some o := by
  rw [pmax_none' h, e]
  simp [Option.filter, hd]
theorem filter_some {x : Option HO} {o : HO} (h : x.filter isD = some o) : x = some o ∧ isD o = true := by
  cases x with
  | none => cases h
  | some u =>
    simp only [Option.filter] at h
    split at h
    · cases h
      exact ⟨rfl, by assumption⟩
    · cases h
theorem pmax_some {P0 H0 H : Hp} {a : Addr} {o : HO} (h : H0 a = some o) : pmax P0 H0 H a = P0 a := by unfold pmax; rw [h]
theorem Gr.sub {P0 H0 P H : Hp} (g : Gr P0 H0 P H) (e0 : Same P0 H0) : Same P (pmax P0 H0 H) := fun a o h => by
  cases e : H0 a with
  | none =>
    refine pmax_none e (g.ph a o h) ?_
    rcases g.nd a o h with q | q
    · rw [e0 a o q] at e; cases e
    · exact q
  | some u =>
    rw [pmax_some e]
    rcases g.nw a o h with q | q
    · exact q
    · rw [q] at e; cases e
theorem Gr.max {P0 H0 P H : Hp} (g : Gr P0 H0 P H) (e0 : Same P0 H0) : Gr P0 H0 (pmax P0 H0 H) H := by
  refine ⟨g.hh, fun a o h => g.sub e0 a o (g.pp a o h), fun a o h => ?_, fun a o h => ?_, fun a o h => ?_⟩
  · cases e : H0 a with
    | none => rw [pmax_none' e] at h; exact (filter_some h).1
    | some u => rw [pmax_some e] at h; exact g.hh a o (e0 a o h)
  · cases e : H0 a with
    | none => exact .inr rfl
    | some u => rw [pmax_some e] at h; exact .inl h
  · cases e : H0 a with
    | none => rw [pmax_none' e] at h; exact .inr (filter_some h).2
    | some u => rw [pmax_some e] at h; exact .inl h
theorem pmax_mono {P0 H0 H H' : Hp} (e : Same H H') : Same (pmax P0 H0 H) (pmax P0 H0 H') := fun a o h => by
  cases q : H0 a with
  | none =>
    rw [pmax_none' q] at h
    obtain ⟨h1, h2⟩ := filter_some h
    exact pmax_none q (e a o h1) h2
  | some u => rw [pmax_some q] at h ⊢; exact h

/-! ### states -/
/-- what one's own object holds -/
inductive Ob where
  | lst (ds : List PyData)
  | raw (o : HO)
  /-- a list of two ints, whatever they are -/
  | vol
  /-- a code object's table -/
  | tab (q : Str)
def ObAt (P H : Hp) (a : Addr) : Ob → Prop
  | .lst ds => ∃ xs, H a = some (.lst xs) ∧ DqAll P xs ds
  | .raw o => H a = some o
  | .vol => ∃ c k : Int, H a = some (.lst [.int c, .int k])
  | .tab q => LamX.TabS H a q
/-- what a slot holds -/
inductive Sl where
  | no
  | dat (d : PyData)
  | raw (v : V)
def SlAt (P : Hp) : Sl → Option V → Prop
  | .no, _ => True
  | .dat d, x => ∃ v, x = some v ∧ Dq P v d
  | .raw v, x => x = some v
structure Sat (B P0 H0 : Hp) (W : List (Addr × Ob)) (ρ : List Sl) (σ : L2.St) (P H : Hp) : Prop where
  sb : Same B P
  pd : ∀ a o, P a = some o → isD o = true
  e0 : Same P0 H0
  gr : Gr P0 H0 P H
  own : ∀ p ∈ W, P p.1 = Option.none ∧ ObAt P H p.1 p.2
  fr : ∀ p ∈ W, H0 p.1 = Option.none
  nd : (W.map (·.1)).Nodup
  len : σ.length = ρ.length
  sl : ∀ (i : Nat) (s : Sl), ρ[i]? = some s → ∃ x, σ[i]? = some x ∧ SlAt P s x
theorem SlAt.mono {P P' : Hp} (e : Same P P') {s : Sl} {x : Option V} (h : SlAt P s x) : SlAt P' s x := by
  cases s with
  | no => trivial
  | dat d =>
    obtain ⟨v, a, b⟩ := h
    exact ⟨v, a, dq_mono e d v b⟩
  | raw v => exact h
theorem ObAt.grow {P H P' H' : Hp} (g : Gr P H P' H') {a : Addr} {o : Ob} (h : ObAt P H a o) : ObAt P' H' a o := by
  cases o with
  | lst ds =>
    obtain ⟨xs, e, q⟩ := h
    exact ⟨xs, g.hh _ _ e, dqAll_mono g.pp ds xs q⟩
  | raw o => exact g.hh _ _ h
  | vol =>
    obtain ⟨c, k, e⟩ := h
    exact ⟨c, k, g.hh _ _ e⟩
  | tab q => exact LamX.TabS.ext h g.hh
theorem ObAt.there {P H : Hp} {a : Addr} {o : Ob} (h : ObAt P H a o) : ∃ u, H a = some u := by
  cases o with
  | lst ds =>
    obtain ⟨xs, e, _⟩ := h
    exact ⟨_, e⟩
  | raw o => exact ⟨_, h⟩
  | vol =>
    obtain ⟨c, k, e⟩ := h
    exact ⟨_, e⟩
  | tab q =>
    obtain ⟨ps, e, _⟩ := h
    exact ⟨_, e⟩
/-- an own object stands behind a store elsewhere -/
theorem ObAt.else {P H : Hp} {a p : Addr} {o : Ob} {u : HO} (h : ObAt P H a o) (ne : a ≠ p) (hc : ∀ c q, H p ≠ some (LamX.CodeO c q)) : ObAt P (upd H p u) a o := by
  cases o with
  | lst ds =>
    obtain ⟨xs, x1, x2⟩ := h
    exact ⟨xs, by rw [upd_ne ne]; exact x1, x2⟩
  | raw o =>
    show upd H p u a = some o
    rw [upd_ne ne]
    exact h
  | vol =>
    obtain ⟨c, k, e⟩ := h
    exact ⟨c, k, by rw [upd_ne ne]; exact e⟩
  | tab q =>
    obtain ⟨ps, e1, e2, e3⟩ := h
    refine ⟨ps, by rw [upd_ne ne]; exact e1, e2, fun pos cv k => ?_⟩
    obtain ⟨c, h1, h2⟩ := e3 pos cv k
    refine ⟨c, h1, ?_⟩
    rw [upd_ne fun z => hc c q (by rw [← z]; exact h2)]
    exact h2
theorem code_lst {c : Addr} {q : Str} {xs : List V} : some (HO.lst xs) ≠ some (LamX.CodeO c q) := fun z => by
  unfold LamX.CodeO at z
  cases z
theorem code_dK {c : Addr} {q : Str} {xs : List (Key × V)} : some (HO.dK xs) ≠ some (LamX.CodeO c q) := fun z => by
  unfold LamX.CodeO at z
  cases z
theorem Gr.stay {P H P' H' : Hp} (g : Gr P H P' H') {a : Addr} {u : HO} (h : P a = Option.none) (e : H a = some u) : P' a = Option.none := by
  cases q : P' a with
  | none => rfl
  | some o =>
    rcases g.nw a o q with z | z
    · rw [h] at z; cases z
    · rw [e] at z; cases z
section
variable {B P0 H0 P H P' H' : Hp} {W : List (Addr × Ob)} {ρ : List Sl} {σ : L2.St}
theorem Sat.grow (S : Sat B P0 H0 W ρ σ P H) (g : Gr P H P' H') : Sat B P0 H0 W ρ σ P' H' where
  sb := S.sb.trans g.pp
  pd := fun a o h => by
    rcases g.nd a o h with q | q
    · exact S.pd a o q
    · exact q
  e0 := S.e0
  gr := S.gr.trans g
  own := fun p hp => by
    obtain ⟨a, b⟩ := S.own p hp
    obtain ⟨u, hu⟩ := b.there
    exact ⟨g.stay a hu, b.grow g⟩
  fr := S.fr
  nd := S.nd
  len := S.len
  sl := fun i s h => by
    obtain ⟨x, a, b⟩ := S.sl i s h
    exact ⟨x, a, b.mono g.pp⟩
theorem Sat.put (S : Sat B P0 H0 W ρ σ P H) (i : Nat) {s : Sl} {v : V} (h : SlAt P s (some v)) : Sat B P0 H0 W (ρ.set i s) (σ.set i (some v)) P H := by
  refine { S with len := by rw [List.length_set, List.length_set]; exact S.len, sl := fun j t ht => ?_ }
  by_cases e : i = j
  · subst e
    have hi : i < ρ.length := by
      have := (List.getElem?_eq_some_iff.mp ht).1
      rwa [List.length_set] at this
    rw [List.getElem?_set_self hi] at ht
    cases ht
    exact ⟨_, by rw [List.getElem?_set_self (by rw [S.len]; exact hi)], h⟩
  · rw [List.getElem?_set_ne e] at ht
    obtain ⟨x, a, b⟩ := S.sl j t ht
    exact ⟨x, by rw [List.getElem?_set_ne e]; exact a, b⟩
/-- a slot that is no longer told -/
theorem Sat.forget (S : Sat B P0 H0 W ρ σ P H) {ρ' : List Sl} (hl : ρ'.length = ρ.length) (h : ∀ (i : Nat) (s : Sl), ρ'[i]? = some s → s = .no ∨ ρ[i]? = some s) : Sat B P0 H0 W ρ' σ P H := by
  refine { S with len := by rw [S.len, hl], sl := fun j t ht => ?_ }
  rcases h j t ht with e | e
  · subst e
    have hj : j < ρ'.length := (List.getElem?_eq_some_iff.mp ht).1
    have hj2 : j < σ.length := by rw [S.len, ← hl]; exact hj
    exact ⟨σ[j], List.getElem?_eq_getElem hj2, trivial⟩
  · exact S.sl j t e
end
/-- the part in which a value is told: for good (true), or as it stands (false) -/
def vw (m : Bool) (P0 H0 P H : Hp) : Hp := if m = true then P else pmax P0 H0 H
theorem vw_up {m : Bool} {P0 H0 P H : Hp} (e0 : Same P0 H0) (g : Gr P0 H0 P H) : Same P (vw m P0 H0 P H) := by
  cases m with
  | true => exact Same.refl P
  | false => exact g.sub e0
theorem vw_hp {m : Bool} {P0 H0 P H : Hp} (e0 : Same P0 H0) (g : Gr P0 H0 P H) : Same (vw m P0 H0 P H) H := by
  cases m with
  | true => exact g.ph
  | false => exact (g.max e0).ph
theorem vw_mono {m : Bool} {P0 H0 P H P' H' : Hp} (g : Gr P H P' H') : Same (vw m P0 H0 P H) (vw m P0 H0 P' H') := by
  cases m with
  | true => exact g.pp
  | false => exact pmax_mono g.hh
/-- a new object lies in both parts -/
theorem vw_new {m : Bool} {P0 H0 P H : Hp} (g : Gr P0 H0 P H) {p : Addr} {o : HO} (h : H p = Option.none) (hd : isD o = true := by rfl) : vw m P0 H0 (upd P p o) (upd H p o) p = some o := by
  cases m with
  | true => exact upd_same
  | false => exact pmax_none (g.hh.free h) upd_same hd
end Dw

namespace Dw
open PySem PySem.Spec PyProof.Rows L2
/-! ### readings of every term at once -/
def uE (X : Cx) (e : Expr) : TE := fun σ H Q => ∃ t, PE X e t ∧ t σ H Q
def uT (X : Cx) (e : Expr) : TT := fun σ H Q => ∃ t, PT X e t ∧ t σ H Q
def uW (X : Cx) (e : Expr) : TT := fun σ H Q => ∃ t, PW X e t ∧ t σ H Q
def uA (X : Cx) (es : List Expr) : TA := fun σ H Q => ∃ t, PA X es t ∧ t σ H Q
def uSs (X : Cx) (sts : List Stmt) : TS := fun D σ H => ∃ t, PSs X sts t ∧ t D σ H
section
variable {X : Cx}
theorem pe_u {e : Expr} : PE X e (uE X e) := ⟨fun pins s σ H Q I ⟨t, ht, h⟩ => ht.run pins s σ H Q I h⟩
theorem pt_u {e : Expr} : PT X e (uT X e) := ⟨fun pins s σ H Q I ⟨t, ht, h⟩ => ht.run pins s σ H Q I h⟩
theorem pw_u {e : Expr} : PW X e (uW X e) := ⟨fun wh pins s σ H Q I ⟨t, ht, h⟩ => ht.run wh pins s σ H Q I h⟩
theorem pa_u {es : List Expr} : PA X es (uA X es) := ⟨fun pos pins s σ H Q I ⟨t, ht, h⟩ => ht.run pos pins s σ H Q I h⟩
theorem pss_u {sts : List Stmt} : PSs X sts (uSs X sts) := ⟨fun pins s σ H D I ⟨t, ht, h⟩ => ht.run pins s σ H D I h⟩
end
section
variable (X : Cx) (B P0 H0 : Hp) (W : List (Addr × Ob)) (ρ : List Sl)
def DE (m : Bool) (e : Expr) (d : PyData) : Prop := ∀ σ P H, Sat B P0 H0 W ρ σ P H → ∀ Q : VK, (∀ v P' H', Gr P H P' H' → Dq (vw m P0 H0 P' H') v d → Q v H') → uE X e σ H Q
def DT (e : Expr) (b : Bool) : Prop := ∀ σ P H, Sat B P0 H0 W ρ σ P H → ∀ Q : Bool → Hp → Prop, (∀ P' H', Gr P H P' H' → Q b H') → uT X e σ H Q
def DW (e : Expr) (b : Bool) : Prop := ∀ σ P H, Sat B P0 H0 W ρ σ P H → ∀ Q : Bool → Hp → Prop, (∀ P' H', Gr P H P' H' → Q b H') → uW X e σ H Q
def DA (m : Bool) (es : List Expr) (ds : List PyData) : Prop := ∀ σ P H, Sat B P0 H0 W ρ σ P H → ∀ Q : List V → Hp → Prop, (∀ vs P' H', Gr P H P' H' → DqAll (vw m P0 H0 P' H') vs ds → Q vs H') → uA X es σ H Q
def G (sts : List Stmt) (D : Ends) : Prop := ∀ σ P H, Sat B P0 H0 W ρ σ P H → uSs X sts D σ H
end
section
variable (P0 H0 : Hp)
/-- an operation on two values, a call of a built-in with values -/
def OpD (m1 m2 m : Bool) (r : R2) (d1 d2 d : PyData) : Prop := ∀ P H, Same P0 H0 → Gr P0 H0 P H → ∀ v w, Dq (vw m1 P0 H0 P H) v d1 → Dq (vw m2 P0 H0 P H) w d2 → ∀ Q : VK, (∀ z P' H', Gr P H P' H' → Dq (vw m P0 H0 P' H') z d → Q z H') → r v w H Q
def BiD (m1 m : Bool) (r : List V → Hp → VK → Prop) (ds : List PyData) (d : PyData) : Prop := ∀ P H, Same P0 H0 → Gr P0 H0 P H → ∀ vs, DqAll (vw m1 P0 H0 P H) vs ds → ∀ Q : VK, (∀ z P' H', Gr P H P' H' → Dq (vw m P0 H0 P' H') z d → Q z H') → r vs H Q
def MtD (m1 m2 m : Bool) (r : V → List V → Hp → VK → Prop) (d1 : PyData) (ds : List PyData) (d : PyData) : Prop := ∀ P H, Same P0 H0 → Gr P0 H0 P H → ∀ v vs, Dq (vw m1 P0 H0 P H) v d1 → DqAll (vw m2 P0 H0 P H) vs ds → ∀ Q : VK, (∀ z P' H', Gr P H P' H' → Dq (vw m P0 H0 P' H') z d → Q z H') → r v vs H Q
end
section
variable {X : Cx} {B P0 H0 : Hp} {W : List (Addr × Ob)} {ρ : List Sl} {m m1 m2 : Bool} {a b c e : Expr} {es : List Expr} {pos p1 p2 : Pos} {d d1 d2 d3 : PyData} {ds : List PyData} {D : Ends} {rest : List Stmt}
theorem gr_refl {σ : L2.St} {P H : Hp} (S : Sat B P0 H0 W ρ σ P H) : Gr P H P H := Gr.refl S.gr.ph

/-! ### names, constants -/
theorem de_v (i : Nat) {x : Str} (hρ : ρ[i]? = some (.dat d) := by rfl) (hN : X.N[i]? = some x := by rfl) (hv : Vis X.env.scope x := by first | exact Or.inl rfl | exact Or.inr (Or.inl rfl) | exact Or.inr (Or.inr rfl)) (hd : (x == ("__debug__" : Str)) = false := by decide)
    (hcd : (x == ("__classdict__" : Str)) = false := by decide) : DE X B P0 H0 W ρ m (.Name x pos) d := fun σ P H S Q q => by
  obtain ⟨x', e1, v, e2, hq⟩ := S.sl i _ hρ
  subst e2
  exact ⟨_, pe_var hN hv hd hcd, v, e1, q v P H (gr_refl S) (dq_mono (vw_up S.e0 S.gr) d v hq)⟩
/-- one's own list, as it stands -/
theorem de_own (i k : Nat) {x : Str} {o : Addr} (hρ : ρ[i]? = some (.raw (.ref o)) := by rfl) (hW : W[k]? = some (o, .lst ds) := by rfl) (hN : X.N[i]? = some x := by rfl) (hv : Vis X.env.scope x := by first | exact Or.inl rfl | exact Or.inr (Or.inl rfl) | exact Or.inr (Or.inr rfl)) (hd : (x == ("__debug__" : Str)) = false := by decide)
    (hcd : (x == ("__classdict__" : Str)) = false := by decide) : DE X B P0 H0 W ρ false (.Name x pos) (.list ds) := fun σ P H S Q q => by
  obtain ⟨x', e1, e2⟩ := S.sl i _ hρ
  obtain rfl : x' = some (.ref o) := e2
  obtain ⟨_, xs, h1, h2⟩ := S.own _ (List.mem_of_getElem? hW)
  refine ⟨_, pe_var hN hv hd hcd, _, e1, q _ P H (gr_refl S) (.lst (xs := xs) ?_ (dqAll_mono (vw_up S.e0 S.gr) ds xs h2))⟩
  exact pmax_none (S.fr _ (List.mem_of_getElem? hW)) h1
theorem de_int {i j} : DE X B P0 H0 W ρ m (.Constant (.int i) j pos) (.int i) := fun σ P H S Q q => ⟨_, pe_int, q _ P H (gr_refl S) (.int i)⟩
theorem de_bl {b j} : DE X B P0 H0 W ρ m (.Constant (.bool b) j pos) (.bool b) := fun σ P H S Q q => ⟨_, pe_bl, q _ P H (gr_refl S) (.bl b)⟩
theorem de_non {j} : DE X B P0 H0 W ρ m (.Constant .none j pos) .none := fun σ P H S Q q => ⟨_, pe_non, q _ P H (gr_refl S) .non⟩
theorem de_str {x j} : DE X B P0 H0 W ρ m (.Constant (.str x) j pos) (.str x) := fun σ P H S Q q => ⟨_, pe_str, q _ P H (gr_refl S) (.str x)⟩
theorem de_globI {x : Str} {i : Int} (hm : ∃ t, X.mg x = some (.int i t)) (hg : Gl X x := by rfl) (hd : (x == ("__debug__" : Str)) = false := by decide) : DE X B P0 H0 W ρ m (.Name x pos) (.int i) := fun σ P H S Q q => by
  obtain ⟨t, e⟩ := hm
  exact ⟨_, pe_glob (v := .int i) hg e ⟨t, rfl⟩ hd, q _ P H (gr_refl S) (.int i)⟩
def scalD : PyData → Bool
  | .none | .bool _ | .int _ | .str _ => true
  | _ => false
theorem dq_scal {H H' : Hp} {v : V} (h : scalD d = true) (q : Dq H v d) : Dq H' v d := by
  cases q with
  | non => exact .non
  | bl b => exact .bl b
  | int i => exact .int i
  | str x => exact .str x
  | lst => cases h
  | tup => cases h
  | exc => cases h
theorem de_sc (h : DE X B P0 H0 W ρ false e d) (hs : scalD d = true := by rfl) : DE X B P0 H0 W ρ m e d := fun σ P H S Q q => h σ P H S Q fun v P' H' g k => q v P' H' g (dq_scal hs k)
theorem de_lo (h : DE X B P0 H0 W ρ true e d) : DE X B P0 H0 W ρ m e d := fun σ P H S Q q => h σ P H S Q fun v P' H' g k => q v P' H' g (dq_mono (vw_up S.e0 (S.gr.trans g)) d v k)
theorem de_eq (h : DE X B P0 H0 W ρ m e d) (hd : d = d1) : DE X B P0 H0 W ρ m e d1 := hd ▸ h
theorem dt_eq {k k' : Bool} (h : DT X B P0 H0 W ρ e k) (hd : k = k') : DT X B P0 H0 W ρ e k' := hd ▸ h

/-! ### operators -/
theorem de_op {op : Operator} {r : R2} (ho : OpR X (binaryOp op) r) (ha : DE X B P0 H0 W ρ m1 a d1) (hb : DE X B P0 H0 W ρ m2 b d2) (hr : OpD P0 H0 m1 m2 m r d1 d2 d) : DE X B P0 H0 W ρ m (.BinOp a op b pos) d := fun σ P H S Q q =>
  ⟨_, pe_op ho pe_u pe_u, ha σ P H S _ fun v P1 H1 g1 k1 => hb σ P1 H1 (S.grow g1) _ fun w P2 H2 g2 k2 => hr P2 H2 S.e0 (S.gr.trans (g1.trans g2)) v w (dq_mono (vw_mono g2) _ _ k1) k2 Q fun z P3 H3 g3 k3 => q z P3 H3 ((g1.trans g2).trans g3) k3⟩
theorem de_cmp {op : CmpOp} {r : R2} (ho : OpR X (compareOp op) r) (ha : DE X B P0 H0 W ρ m1 a d1) (hb : DE X B P0 H0 W ρ m2 b d2) (hr : OpD P0 H0 m1 m2 m r d1 d2 d) (hm : behindInMarks op b = false) : DE X B P0 H0 W ρ m (.Compare a [op] [b] pos) d := fun σ P H S Q q =>
  ⟨_, pe_cmpR ho pe_u pe_u hm, ha σ P H S _ fun v P1 H1 g1 k1 => hb σ P1 H1 (S.grow g1) _ fun w P2 H2 g2 k2 => hr P2 H2 S.e0 (S.gr.trans (g1.trans g2)) v w (dq_mono (vw_mono g2) _ _ k1) k2 Q fun z P3 H3 g3 k3 => q z P3 H3 ((g1.trans g2).trans g3) k3⟩
theorem dt_cmp {op : CmpOp} {r : R2} {k : Bool} (ho : OpR X (compareOp op) r) (ha : DE X B P0 H0 W ρ m1 a d1) (hb : DE X B P0 H0 W ρ m2 b d2) (hr : OpD P0 H0 m1 m2 true r d1 d2 (.bool k)) (hm : behindInMarks op b = false) : DT X B P0 H0 W ρ (.Compare a [op] [b] pos) k := fun σ P H S Q q =>
  ⟨_, pt_cmpR ho pe_u pe_u hm, ha σ P H S _ fun v P1 H1 g1 k1 => hb σ P1 H1 (S.grow g1) _ fun w P2 H2 g2 k2 => hr P2 H2 S.e0 (S.gr.trans (g1.trans g2)) v w (dq_mono (vw_mono g2) _ _ k1) k2 _ fun z P3 H3 g3 k3 => by
    cases k3
    exact ⟨k, rfl, q P3 H3 ((g1.trans g2).trans g3)⟩⟩
theorem dt_val {k : Bool} (h : DE X B P0 H0 W ρ m e (.bool k)) (he : ∀ whole, isTrue e X.env whole = (do let v ← whole; standAt e.pos; holding [v] (truthy v)) := by intro _; rfl) : DT X B P0 H0 W ρ e k := fun σ P H S Q q =>
  ⟨_, pt_val pe_u he, h σ P H S _ fun v P1 H1 g1 k1 => by
    cases k1
    exact ⟨k, rfl, q P1 H1 g1⟩⟩
/-- the int operators -/
theorem od_I0 {g : Int → Int → V} {d : Int → Int → PyData} {i j : Int} (hg : ∀ i j H, Dq H (g i j) (d i j)) : OpD P0 H0 m1 m2 m (rI0 g) (.int i) (.int j) (d i j) := fun P H _ gr v w k1 k2 Q q => by
  cases k1
  cases k2
  exact ⟨i, j, rfl, rfl, q _ P H (Gr.refl gr.ph) (hg i j _)⟩
theorem od_I {C : Int → Int → Prop} {g : Int → Int → V} {d : Int → Int → PyData} {i j : Int} (hc : C i j) (hg : ∀ i j H, Dq H (g i j) (d i j)) : OpD P0 H0 m1 m2 m (rI C g) (.int i) (.int j) (d i j) := fun P H _ gr v w k1 k2 Q q => by
  cases k1
  cases k2
  exact ⟨i, j, rfl, rfl, hc, q _ P H (Gr.refl gr.ph) (hg i j _)⟩
theorem de_add {i j : Int} (ha : DE X B P0 H0 W ρ false a (.int i)) (hb : DE X B P0 H0 W ρ false b (.int j)) : DE X B P0 H0 W ρ m (.BinOp a .Add b pos) (.int (i + j)) := de_op op_add ha hb (od_I0 (d := fun i j => .int (i + j)) fun i j H => .int _)
theorem de_sub {i j : Int} (ha : DE X B P0 H0 W ρ false a (.int i)) (hb : DE X B P0 H0 W ρ false b (.int j)) : DE X B P0 H0 W ρ m (.BinOp a .Sub b pos) (.int (i - j)) := de_op op_sub ha hb (od_I0 (d := fun i j => .int (i - j)) fun i j H => .int _)
theorem de_mul {i j : Int} (ha : DE X B P0 H0 W ρ false a (.int i)) (hb : DE X B P0 H0 W ρ false b (.int j)) (hc : CMul i j) : DE X B P0 H0 W ρ m (.BinOp a .Mult b pos) (.int (i * j)) := de_op op_mul ha hb (od_I (d := fun i j => .int (i * j)) hc fun i j H => .int _)
theorem de_mulW {i j : Int} (ha : DE X B P0 H0 W ρ false a (.int i)) (hb : DE X B P0 H0 W ρ false b (.int j)) (hc : CMulW i j) : DE X B P0 H0 W ρ m (.BinOp a .Mult b pos) (.int (i * j)) := de_op op_mulW ha hb (od_I (d := fun i j => .int (i * j)) hc fun i j H => .int _)
theorem de_mulX {i j : Int} (ha : DE X B P0 H0 W ρ false a (.int i)) (hb : DE X B P0 H0 W ρ false b (.int j)) (hc : CMulX i j) : DE X B P0 H0 W ρ m (.BinOp a .Mult b pos) (.int (i * j)) := de_op op_mulX ha hb (od_I (d := fun i j => .int (i * j)) hc fun i j H => .int _)
theorem de_div {i j : Int} (ha : DE X B P0 H0 W ρ false a (.int i)) (hb : DE X B P0 H0 W ρ false b (.int j)) (hc : CDiv i j) : DE X B P0 H0 W ρ m (.BinOp a .FloorDiv b pos) (.int (i / j)) := de_op op_fdiv ha hb (od_I (d := fun i j => .int (i / j)) hc fun i j H => .int _)
theorem de_divW {i j : Int} (ha : DE X B P0 H0 W ρ false a (.int i)) (hb : DE X B P0 H0 W ρ false b (.int j)) (hc : CDivW i j) : DE X B P0 H0 W ρ m (.BinOp a .FloorDiv b pos) (.int (i / j)) := de_op op_fdivW ha hb (od_I (d := fun i j => .int (i / j)) hc fun i j H => .int _)
theorem de_mod {i j : Int} (ha : DE X B P0 H0 W ρ false a (.int i)) (hb : DE X B P0 H0 W ρ false b (.int j)) (hc : 0 < j) : DE X B P0 H0 W ρ m (.BinOp a .Mod b pos) (.int (i % j)) := de_op op_mod ha hb (od_I (C := fun _ j => 0 < j) (d := fun i j => .int (i % j)) hc fun i j H => .int _)
theorem de_neg {i : Int} (ha : DE X B P0 H0 W ρ false a (.int i)) : DE X B P0 H0 W ρ m (.UnaryOp .USub a pos) (.int (-i)) := fun σ P H S Q q =>
  ⟨_, pe_un un_neg pe_u, ha σ P H S _ fun v P1 H1 g1 k1 => by
    cases k1
    exact ⟨i, rfl, q _ P1 H1 g1 (.int _)⟩⟩
/-- comparisons of ints: values, tests -/
theorem de_lt {i j : Int} (ha : DE X B P0 H0 W ρ false a (.int i)) (hb : DE X B P0 H0 W ρ false b (.int j)) : DE X B P0 H0 W ρ m (.Compare a [.Lt] [b] pos) (.bool (decide (i < j))) := de_cmp op_lt ha hb (od_I0 (d := fun i j => .bool (decide (i < j))) fun i j H => .bl _) (nomark _)
theorem de_le {i j : Int} (ha : DE X B P0 H0 W ρ false a (.int i)) (hb : DE X B P0 H0 W ρ false b (.int j)) : DE X B P0 H0 W ρ m (.Compare a [.LtE] [b] pos) (.bool (decide (i ≤ j))) := de_cmp op_le ha hb (od_I0 (d := fun i j => .bool (decide (i ≤ j))) fun i j H => .bl _) (nomark _)
theorem de_gt {i j : Int} (ha : DE X B P0 H0 W ρ false a (.int i)) (hb : DE X B P0 H0 W ρ false b (.int j)) : DE X B P0 H0 W ρ m (.Compare a [.Gt] [b] pos) (.bool (decide (j < i))) := de_cmp op_gt ha hb (od_I0 (d := fun i j => .bool (decide (j < i))) fun i j H => .bl _) (nomark _)
theorem de_ge {i j : Int} (ha : DE X B P0 H0 W ρ false a (.int i)) (hb : DE X B P0 H0 W ρ false b (.int j)) : DE X B P0 H0 W ρ m (.Compare a [.GtE] [b] pos) (.bool (decide (j ≤ i))) := de_cmp op_ge ha hb (od_I0 (d := fun i j => .bool (decide (j ≤ i))) fun i j H => .bl _) (nomark _)
theorem dt_lt {i j : Int} (ha : DE X B P0 H0 W ρ false a (.int i)) (hb : DE X B P0 H0 W ρ false b (.int j)) : DT X B P0 H0 W ρ (.Compare a [.Lt] [b] pos) (decide (i < j)) := dt_cmp op_lt ha hb (od_I0 (d := fun i j => .bool (decide (i < j))) fun i j H => .bl _) (nomark _)
theorem dt_le {i j : Int} (ha : DE X B P0 H0 W ρ false a (.int i)) (hb : DE X B P0 H0 W ρ false b (.int j)) : DT X B P0 H0 W ρ (.Compare a [.LtE] [b] pos) (decide (i ≤ j)) := dt_cmp op_le ha hb (od_I0 (d := fun i j => .bool (decide (i ≤ j))) fun i j H => .bl _) (nomark _)
theorem dt_gt {i j : Int} (ha : DE X B P0 H0 W ρ false a (.int i)) (hb : DE X B P0 H0 W ρ false b (.int j)) : DT X B P0 H0 W ρ (.Compare a [.Gt] [b] pos) (decide (j < i)) := dt_cmp op_gt ha hb (od_I0 (d := fun i j => .bool (decide (j < i))) fun i j H => .bl _) (nomark _)
theorem dt_ge {i j : Int} (ha : DE X B P0 H0 W ρ false a (.int i)) (hb : DE X B P0 H0 W ρ false b (.int j)) : DT X B P0 H0 W ρ (.Compare a [.GtE] [b] pos) (decide (j ≤ i)) := dt_cmp op_ge ha hb (od_I0 (d := fun i j => .bool (decide (j ≤ i))) fun i j H => .bl _) (nomark _)
/-- == and != of data -/
theorem od_eq (s1 : SeqAt.shaped d1 = true) (s2 : SeqAt.shaped d2 = true) : OpD P0 H0 m1 m2 m (rEqD X.K) d1 d2 (.bool (PyData.eqv d1 d2)) := fun P H e0 gr v w k1 k2 Q q =>
  ⟨d1, d2, Dq.dp _ _ (SeqAt.canLay_of_shaped s1) (dq_mono (vw_hp e0 gr) _ _ k1), Dq.dp _ _ (SeqAt.canLay_of_shaped s2) (dq_mono (vw_hp e0 gr) _ _ k2), s1, s2, q _ P H (Gr.refl gr.ph) (.bl _)⟩
theorem od_ne (s1 : SeqAt.shaped d1 = true) (s2 : SeqAt.shaped d2 = true) : OpD P0 H0 m1 m2 m (rNeD X.K) d1 d2 (.bool (!PyData.eqv d1 d2)) := fun P H e0 gr v w k1 k2 Q q =>
  ⟨d1, d2, Dq.dp _ _ (SeqAt.canLay_of_shaped s1) (dq_mono (vw_hp e0 gr) _ _ k1), Dq.dp _ _ (SeqAt.canLay_of_shaped s2) (dq_mono (vw_hp e0 gr) _ _ k2), s1, s2, q _ P H (Gr.refl gr.ph) (.bl _)⟩
theorem de_eqD (hu : X.A.units + 64 < cLine) (ha : DE X B P0 H0 W ρ false a d1) (hb : DE X B P0 H0 W ρ false b d2) (s1 : SeqAt.shaped d1 = true) (s2 : SeqAt.shaped d2 = true) : DE X B P0 H0 W ρ m (.Compare a [.Eq] [b] pos) (.bool (PyData.eqv d1 d2)) := de_cmp (op_eqD hu) ha hb (od_eq s1 s2) (nomark _)
theorem de_neD (hu : X.A.units + 64 < cLine) (ha : DE X B P0 H0 W ρ false a d1) (hb : DE X B P0 H0 W ρ false b d2) (s1 : SeqAt.shaped d1 = true) (s2 : SeqAt.shaped d2 = true) : DE X B P0 H0 W ρ m (.Compare a [.NotEq] [b] pos) (.bool (!PyData.eqv d1 d2)) := de_cmp (op_neD hu) ha hb (od_ne s1 s2) (nomark _)
theorem dt_eqD (hu : X.A.units + 64 < cLine) (ha : DE X B P0 H0 W ρ false a d1) (hb : DE X B P0 H0 W ρ false b d2) (s1 : SeqAt.shaped d1 = true) (s2 : SeqAt.shaped d2 = true) : DT X B P0 H0 W ρ (.Compare a [.Eq] [b] pos) (PyData.eqv d1 d2) := dt_cmp (op_eqD hu) ha hb (od_eq s1 s2) (nomark _)
theorem dt_neD (hu : X.A.units + 64 < cLine) (ha : DE X B P0 H0 W ρ false a d1) (hb : DE X B P0 H0 W ρ false b d2) (s1 : SeqAt.shaped d1 = true) (s2 : SeqAt.shaped d2 = true) : DT X B P0 H0 W ρ (.Compare a [.NotEq] [b] pos) (!PyData.eqv d1 d2) := dt_cmp (op_neD hu) ha hb (od_ne s1 s2) (nomark _)
/-- .. of two ints, by themselves -/
theorem eqv_int (i j : Int) : PyData.eqv (.int i) (.int j) = decide (i = j) := by
  simp only [PyData.eqv]
  first | rfl | exact Bool.beq_eq_decide_eq i j | simp
theorem sh_int (i : Int) : SeqAt.shaped (.int i) = true := by simp [SeqAt.shaped, PyData.canLay0, PyData.depth]
theorem od_eqI {i j : Int} : OpD P0 H0 m1 m2 m rEq (.int i) (.int j) (.bool (decide (i = j))) := fun P H e0 gr v w k1 k2 Q q => by
  cases k1
  cases k2
  refine ⟨rfl, ?_⟩
  have e : decide (V.int i = V.int j) = decide (i = j) := by simp
  rw [e]
  exact q _ P H (Gr.refl gr.ph) (.bl _)
theorem od_neI {i j : Int} : OpD P0 H0 m1 m2 m rNe (.int i) (.int j) (.bool (!decide (i = j))) := fun P H e0 gr v w k1 k2 Q q => by
  cases k1
  cases k2
  refine ⟨rfl, ?_⟩
  have e : decide (V.int i = V.int j) = decide (i = j) := by simp
  rw [e]
  exact q _ P H (Gr.refl gr.ph) (.bl _)
theorem de_eqI {i j : Int} (ha : DE X B P0 H0 W ρ false a (.int i)) (hb : DE X B P0 H0 W ρ false b (.int j)) : DE X B P0 H0 W ρ m (.Compare a [.Eq] [b] pos) (.bool (decide (i = j))) := de_cmp op_eq ha hb od_eqI (nomark _)
theorem de_neI {i j : Int} (ha : DE X B P0 H0 W ρ false a (.int i)) (hb : DE X B P0 H0 W ρ false b (.int j)) : DE X B P0 H0 W ρ m (.Compare a [.NotEq] [b] pos) (.bool (!decide (i = j))) := de_cmp op_ne ha hb od_neI (nomark _)
theorem dt_eqI {i j : Int} (ha : DE X B P0 H0 W ρ false a (.int i)) (hb : DE X B P0 H0 W ρ false b (.int j)) : DT X B P0 H0 W ρ (.Compare a [.Eq] [b] pos) (decide (i = j)) := dt_cmp op_eq ha hb od_eqI (nomark _)
theorem dt_neI {i j : Int} (ha : DE X B P0 H0 W ρ false a (.int i)) (hb : DE X B P0 H0 W ρ false b (.int j)) : DT X B P0 H0 W ρ (.Compare a [.NotEq] [b] pos) (!decide (i = j)) := dt_cmp op_ne ha hb od_neI (nomark _)
/-- is None -/
def isNone : PyData → Bool
  | .none => true
  | _ => false
theorem od_isN : OpD P0 H0 m1 m2 m (fun x y H Q => y = .non ∧ Q (.bl (decide (x = .non))) H) d .none (.bool (isNone d)) := fun P H e0 gr v w k1 k2 Q q => by
  cases k2
  refine ⟨rfl, q _ P H (Gr.refl gr.ph) ?_⟩
  cases k1 <;> exact .bl _
theorem od_notN : OpD P0 H0 m1 m2 m (fun x y H Q => y = .non ∧ Q (.bl (!decide (x = .non))) H) d .none (.bool (!isNone d)) := fun P H e0 gr v w k1 k2 Q q => by
  cases k2
  refine ⟨rfl, q _ P H (Gr.refl gr.ph) ?_⟩
  cases k1 <;> exact .bl _
theorem de_isN (ha : DE X B P0 H0 W ρ false a d) (hb : DE X B P0 H0 W ρ false b .none) : DE X B P0 H0 W ρ m (.Compare a [.Is] [b] pos) (.bool (isNone d)) := de_cmp op_isN ha hb od_isN (nomark _)
theorem de_notN (ha : DE X B P0 H0 W ρ false a d) (hb : DE X B P0 H0 W ρ false b .none) : DE X B P0 H0 W ρ m (.Compare a [.IsNot] [b] pos) (.bool (!isNone d)) := de_cmp op_notN ha hb od_notN (nomark _)
theorem dt_isN (ha : DE X B P0 H0 W ρ false a d) (hb : DE X B P0 H0 W ρ false b .none) : DT X B P0 H0 W ρ (.Compare a [.Is] [b] pos) (isNone d) := dt_cmp op_isN ha hb od_isN (nomark _)
theorem dt_notN (ha : DE X B P0 H0 W ρ false a d) (hb : DE X B P0 H0 W ρ false b .none) : DT X B P0 H0 W ρ (.Compare a [.IsNot] [b] pos) (!isNone d) := dt_cmp op_notN ha hb od_notN (nomark _)
/-- chains of ints -/
theorem de_chain {op op' : CmpOp} {g g' : Int → Int → Bool} {i j k : Int} (ho : OpR X (compareOp op) (rI0 fun i j => .bl (g i j))) (ho' : OpR X (compareOp op') (rI0 fun i j => .bl (g' i j))) (ha : DE X B P0 H0 W ρ false a (.int i)) (hb : DE X B P0 H0 W ρ false b (.int j)) (hc : DE X B P0 H0 W ρ false c (.int k))
    (hm : lastMarks [op, op'] [b, c] = false := by with_unfolding_all rfl) : DE X B P0 H0 W ρ m (.Compare a [op, op'] [b, c] pos) (.bool (g i j && g' j k)) := fun σ P H S Q q =>
  ⟨_, pe_chain ho ho' pe_u pe_u pe_u hm, ha σ P H S _ fun v P1 H1 g1 k1 => hb σ P1 H1 (S.grow g1) _ fun w P2 H2 g2 k2 => by
    cases k1
    cases k2
    refine ⟨i, j, rfl, rfl, g i j, rfl, ?_⟩
    cases hg : g i j with
    | true =>
      refine iteT (hc σ P2 H2 ((S.grow g1).grow g2) _ fun z P3 H3 g3 k3 => ?_)
      cases k3
      exact ⟨j, k, rfl, rfl, q _ P3 H3 ((g1.trans g2).trans g3) (by rw [hg, Bool.true_and]; exact .bl _)⟩
    | false => exact iteF (q _ P2 H2 (g1.trans g2) (by rw [hg, Bool.false_and]; exact .bl _))⟩
theorem dt_chain {op op' : CmpOp} {g g' : Int → Int → Bool} {i j k : Int} (ho : OpR X (compareOp op) (rI0 fun i j => .bl (g i j))) (ho' : OpR X (compareOp op') (rI0 fun i j => .bl (g' i j))) (ha : DE X B P0 H0 W ρ false a (.int i)) (hb : DE X B P0 H0 W ρ false b (.int j)) (hc : DE X B P0 H0 W ρ false c (.int k))
    (hm : lastMarks [op, op'] [b, c] = false := by with_unfolding_all rfl) : DT X B P0 H0 W ρ (.Compare a [op, op'] [b, c] pos) (g i j && g' j k) := fun σ P H S Q q =>
  ⟨_, pt_chain ho ho' pe_u pe_u pe_u hm, ha σ P H S _ fun v P1 H1 g1 k1 => hb σ P1 H1 (S.grow g1) _ fun w P2 H2 g2 k2 => by
    cases k1
    cases k2
    refine ⟨i, j, rfl, rfl, g i j, rfl, ?_⟩
    cases hg : g i j with
    | true =>
      refine iteT (hc σ P2 H2 ((S.grow g1).grow g2) _ fun z P3 H3 g3 k3 => ?_)
      cases k3
      exact ⟨j, k, rfl, rfl, _, rfl, by
        have z := q P3 H3 ((g1.trans g2).trans g3)
        rw [hg, Bool.true_and] at z
        exact z⟩
    | false => exact iteF ⟨_, rfl, by
        have z := q P2 H2 (g1.trans g2)
        rw [hg, Bool.false_and] at z
        exact z⟩⟩

/-! ### and, or, not -/
theorem dw_and1 {k : Bool} (h : DT X B P0 H0 W ρ a k) : DW X B P0 H0 W ρ (.BoolOp .And [a] pos) k := fun σ P H S Q q => ⟨_, pw_and1 pt_u, h σ P H S Q q⟩
theorem dw_or1 {k : Bool} (h : DT X B P0 H0 W ρ a k) : DW X B P0 H0 W ρ (.BoolOp .Or [a] pos) k := fun σ P H S Q q => ⟨_, pw_or1 pt_u, h σ P H S Q q⟩
theorem dw_and {k l : Bool} (h : DT X B P0 H0 W ρ a k) (h' : k = true → DW X B P0 H0 W ρ (.BoolOp .And (b :: es) pos) l) : DW X B P0 H0 W ρ (.BoolOp .And (a :: b :: es) pos) (k && l) := fun σ P H S Q q =>
  ⟨_, pw_and pt_u pw_u, h σ P H S _ fun P1 H1 g1 => by
    cases k with
    | true => exact iteT (h' rfl σ P1 H1 (S.grow g1) _ fun P2 H2 g2 => by simpa using q P2 H2 (g1.trans g2))
    | false => exact iteF (by simpa using q P1 H1 g1)⟩
theorem dw_or {k l : Bool} (h : DT X B P0 H0 W ρ a k) (h' : k = false → DW X B P0 H0 W ρ (.BoolOp .Or (b :: es) pos) l) : DW X B P0 H0 W ρ (.BoolOp .Or (a :: b :: es) pos) (k || l) := fun σ P H S Q q =>
  ⟨_, pw_or pt_u pw_u, h σ P H S _ fun P1 H1 g1 => by
    cases k with
    | true => exact iteT (by simpa using q P1 H1 g1)
    | false => exact iteF (h' rfl σ P1 H1 (S.grow g1) _ fun P2 H2 g2 => by simpa using q P2 H2 (g1.trans g2))⟩
theorem dt_w {k : Bool} (h : DW X B P0 H0 W ρ e k) : DT X B P0 H0 W ρ e k := fun σ P H S Q q => ⟨_, pw_u.pt, h σ P H S Q q⟩
theorem dt_not {k : Bool} (h : DT X B P0 H0 W ρ a k) : DT X B P0 H0 W ρ (.UnaryOp .Not a pos) (!k) := fun σ P H S Q q => ⟨_, pt_not pt_u, h σ P H S _ fun P1 H1 g1 => q P1 H1 g1⟩
theorem de_one {op} (h : DE X B P0 H0 W ρ m a d) : DE X B P0 H0 W ρ m (.BoolOp op [a] pos) d := fun σ P H S Q q => ⟨_, pe_one pe_u, h σ P H S Q q⟩
theorem de_and {k l : Bool} (h : DE X B P0 H0 W ρ false a (.bool k)) (h' : k = true → DE X B P0 H0 W ρ false (.BoolOp .And (b :: es) pos) (.bool l)) : DE X B P0 H0 W ρ m (.BoolOp .And (a :: b :: es) pos) (.bool (k && l)) := fun σ P H S Q q =>
  ⟨_, pe_and pe_u pe_u, h σ P H S _ fun v P1 H1 g1 k1 => by
    cases k1
    refine ⟨k, rfl, ?_⟩
    cases k with
    | true =>
      refine iteT (h' rfl σ P1 H1 (S.grow g1) _ fun v P2 H2 g2 k2 => ?_)
      cases k2
      exact q _ P2 H2 (g1.trans g2) (.bl _)
    | false => exact iteF (q _ P1 H1 g1 (.bl _))⟩
theorem de_or {k l : Bool} (h : DE X B P0 H0 W ρ false a (.bool k)) (h' : k = false → DE X B P0 H0 W ρ false (.BoolOp .Or (b :: es) pos) (.bool l)) : DE X B P0 H0 W ρ m (.BoolOp .Or (a :: b :: es) pos) (.bool (k || l)) := fun σ P H S Q q =>
  ⟨_, pe_or pe_u pe_u, h σ P H S _ fun v P1 H1 g1 k1 => by
    cases k1
    refine ⟨k, rfl, ?_⟩
    cases k with
    | true => exact iteT (q _ P1 H1 g1 (.bl _))
    | false =>
      refine iteF (h' rfl σ P1 H1 (S.grow g1) _ fun v P2 H2 g2 k2 => ?_)
      cases k2
      exact q _ P2 H2 (g1.trans g2) (.bl _)⟩
theorem de_not {k : Bool} (h : DE X B P0 H0 W ρ false a (.bool k)) : DE X B P0 H0 W ρ m (.UnaryOp .Not a pos) (.bool (!k)) := fun σ P H S Q q =>
  ⟨_, pe_not pe_u, h σ P H S _ fun v P1 H1 g1 k1 => by
    cases k1
    exact ⟨k, rfl, q _ P1 H1 g1 (.bl _)⟩⟩
theorem de_if {k : Bool} (h : DT X B P0 H0 W ρ c k) (h1 : k = true → DE X B P0 H0 W ρ m a d) (h2 : k = false → DE X B P0 H0 W ρ m b d) : DE X B P0 H0 W ρ m (.IfExp c a b pos) d := fun σ P H S Q q =>
  ⟨_, pe_ifExp pt_u pe_u pe_u, h σ P H S _ fun P1 H1 g1 => by
    cases k with
    | true => exact iteT (h1 rfl σ P1 H1 (S.grow g1) Q fun v P2 H2 g2 k2 => q v P2 H2 (g1.trans g2) k2)
    | false => exact iteF (h2 rfl σ P1 H1 (S.grow g1) Q fun v P2 H2 g2 k2 => q v P2 H2 (g1.trans g2) k2)⟩
theorem de_ite {k : Bool} (h : DT X B P0 H0 W ρ c k) (h1 : k = true → DE X B P0 H0 W ρ m a d1) (h2 : k = false → DE X B P0 H0 W ρ m b d2) : DE X B P0 H0 W ρ m (.IfExp c a b pos) (if k = true then d1 else d2) := de_if h (fun e => by rw [if_pos e]; exact h1 e) (fun e => by rw [e, if_neg Bool.false_ne_true]; exact h2 e)

/-! ### arguments, displays -/
theorem da_nil : DA X B P0 H0 W ρ m [] [] := fun σ P H S Q q => ⟨_, pa_nil, q _ P H (gr_refl S) .nil⟩
theorem da_cons (h : DE X B P0 H0 W ρ m e d) (h' : DA X B P0 H0 W ρ m es ds) (hs : starEach (e :: es) X.env = (false, eval e X.env) :: starEach es X.env := by rfl) : DA X B P0 H0 W ρ m (e :: es) (d :: ds) := fun σ P H S Q q =>
  ⟨_, pa_cons pe_u pa_u hs, h σ P H S _ fun v P1 H1 g1 k1 => h' σ P1 H1 (S.grow g1) _ fun vs P2 H2 g2 k2 => q _ P2 H2 (g1.trans g2) (.cons (dq_mono (vw_mono g2) _ _ k1) k2)⟩
theorem de_tup {x1} (h : DA X B P0 H0 W ρ m es ds) (hl : ds.length ≤ sizeLine := by exact Nat.le_of_ble_eq_true rfl) : DE X B P0 H0 W ρ m (.Tuple es x1 pos) (.tuple ds) := fun σ P H S Q q =>
  ⟨_, pe_tup pa_u, h σ P H S _ fun vs P1 H1 g1 k1 => ⟨by rw [k1.len]; exact hl, fun p hp => q _ _ _ (g1.trans (Gr.new (S.gr.trans g1).ph hp)) (.tup (vw_new (S.gr.trans g1) hp) (dqAll_mono (vw_mono (Gr.new (S.gr.trans g1).ph hp)) _ _ k1))⟩⟩
theorem de_lst (h : DA X B P0 H0 W ρ m es ds) (hl : ds.length ≤ sizeLine := by exact Nat.le_of_ble_eq_true rfl) : DE X B P0 H0 W ρ m (.List es pos) (.list ds) := fun σ P H S Q q =>
  ⟨_, pe_lst pa_u, h σ P H S _ fun vs P1 H1 g1 k1 => ⟨by rw [k1.len]; exact hl, fun p hp => q _ _ _ (g1.trans (Gr.new (S.gr.trans g1).ph hp)) (.lst (vw_new (S.gr.trans g1) hp) (dqAll_mono (vw_mono (Gr.new (S.gr.trans g1).ph hp)) _ _ k1))⟩⟩
/-- a new list or tuple by a value rule -/
theorem new_lst {P H : Hp} {vs : List V} (gr : Gr P0 H0 P H) (k : DqAll (vw m P0 H0 P H) vs ds) {Q : VK} (q : ∀ z P' H', Gr P H P' H' → Dq (vw m P0 H0 P' H') z (.list ds) → Q z H') : ∀ p, H p = Option.none → Q (.ref p) (upd H p (.lst vs)) := fun p hp =>
  q _ _ _ (Gr.new gr.ph hp) (.lst (vw_new gr hp) (dqAll_mono (vw_mono (Gr.new gr.ph hp)) _ _ k))
theorem new_tup {P H : Hp} {vs : List V} (gr : Gr P0 H0 P H) (k : DqAll (vw m P0 H0 P H) vs ds) {Q : VK} (q : ∀ z P' H', Gr P H P' H' → Dq (vw m P0 H0 P' H') z (.tuple ds) → Q z H') : ∀ p, H p = Option.none → Q (.ref p) (upd H p (.tup vs)) := fun p hp =>
  q _ _ _ (Gr.new gr.ph hp) (.tup (vw_new gr hp) (dqAll_mono (vw_mono (Gr.new gr.ph hp)) _ _ k))

/-! ### calls of built-ins -/
theorem de_biM {x : Str} {id : String} {r} (hc : CallR X (.builtin id) r) (hm : X.mg x = Option.none) (hv : bootBuiltins x = some (.builtin id)) (ha : DA X B P0 H0 W ρ m1 (e :: es) ds) (hr : BiD P0 H0 m1 m r ds d) (hg : Gl X x := by rfl) (hn : x ≠ "__name__" := by decide) (hdb : (x == ("__debug__" : Str)) = false := by decide)
    (he : starEach (e :: es) X.env = (false, eval e X.env) :: starEach es X.env := by rfl) (hpl : (backTo pos (starEach es X.env)).any (·.1) = false := by rfl) : DE X B P0 H0 W ρ m (.Call (.Name x p1) (e :: es) [] pos) d := fun σ P H S Q q =>
  ⟨_, pe_callB hc hg hm hv pa_u hn hdb he hpl, ha σ P H S _ fun vs P1 H1 g1 k1 => hr P1 H1 S.e0 (S.gr.trans g1) vs k1 Q fun z P2 H2 g2 k2 => q z P2 H2 (g1.trans g2) k2⟩
theorem de_tyM {x : Str} {T : String} {r} (hc : CallR X (.type T) r) (hm : X.mg x = Option.none) (hv : bootBuiltins x = some (.type T)) (ha : DA X B P0 H0 W ρ m1 (e :: es) ds) (hr : BiD P0 H0 m1 m r ds d) (hg : Gl X x := by rfl) (hn : x ≠ "__name__" := by decide) (hdb : (x == ("__debug__" : Str)) = false := by decide)
    (he : starEach (e :: es) X.env = (false, eval e X.env) :: starEach es X.env := by rfl) (hpl : (backTo pos (starEach es X.env)).any (·.1) = false := by rfl) : DE X B P0 H0 W ρ m (.Call (.Name x p1) (e :: es) [] pos) d := fun σ P H S Q q =>
  ⟨_, pe_callTy hc hg hm hv pa_u hn hdb he hpl, ha σ P H S _ fun vs P1 H1 g1 k1 => hr P1 H1 S.e0 (S.gr.trans g1) vs k1 Q fun z P2 H2 g2 k2 => q z P2 H2 (g1.trans g2) k2⟩
theorem bd_lo {r : List V → Hp → VK → Prop} (h : BiD P0 H0 true true r ds d) : BiD P0 H0 true m r ds d := fun P H e0 gr vs k Q q => h P H e0 gr vs k Q fun z P' H' g k' => q z P' H' g (dq_mono (vw_up e0 (gr.trans g)) _ _ k')
/-- the arguments as they stand (the answer a scalar, or as it stands) -/
theorem de_bi {x : Str} {id : String} {r} (hc : CallR X (.builtin id) r) (hm : X.mg x = Option.none) (hv : bootBuiltins x = some (.builtin id)) (ha : DA X B P0 H0 W ρ false (e :: es) ds) (hr : BiD P0 H0 false m r ds d) (hg : Gl X x := by rfl) (hn : x ≠ "__name__" := by decide) (hdb : (x == ("__debug__" : Str)) = false := by decide)
    (he : starEach (e :: es) X.env = (false, eval e X.env) :: starEach es X.env := by rfl) (hpl : (backTo pos (starEach es X.env)).any (·.1) = false := by rfl) : DE X B P0 H0 W ρ m (.Call (.Name x p1) (e :: es) [] pos) d := de_biM hc hm hv ha hr hg hn hdb he hpl
theorem de_ty {x : Str} {T : String} {r} (hc : CallR X (.type T) r) (hm : X.mg x = Option.none) (hv : bootBuiltins x = some (.type T)) (ha : DA X B P0 H0 W ρ false (e :: es) ds) (hr : BiD P0 H0 false m r ds d) (hg : Gl X x := by rfl) (hn : x ≠ "__name__" := by decide) (hdb : (x == ("__debug__" : Str)) = false := by decide)
    (he : starEach (e :: es) X.env = (false, eval e X.env) :: starEach es X.env := by rfl) (hpl : (backTo pos (starEach es X.env)).any (·.1) = false := by rfl) : DE X B P0 H0 W ρ m (.Call (.Name x p1) (e :: es) [] pos) d := de_tyM hc hm hv ha hr hg hn hdb he hpl
/-- the arguments kept for good, the answer too -/
theorem de_biT {x : Str} {id : String} {r} (hc : CallR X (.builtin id) r) (hm : X.mg x = Option.none) (hv : bootBuiltins x = some (.builtin id)) (ha : DA X B P0 H0 W ρ true (e :: es) ds) (hr : BiD P0 H0 true true r ds d) (hg : Gl X x := by rfl) (hn : x ≠ "__name__" := by decide) (hdb : (x == ("__debug__" : Str)) = false := by decide)
    (he : starEach (e :: es) X.env = (false, eval e X.env) :: starEach es X.env := by rfl) (hpl : (backTo pos (starEach es X.env)).any (·.1) = false := by rfl) : DE X B P0 H0 W ρ m (.Call (.Name x p1) (e :: es) [] pos) d := de_biM hc hm hv ha (bd_lo hr) hg hn hdb he hpl
theorem de_tyT {x : Str} {T : String} {r} (hc : CallR X (.type T) r) (hm : X.mg x = Option.none) (hv : bootBuiltins x = some (.type T)) (ha : DA X B P0 H0 W ρ true (e :: es) ds) (hr : BiD P0 H0 true true r ds d) (hg : Gl X x := by rfl) (hn : x ≠ "__name__" := by decide) (hdb : (x == ("__debug__" : Str)) = false := by decide)
    (he : starEach (e :: es) X.env = (false, eval e X.env) :: starEach es X.env := by rfl) (hpl : (backTo pos (starEach es X.env)).any (·.1) = false := by rfl) : DE X B P0 H0 W ρ m (.Call (.Name x p1) (e :: es) [] pos) d := de_tyM hc hm hv ha (bd_lo hr) hg hn hdb he hpl
end
end Dw

namespace Dw
open PySem PySem.Spec PyProof.Rows L2
section
variable {X : Cx} {B P0 H0 : Hp} {W : List (Addr × Ob)} {ρ : List Sl} {m m1 m2 : Bool} {a b c e : Expr} {es : List Expr} {pos p1 p2 : Pos} {d d1 d2 d3 : PyData} {ds es' : List PyData} {D : Ends} {rest : List Stmt}
/-! ### lists and tuples by values -/
theorem bd_lenL : BiD P0 H0 m1 m (fun xs H Q => ∃ p ys, xs = [.ref p] ∧ (SqL X.K H p ys ∨ SqT X.K H p ys) ∧ Q (.int ys.length) H) [.list ds] (.int ds.length) := fun P H e0 gr vs k Q q => by
  cases k with
  | cons k kn =>
    cases kn
    cases k with
    | lst h ha => exact ⟨_, _, rfl, .inl (SqL.of (vw_hp e0 gr _ _ h)), by rw [ha.len]; exact q _ P H (Gr.refl gr.ph) (.int _)⟩
theorem bd_lenT : BiD P0 H0 m1 m (fun xs H Q => ∃ p ys, xs = [.ref p] ∧ (SqL X.K H p ys ∨ SqT X.K H p ys) ∧ Q (.int ys.length) H) [.tuple ds] (.int ds.length) := fun P H e0 gr vs k Q q => by
  cases k with
  | cons k kn =>
    cases kn
    cases k with
    | tup h ha => exact ⟨_, _, rfl, .inr (SqT.of (vw_hp e0 gr _ _ h)), by rw [ha.len]; exact q _ P H (Gr.refl gr.ph) (.int _)⟩
theorem bd_lenS {x : Str} (hx : x.length ≤ sizeLine) : BiD P0 H0 m1 m (fun xs H Q => ∃ z, xs = [.str z] ∧ z.length ≤ sizeLine ∧ Q (.int z.length) H) [.str x] (.int x.length) := fun P H e0 gr vs k Q q => by
  cases k with
  | cons k kn =>
    cases kn
    cases k
    exact ⟨x, rfl, hx, q _ P H (Gr.refl gr.ph) (.int _)⟩
theorem bd_sum {ns : List Int} : BiD P0 H0 m1 m (rSum X.K) [.list (ns.map .int)] (.int ns.sum) := fun P H e0 gr vs k Q q => by
  cases k with
  | cons k kn =>
    cases kn
    cases k with
    | lst h ha =>
      have e := ha.ints
      subst e
      exact ⟨_, ns, rfl, SqL.of (vw_hp e0 gr _ _ h), q _ P H (Gr.refl gr.ph) (.int _)⟩
theorem bd_max {ns : List Int} {z : Int} (hn : 0 < ns.length) (hz : ∀ k, k ∈ ns → (∀ y, y ∈ ns → y ≤ k) → k = z) : BiD P0 H0 m1 m (rMax X.K) [.list (ns.map .int)] (.int z) := fun P H e0 gr vs k Q q => by
  cases k with
  | cons k kn =>
    cases kn
    cases k with
    | lst h ha =>
      have e := ha.ints
      subst e
      exact ⟨_, ns, rfl, SqL.of (vw_hp e0 gr _ _ h), hn, fun k h1 h2 => by rw [hz k h1 h2]; exact q _ P H (Gr.refl gr.ph) (.int _)⟩
theorem bd_min {ns : List Int} {z : Int} (hn : 0 < ns.length) (hz : ∀ k, k ∈ ns → (∀ y, y ∈ ns → k ≤ y) → k = z) : BiD P0 H0 m1 m (rMin X.K) [.list (ns.map .int)] (.int z) := fun P H e0 gr vs k Q q => by
  cases k with
  | cons k kn =>
    cases kn
    cases k with
    | lst h ha =>
      have e := ha.ints
      subst e
      exact ⟨_, ns, rfl, SqL.of (vw_hp e0 gr _ _ h), hn, fun k h1 h2 => by rw [hz k h1 h2]; exact q _ P H (Gr.refl gr.ph) (.int _)⟩
theorem bd_all {bs : List Bool} : BiD P0 H0 m1 m (rAll X.K) [.list (bs.map .bool)] (.bool (bs.all id)) := fun P H e0 gr vs k Q q => by
  cases k with
  | cons k kn =>
    cases kn
    cases k with
    | lst h ha =>
      have e := ha.bls
      subst e
      exact ⟨_, bs, rfl, SqL.of (vw_hp e0 gr _ _ h), q _ P H (Gr.refl gr.ph) (.bl _)⟩
theorem bd_sorted {ns zs : List Int} (hz : ∀ l : List Int, l.Perm ns → l.Pairwise (· ≤ ·) → l = zs) : BiD P0 H0 m1 m (rSortedI X.K) [.list (ns.map .int)] (.list (zs.map .int)) := fun P H e0 gr vs k Q q => by
  cases k with
  | cons k kn =>
    cases kn
    cases k with
    | lst h ha =>
      have e := ha.ints
      subst e
      refine ⟨_, ns, rfl, SqL.of (vw_hp e0 gr _ _ h), fun ns' p h1 h2 => ?_⟩
      rw [hz ns' h1 h2]
      exact new_lst gr (DqAll.ofInts zs) q p
theorem bd_tupL : BiD P0 H0 m m (fun xs H Q => ∃ p ys, xs = [.ref p] ∧ ((SqL X.K H p ys ∧ ∀ l, H l = none → Q (.ref l) (upd H l (.tup ys))) ∨ (SqT X.K H p ys ∧ Q (.ref p) H))) [.list ds] (.tuple ds) := fun P H e0 gr vs k Q q => by
  cases k with
  | cons k kn =>
    cases kn
    cases k with
    | lst h ha => exact ⟨_, _, rfl, .inl ⟨SqL.of (vw_hp e0 gr _ _ h), new_tup gr ha q⟩⟩
theorem bd_listL : BiD P0 H0 m m (fun xs H Q => ∃ p ys, xs = [.ref p] ∧ (SqL X.K H p ys ∨ SqT X.K H p ys) ∧ ∀ l, H l = none → Q (.ref l) (upd H l (.lst ys))) [.list ds] (.list ds) := fun P H e0 gr vs k Q q => by
  cases k with
  | cons k kn =>
    cases kn
    cases k with
    | lst h ha => exact ⟨_, _, rfl, .inl (SqL.of (vw_hp e0 gr _ _ h)), new_lst gr ha q⟩
theorem bd_listT : BiD P0 H0 m m (fun xs H Q => ∃ p ys, xs = [.ref p] ∧ (SqL X.K H p ys ∨ SqT X.K H p ys) ∧ ∀ l, H l = none → Q (.ref l) (upd H l (.lst ys))) [.tuple ds] (.list ds) := fun P H e0 gr vs k Q q => by
  cases k with
  | cons k kn =>
    cases kn
    cases k with
    | tup h ha => exact ⟨_, _, rfl, .inr (SqT.of (vw_hp e0 gr _ _ h)), new_lst gr ha q⟩
/-- scalar items tell the same everywhere -/
theorem dqAll_scal {H H' : Hp} : ∀ {ds : List PyData} {vs : List V}, ds.all scalD = true → DqAll H vs ds → DqAll H' vs ds
  | [], _, _, h => by cases h; exact .nil
  | d :: ds, _, hs, h => by
    rw [List.all_cons, Bool.and_eq_true] at hs
    cases h with
    | cons h1 h2 => exact .cons (dq_scal hs.1 h1) (dqAll_scal hs.2 h2)
theorem all_ints (ns : List Int) : (ns.map PyData.int).all scalD = true := by
  rw [List.all_map]
  exact List.all_eq_true.mpr fun _ _ => rfl
theorem all_bools (ns : List Bool) : (ns.map PyData.bool).all scalD = true := by
  rw [List.all_map]
  exact List.all_eq_true.mpr fun _ _ => rfl
theorem od_cat (hl : ds.length + es'.length ≤ sizeLine) : OpD P0 H0 m m m rCat (.list ds) (.list es') (.list (ds ++ es')) := fun P H e0 gr v w k1 k2 Q q => by
  cases k1 with
  | lst h1 a1 =>
    cases k2 with
    | lst h2 a2 => exact ⟨_, _, _, _, rfl, rfl, vw_hp e0 gr _ _ h1, vw_hp e0 gr _ _ h2, by rw [a1.len, a2.len]; exact hl, new_lst gr (a1.app a2) q⟩
theorem od_catS (hl : ds.length + es'.length ≤ sizeLine) (s1 : ds.all scalD = true) (s2 : es'.all scalD = true) : OpD P0 H0 m1 m2 m rCat (.list ds) (.list es') (.list (ds ++ es')) := fun P H e0 gr v w k1 k2 Q q => by
  cases k1 with
  | lst h1 a1 =>
    cases k2 with
    | lst h2 a2 => exact ⟨_, _, _, _, rfl, rfl, vw_hp e0 gr _ _ h1, vw_hp e0 gr _ _ h2, by rw [a1.len, a2.len]; exact hl, new_lst gr (dqAll_scal (by rw [List.all_append, s1, s2]; rfl) (DqAll.app (dqAll_scal (H' := P) s1 a1) (dqAll_scal s2 a2))) q⟩
theorem de_cat (ha : DE X B P0 H0 W ρ m a (.list ds)) (hb : DE X B P0 H0 W ρ m b (.list es')) (hl : ds.length + es'.length ≤ sizeLine) : DE X B P0 H0 W ρ m (.BinOp a .Add b pos) (.list (ds ++ es')) := de_op op_cat ha hb (od_cat hl)
theorem de_catS (ha : DE X B P0 H0 W ρ false a (.list ds)) (hb : DE X B P0 H0 W ρ false b (.list es')) (hl : ds.length + es'.length ≤ sizeLine) (s1 : ds.all scalD = true) (s2 : es'.all scalD = true) : DE X B P0 H0 W ρ m (.BinOp a .Add b pos) (.list (ds ++ es')) := de_op op_cat ha hb (od_catS hl s1 s2)
theorem rep1 {α : Type} (n : Nat) (v : α) : (List.replicate n [v]).flatten = List.replicate n v := by
  induction n with
  | zero => rfl
  | succ n ih => rw [List.replicate_succ, List.flatten_cons, ih, List.replicate_succ]; rfl
theorem od_rep1 {n : Int} (hn : n < 2 ^ 63 ∧ -(2 ^ 63) ≤ n) (hl : n.toNat ≤ sizeLine) (hs : scalD d = true) : OpD P0 H0 m1 m2 m rRep (.list [d]) (.int n) (.list (List.replicate n.toNat d)) := fun P H e0 gr v w k1 k2 Q q => by
  cases k1 with
  | lst h1 a1 =>
    cases k2
    cases a1 with
    | cons r rn =>
      cases rn
      refine ⟨_, n, _, rfl, rfl, vw_hp e0 gr _ _ h1, hn.2, hn.1, by simpa using hl, ?_⟩
      rw [rep1]
      exact new_lst gr (DqAll.rep (dq_scal hs r) _) q
theorem de_rep1 {n : Int} (ha : DE X B P0 H0 W ρ false a (.list [d])) (hb : DE X B P0 H0 W ρ false b (.int n)) (hn : n < 2 ^ 63 ∧ -(2 ^ 63) ≤ n) (hl : n.toNat ≤ sizeLine) (hs : scalD d = true := by rfl) : DE X B P0 H0 W ρ m (.BinOp a .Mult b pos) (.list (List.replicate n.toNat d)) := de_op op_rep ha hb (od_rep1 hn hl hs)
theorem od_catT (hl : ds.length + es'.length ≤ sizeLine) : OpD P0 H0 m m m (rCatA X.K) (.tuple ds) (.tuple es') (.tuple (ds ++ es')) := fun P H e0 gr v w k1 k2 Q q => by
  cases k1 with
  | tup h1 a1 =>
    cases k2 with
    | tup h2 a2 =>
      refine ⟨_, _, _, _, rfl, rfl, SqT.of (vw_hp e0 gr _ _ h1), SqT.of (vw_hp e0 gr _ _ h2), by rw [a1.len, a2.len]; exact hl, fun ex => ?_, fun _ ey => ?_, fun _ _ => new_tup gr (a1.app a2) q⟩
      · subst ex
        have z : ds = [] := List.length_eq_zero_iff.mp (by rw [← a1.len]; rfl)
        subst z
        exact q _ P H (Gr.refl gr.ph) (.tup h2 a2)
      · subst ey
        have z : es' = [] := List.length_eq_zero_iff.mp (by rw [← a2.len]; rfl)
        subst z
        rw [List.append_nil] at q
        exact q _ P H (Gr.refl gr.ph) (.tup h1 a1)
theorem de_catT (ha : DE X B P0 H0 W ρ m a (.tuple ds)) (hb : DE X B P0 H0 W ρ m b (.tuple es')) (hl : ds.length + es'.length ≤ sizeLine) : DE X B P0 H0 W ρ m (.BinOp a .Add b pos) (.tuple (ds ++ es')) := de_op op_catA ha hb (od_catT hl)
/-! ### items, slices -/
theorem at_get {α : Type} {xs : List α} {ds : List PyData} {i : Int} {d : PyData} (hl : xs.length = ds.length) (h : atI ds i = some d) : ∃ j : Nat, ds[j]? = some d ∧ ∀ v, xs[j]? = some v → atI xs i = some v := by
  unfold atI at h ⊢
  rw [hl]
  cases e : ixN ds.length i with
  | none => rw [e] at h; cases h
  | some j =>
    rw [e] at h
    exact ⟨j, h, fun v hv => hv⟩
theorem de_ixL {i : Int} (ha : DE X B P0 H0 W ρ m a (.list ds)) (hb : DE X B P0 H0 W ρ false b (.int i)) (hi : atI ds i = some d) (hs : PlainIx b := by exact fun _ _ => rfl) : DE X B P0 H0 W ρ m (.Subscript a b pos) d := fun σ P H S Q q =>
  ⟨_, pe_ix ix_list pe_u pe_u hs, ha σ P H S _ fun v P1 H1 g1 k1 => hb σ P1 H1 (S.grow g1) _ fun w P2 H2 g2 k2 => by
    cases k2
    have k1' := dq_mono (vw_mono g2) _ _ k1
    cases k1' with
    | lst h ha' =>
      obtain ⟨j, e1, e2⟩ := at_get ha'.len hi
      obtain ⟨v, h1, h2⟩ := ha'.get e1
      exact ⟨_, _, i, v, rfl, rfl, SqL.of (vw_hp S.e0 (S.gr.trans (g1.trans g2)) _ _ h), e2 v h1, q v P2 H2 (g1.trans g2) h2⟩⟩
theorem de_ixT {i : Int} (ha : DE X B P0 H0 W ρ m a (.tuple ds)) (hb : DE X B P0 H0 W ρ false b (.int i)) (hi : atI ds i = some d) (hs : PlainIx b := by exact fun _ _ => rfl) : DE X B P0 H0 W ρ m (.Subscript a b pos) d := fun σ P H S Q q =>
  ⟨_, pe_ix ix_tup pe_u pe_u hs, ha σ P H S _ fun v P1 H1 g1 k1 => hb σ P1 H1 (S.grow g1) _ fun w P2 H2 g2 k2 => by
    cases k2
    have k1' := dq_mono (vw_mono g2) _ _ k1
    cases k1' with
    | tup h ha' =>
      obtain ⟨j, e1, e2⟩ := at_get ha'.len hi
      obtain ⟨v, h1, h2⟩ := ha'.get e1
      exact ⟨_, _, i, v, rfl, rfl, SqT.of (vw_hp S.e0 (S.gr.trans (g1.trans g2)) _ _ h), e2 v h1, q v P2 H2 (g1.trans g2) h2⟩⟩
/-- a part of a slice -/
def uO (X : Cx) (o : Option Expr) : TO := fun σ H Q => ∃ t, PO X o t ∧ t σ H Q
theorem po_u {o : Option Expr} : PO X o (uO X o) := ⟨fun pins s σ H Q I ⟨t, ht, h⟩ => ht.run pins s σ H Q I h⟩
def DO (X : Cx) (B P0 H0 : Hp) (W : List (Addr × Ob)) (ρ : List Sl) (o : Option Expr) (i : Option Int) : Prop := ∀ σ P H, Sat B P0 H0 W ρ σ P H → ∀ Q : Option Int → Hp → Prop, (∀ P' H', Gr P H P' H' → Q i H') → uO X o σ H Q
theorem do_no : DO X B P0 H0 W ρ none none := fun σ P H S Q q => ⟨_, po_none, q P H (gr_refl S)⟩
theorem do_at {i : Int} (h : DE X B P0 H0 W ρ false e (.int i)) : DO X B P0 H0 W ρ (some e) (some i) := fun σ P H S Q q =>
  ⟨_, po_some pe_u, h σ P H S _ fun v P1 H1 g1 k1 => by
    cases k1
    exact ⟨i, rfl, q P1 H1 g1⟩⟩
def cutD (ds : List PyData) (lo hi : Option Int) : List PyData := (ds.drop (HT.sIx ds.length 0 lo)).take (HT.sIx ds.length ds.length hi - HT.sIx ds.length 0 lo)
theorem DqAll.cut {H : Hp} {vs : List V} (lo hi : Option Int) (h : DqAll H vs ds) : DqAll H (cutV vs lo hi) (cutD ds lo hi) := by
  unfold cutV cutD
  rw [h.len]
  exact (h.drop _).take _
theorem de_slL {lo hi : Option Expr} {i j : Option Int} (ha : DE X B P0 H0 W ρ m a (.list ds)) (hl : DO X B P0 H0 W ρ lo i) (hh : DO X B P0 H0 W ρ hi j) : DE X B P0 H0 W ρ m (.Subscript a (.Slice lo hi none p2) pos) (.list (cutD ds i j)) := fun σ P H S Q q =>
  ⟨_, pe_slice sl_list pe_u po_u po_u, ha σ P H S _ fun v P1 H1 g1 k1 => hl σ P1 H1 (S.grow g1) _ fun P2 H2 g2 => hh σ P2 H2 ((S.grow g1).grow g2) _ fun P3 H3 g3 => by
    have k1' := dq_mono (vw_mono (g2.trans g3)) _ _ k1
    have gr := S.gr.trans (g1.trans (g2.trans g3))
    cases k1' with
    | lst h ha' => exact ⟨_, _, rfl, SqL.of (vw_hp S.e0 gr _ _ h), new_lst gr (ha'.cut i j) fun z P4 H4 g4 k4 => q z P4 H4 ((g1.trans (g2.trans g3)).trans g4) k4⟩⟩
/-- of one's own list with scalar items -/
theorem de_slS {lo hi : Option Expr} {i j : Option Int} (ha : DE X B P0 H0 W ρ false a (.list ds)) (hl : DO X B P0 H0 W ρ lo i) (hh : DO X B P0 H0 W ρ hi j) (hs : (cutD ds i j).all scalD = true) : DE X B P0 H0 W ρ m (.Subscript a (.Slice lo hi none p2) pos) (.list (cutD ds i j)) := fun σ P H S Q q =>
  ⟨_, pe_slice sl_list pe_u po_u po_u, ha σ P H S _ fun v P1 H1 g1 k1 => hl σ P1 H1 (S.grow g1) _ fun P2 H2 g2 => hh σ P2 H2 ((S.grow g1).grow g2) _ fun P3 H3 g3 => by
    have k1' := dq_mono (vw_mono (g2.trans g3)) _ _ k1
    have gr := S.gr.trans (g1.trans (g2.trans g3))
    cases k1' with
    | lst h ha' => exact ⟨_, _, rfl, SqL.of (vw_hp S.e0 gr _ _ h), new_lst gr (dqAll_scal hs (ha'.cut i j)) fun z P4 H4 g4 k4 => q z P4 H4 ((g1.trans (g2.trans g3)).trans g4) k4⟩⟩
theorem cut_all {s : PyData → Bool} (i j : Option Int) (h : ds.all s = true) : (cutD ds i j).all s = true := by
  rw [List.all_eq_true] at h ⊢
  intro x hx
  exact h x (List.mem_of_mem_drop (List.mem_of_mem_take hx))
/-! ### in -/
theorem inV_ints {H : Hp} (i : Int) (ns : List Int) : inV (.int i) (ns.map V.int) = decide (i ∈ ns) := by
  induction ns with
  | nil => rfl
  | cons n ns ih =>
    unfold inV at ih ⊢
    rw [List.map_cons, List.any_cons, ih]
    show ((n == i) || decide (i ∈ ns)) = decide (i ∈ n :: ns)
    by_cases e : n = i
    · subst e; simp
    · have e' : ¬ i = n := fun z => e z.symm
      simp [e, e']
theorem flat_ints (ns : List Int) : (ns.map V.int).all flatV = true := by
  rw [List.all_map]
  exact List.all_eq_true.mpr fun _ _ => rfl
theorem od_inI {i : Int} {ns : List Int} : OpD P0 H0 m1 m2 m (rIn X.K false) (.int i) (.list (ns.map .int)) (.bool (decide (i ∈ ns))) := fun P H e0 gr v w k1 k2 Q q => by
  cases k1
  cases k2 with
  | lst h ha =>
    have e := ha.ints
    subst e
    refine ⟨_, _, rfl, .inl (SqL.of (vw_hp e0 gr _ _ h)), rfl, flat_ints ns, ?_⟩
    rw [inV_ints (H := H)]
    exact q _ P H (Gr.refl gr.ph) (.bl _)
theorem od_inIT {i : Int} {ns : List Int} : OpD P0 H0 m1 m2 m (rIn X.K false) (.int i) (.tuple (ns.map .int)) (.bool (decide (i ∈ ns))) := fun P H e0 gr v w k1 k2 Q q => by
  cases k1
  cases k2 with
  | tup h ha =>
    have e := ha.ints
    subst e
    refine ⟨_, _, rfl, .inr (SqT.of (vw_hp e0 gr _ _ h)), rfl, flat_ints ns, ?_⟩
    rw [inV_ints (H := H)]
    exact q _ P H (Gr.refl gr.ph) (.bl _)
theorem od_ninI {i : Int} {ns : List Int} : OpD P0 H0 m1 m2 m (rIn X.K true) (.int i) (.list (ns.map .int)) (.bool (!decide (i ∈ ns))) := fun P H e0 gr v w k1 k2 Q q => by
  cases k1
  cases k2 with
  | lst h ha =>
    have e := ha.ints
    subst e
    refine ⟨_, _, rfl, .inl (SqL.of (vw_hp e0 gr _ _ h)), rfl, flat_ints ns, ?_⟩
    rw [inV_ints (H := H)]
    exact q _ P H (Gr.refl gr.ph) (.bl _)
theorem od_ninIT {i : Int} {ns : List Int} : OpD P0 H0 m1 m2 m (rIn X.K true) (.int i) (.tuple (ns.map .int)) (.bool (!decide (i ∈ ns))) := fun P H e0 gr v w k1 k2 Q q => by
  cases k1
  cases k2 with
  | tup h ha =>
    have e := ha.ints
    subst e
    refine ⟨_, _, rfl, .inr (SqT.of (vw_hp e0 gr _ _ h)), rfl, flat_ints ns, ?_⟩
    rw [inV_ints (H := H)]
    exact q _ P H (Gr.refl gr.ph) (.bl _)
/-! ### methods -/
theorem de_bm {o : Expr} {name : Str} {apos cpos : Pos} {T id : String} {r : V → List V → Hp → VK → Prop} (pa : PlainAttrs T) (slot : Slot T name id) (hty : typeOf (.builtin id) = pure (.type "method_descriptor")) (hm : MtR X id r) (ho : DE X B P0 H0 W ρ m1 o d1) (ha : DA X B P0 H0 W ρ m2 (e :: es) ds)
    (hT : ∀ H v, Dq H v d1 → tyV X.K T v H) (hr : MtD P0 H0 m1 m2 m r d1 ds d)
    (hbase : attributeBase o name X.env (eval o X.env) = eval o X.env := by rfl)
    (hfew : ((backTo cpos (starEach (e :: es) X.env)).all (fun x => !x.1) && (backToKw cpos (keywordEach [] X.env)).all (fun x => x.1.isSome)
      && decide ((e :: es).length + ([] : List Keyword).length + (if ([] : List Keyword).isEmpty then 0 else 1) < 30)) = true := by rfl)
    (hline : (apos.endLine == cpos.line) = true := by rfl) (hs : starEach (e :: es) X.env = (false, eval e X.env) :: starEach es X.env := by rfl) (hplain : (backTo cpos (starEach es X.env)).any (·.1) = false := by rfl) :
    DE X B P0 H0 W ρ m (.Call (.Attribute o name apos) (e :: es) [] cpos) d := fun σ P H S Q q =>
  ⟨_, pe_bm pa slot hty hm pe_u pa_u hbase hfew hline hs hplain, ho σ P H S _ fun v P1 H1 g1 k1 => ⟨hT _ _ (dq_mono (vw_hp S.e0 (S.gr.trans g1)) _ _ k1), ha σ P1 H1 (S.grow g1) _ fun vs P2 H2 g2 k2 => hr P2 H2 S.e0 (S.gr.trans (g1.trans g2)) v vs (dq_mono (vw_mono g2) _ _ k1) k2 Q fun z P3 H3 g3 k3 => q z P3 H3 ((g1.trans g2).trans g3) k3⟩⟩
theorem tyL (K : PySem.W.Frag) (H : Hp) (v : V) (h : Dq H v (.list ds)) : tyV K "list" v H := by
  cases h with
  | lst h ha => exact .inl ⟨rfl, _, SqL.of h⟩
theorem tyS (K : PySem.W.Frag) {x : Str} (H : Hp) (v : V) (h : Dq H v (.str x)) : tyV K "str" v H := by
  cases h
  rfl
theorem md_count {ns : List Int} {k : Int} : MtD P0 H0 m1 m2 m (rCntI X.K) (.list (ns.map .int)) [.int k] (.int (ns.count k : Nat)) := fun P H e0 gr v vs k1 k2 Q q => by
  cases k2 with
  | cons k2 kn =>
    cases kn
    cases k2
    cases k1 with
    | lst h ha =>
      have e := ha.ints
      subst e
      exact ⟨_, ns, k, rfl, rfl, SqL.of (vw_hp e0 gr _ _ h), q _ P H (Gr.refl gr.ph) (.int _)⟩
theorem md_index (hu : X.A.units + 65 < cLine) {j : Nat} {z : PyData} (s1 : SeqAt.shaped (.list ds) = true) (s2 : SeqAt.shaped d = true) (hj : ds[j]? = some z) (hz : PyData.eqv z d = true) (hn : ∀ (k : Nat) (z' : PyData), k < j → ds[k]? = some z' → PyData.eqv z' d = false) : MtD P0 H0 m1 m2 m (rIndexD X.K) (.list ds) [d] (.int j) := fun P H e0 gr v vs k1 k2 Q q => by
  cases k2 with
  | cons k2 kn =>
    cases kn
    have k1' := Dq.dp (K := X.K) _ _ (SeqAt.canLay_of_shaped s1) (dq_mono (vw_hp e0 gr) _ _ k1)
    cases k1 with
    | lst h ha => exact ⟨_, _, d, ds, j, z, rfl, rfl, k1', Dq.dp _ _ (SeqAt.canLay_of_shaped s2) (dq_mono (vw_hp e0 gr) _ _ k2), s1, s2, hj, hz, hn, q _ P H (Gr.refl gr.ph) (.int _)⟩
end
end Dw

namespace Dw
open PySem PySem.Spec PyProof.Rows L2
theorem passN {X : Cx} : Passes (L2N.CX X.prog X.w) X E0 := fun _ _ _ _ _ _ _ h => by
  obtain ⟨_, _, _, _, _, _, _, _, _, _, _, _, z⟩ := h
  exact z.elim
theorem takesN {X : Cx} : L2N.Takes X (fun _ _ _ _ => False) := fun _ _ x => by
  obtain ⟨_, _, _, _, _, _, _, _, _, _, _, _, _, _, _, _, z⟩ := x
  exact z.elim
/-- a def at its place keeps its promise, exceptions of unknown past let out -/
theorem _root_.L2.Fun.okN {P : Program} {w : World} {K : PySem.W.Frag} {mg : Str → Option Value} {base : Heap} {x qual : Str} {st : Stmt} {f : Addr} {fd : FuncData} {N ps : List Str} {k : Nat} {sp : Sp} (F : Fun K x qual st f fd) (S : FnScope N ps (defScope st)) (len : ∀ vs H Q E, sp vs H Q E → vs.length = ps.length)
    (hb : ∀ (cdv : Value) (A : Around) (outer : List Env) (s : Shared) (H : Hp) (vs : List V) (Q : VK) (E : XK), Room k (A.deeper (envOfC qual (defScope st) s.heap.objs.size f cdv)) → sp vs H Q E →
      ∃ t, PSs (cxOf (L2N.CX P w) P w K mg base N qual (defScope st) f cdv A outer s H E) (defBody st) t ∧ t { nx := fun _ H' => Q .non H', rt := Q } (L2.start N vs) H) : FnOk P w K mg base (L2N.CX P w) (k + 1) f fd ps sp := by
  obtain ⟨oc, od, kV, doc, pm, an, cdv, ct, osl, rfl, lk, hcd⟩ := F.ex
  exact fn_of lk hcd S len (hb cdv)
/-- what comes of a call -/
inductive Out where
  | ret (d : PyData)
  | exc (C : Addr)
/-- what is wanted behind a call -/
def QE (P H : Hp) (Q : VK) (E : XK) : Out → Prop
  | .ret d => ∀ v P' H', Gr P H P' H' → Dq P' v d → Q v H'
  | .exc C => ∀ P' H', Gr P H P' H' → E (.ref C) none H'
/-- a promise: R tells what comes of the arguments -/
def spR (n : Nat) (R : List PyData → Out → Prop) : Sp := fun vs H Q E => ∃ (P : Hp) (ds : List PyData) (o : Out), ds.length = n ∧ Same P H ∧ (∀ a o, P a = some o → isD o = true) ∧ DqAll P vs ds ∧ R ds o ∧ QE P H Q E o
/-- a def that may be called by its name -/
structure Cal (P : Program) (w : World) (K : PySem.W.Frag) (mg : Str → Option Value) (base : Heap) (x : Str) (k n : Nat) (R : List PyData → Out → Prop) : Prop where
  ex : ∃ (f : Addr) (fd : FuncData) (ps : List Str), mg x = some (.ref f) ∧ PySem.W.keepIn K (.ref f) = true ∧ Binds K fd ps [] ∧ FnOk P w K mg base (L2N.CX P w) k f fd ps (spR n R)
/-- a def as it stands behind the top -/
structure Def (K : PySem.W.Frag) (mg : Str → Option Value) (x : Str) (st : Stmt) (ps : List Str) : Prop where
  ex : ∃ (f : Addr) (fd : FuncData), mg x = some (.ref f) ∧ Fun K x x st f fd ∧ Binds K fd ps []
section
variable {P : Program} {w : World} {K : PySem.W.Frag} {mg : Str → Option Value} {base : Heap} {x : Str} {st : Stmt} {ps N : List Str} {k n : Nat} {R : List PyData → Out → Prop}
/-- the ends of a def's body -/
def endsD (Q : VK) : Ends := { nx := fun _ H' => Q .non H', rt := Q }
/-- the state at the start: the arguments, then nothing -/
def ρ0 (N : List Str) (ds : List PyData) : List Sl := ds.map .dat ++ List.replicate (N.length - ds.length) .no
theorem sat_start {H P1 : Hp} {vs : List V} {ds : List PyData} (e : Same P1 H) (pd : ∀ a o, P1 a = some o → isD o = true) (h : DqAll P1 vs ds) (hn : ds.length ≤ N.length) : Sat P1 P1 H [] (ρ0 N ds) (L2.start N vs) P1 H where
  sb := Same.refl P1
  pd := pd
  e0 := e
  gr := Gr.refl e
  own := fun _ h => by cases h
  fr := fun _ h => by cases h
  nd := List.nodup_nil
  len := by
    unfold ρ0 L2.start
    simp [h.len]
  sl := fun i s hs => by
    unfold ρ0 at hs
    unfold L2.start
    by_cases hi : i < ds.length
    · rw [List.getElem?_append_left (by simpa using hi), List.getElem?_map] at hs
      rw [List.getElem?_append_left (by simpa [h.len] using hi), List.getElem?_map]
      cases q : ds[i]? with
      | none => rw [q] at hs; cases hs
      | some d =>
        rw [q] at hs
        cases hs
        obtain ⟨v, h1, h2⟩ := h.get q
        exact ⟨_, by rw [h1]; rfl, v, rfl, h2⟩
    · rw [List.getElem?_append_right (by simpa using hi), List.getElem?_replicate] at hs
      split at hs
      · cases hs
        rw [List.getElem?_append_right (by simpa [h.len] using hi), List.getElem?_replicate]
        refine ⟨none, ?_, trivial⟩
        rw [if_pos]
        simp only [List.length_map, h.len] at *
        assumption
      · cases hs
/-- THE RULE for a def -/
theorem Def.cal (F : Def K mg x st ps) (S : FnScope N ps (defScope st)) (hn : ps.length = n)
    (hbody : ∀ (f : Addr) (cdv : Value) (A : Around) (outer : List Env) (s : Shared) (H P1 : Hp) (ds : List PyData) (o : Out) (Q : VK) (E : XK), Room k (A.deeper (envOfC x (defScope st) s.heap.objs.size f cdv)) →
      Passes (L2N.CX P w) (cxOf (L2N.CX P w) P w K mg base N x (defScope st) f cdv A outer s H E) E → L2N.Takes (cxOf (L2N.CX P w) P w K mg base N x (defScope st) f cdv A outer s H E) (fun cls d _ H => E cls d H) →
      PassesOwn (model P w) (A.deeper (envOfC x (defScope st) s.heap.objs.size f cdv)) (envOfC x (defScope st) s.heap.objs.size f cdv) (cxOf (L2N.CX P w) P w K mg base N x (defScope st) f cdv A outer s H E).xe → R ds o →
      QE P1 H Q E o →
      G (cxOf (L2N.CX P w) P w K mg base N x (defScope st) f cdv A outer s H E) P1 P1 H [] (ρ0 N ds) (defBody st) (endsD Q)) : Cal P w K mg base x (k + 1) n R := by
  obtain ⟨f, fd, hm, hF, hB⟩ := F.ex
  refine ⟨f, fd, ps, hm, hF.kp, hB, ?_⟩
  refine hF.okN S (fun vs H Q E h => ?_) (fun cdv A outer s H vs Q E hr h => ?_)
  · obtain ⟨P1, ds, o, e1, _, _, e3, _⟩ := h
    rw [e3.len, e1, hn]
  · obtain ⟨P1, ds, o, e1, e2, ed, e3, e4, e5⟩ := h
    have hpl : ps.length ≤ N.length := by have := congrArg List.length S.pre; rw [List.length_take] at this; omega
    have tk : L2N.Takes (cxOf (L2N.CX P w) P w K mg base N x (defScope st) f cdv A outer s H E) (fun cls d _ H => E cls d H) := L2N.takes_of rfl rfl rfl rfl
    refine ⟨_, pss_u, ?_⟩
    exact hbody f cdv A outer s H P1 ds o Q E hr (L2N.passes_call tk fun _ _ _ _ h => h) tk (passes_of rfl) e4 e5 _ P1 H (sat_start e2 ed e3 (by omega))
end
section
variable {X : Cx} {B P0 H0 : Hp} {W W' : List (Addr × Ob)} {ρ ρ' : List Sl} {m m1 m2 : Bool} {a b c e : Expr} {es : List Expr} {pos p1 p2 : Pos} {d d1 d2 d3 : PyData} {ds es' : List PyData} {D : Ends} {rest body els : List Stmt} {x y : Str}
/-! ### calls of defs -/
theorem de_call {k j n : Nat} {R : List PyData → Out → Prop} (C : Cal X.prog X.w X.K X.mg X.base x k n R) (hr : Room j X.A) (hk : k ≤ j) (ha : DA X B P0 H0 W ρ true (e :: es) ds) (hn : ds.length = n) (hR : R ds (.ret d)) (hg : Gl X x := by rfl) (hdb : (x == ("__debug__" : Str)) = false := by decide)
    (he : starEach (e :: es) X.env = (false, eval e X.env) :: starEach es X.env := by rfl) (hpl : (backTo pos (starEach es X.env)).any (·.1) = false := by rfl) : DE X B P0 H0 W ρ m (.Call (.Name x p1) (e :: es) [] pos) d := fun σ P H S Q q => by
  obtain ⟨f, fd, ps, hm, hkp, hB, F⟩ := C.ex
  refine ⟨_, pe_call F (hr.mono hk) hg hm hkp hB .nil (E := E0) passN pa_u hdb he hpl, ha σ P H S _ fun vs P1 H1 g1 k1 => ?_⟩
  rw [List.append_nil]
  have gr := S.gr.trans g1
  exact ⟨P1, ds, .ret d, hn, gr.ph, (S.grow g1).pd, k1, hR, fun v P2 H2 g2 k2 => q v P2 H2 (g1.trans g2) (dq_mono (vw_up S.e0 (gr.trans g2)) _ _ k2)⟩
/-- a statement f(..) that raises -/
theorem g_callX {k j n : Nat} {R : List PyData → Out → Prop} {Cx : Addr} {E : XK} (C : Cal X.prog X.w X.K X.mg X.base x k n R) (hr : Room j X.A) (hk : k ≤ j) (hp : Passes (L2N.CX X.prog X.w) X E) (ha : DA X B P0 H0 W ρ true (e :: es) ds) (hn : ds.length = n) (hR : R ds (.exc Cx))
    (hE : ∀ P H, Gr P0 H0 P H → E (.ref Cx) none H) (hg : Gl X x := by rfl) (hdb : (x == ("__debug__" : Str)) = false := by decide)
    (he : starEach (e :: es) X.env = (false, eval e X.env) :: starEach es X.env := by rfl) (hpl : (backTo pos (starEach es X.env)).any (·.1) = false := by rfl)
    (hs : swapsWith (.Call (.Name x p1) (e :: es) [] pos) none p2.line X.env = pure false := by rfl) : G X B P0 H0 W ρ (.Expr (.Call (.Name x p1) (e :: es) [] pos) p2 :: rest) D := fun σ P H S => by
  obtain ⟨f, fd, ps, hm, hkp, hB, F⟩ := C.ex
  refine ⟨_, pss_cons (ps_expr (pe_call F (hr.mono hk) hg hm hkp hB .nil hp pa_u hdb he hpl) hs) pss_u, ha σ P H S _ fun vs P1 H1 g1 k1 => ?_⟩
  rw [List.append_nil]
  have gr := S.gr.trans g1
  exact ⟨P1, ds, .exc Cx, hn, gr.ph, (S.grow g1).pd, k1, hR, fun P2 H2 g2 => hE P2 H2 (gr.trans g2)⟩
/-! ### statements -/
theorem g_nil (h : ∀ σ P H, Sat B P0 H0 W ρ σ P H → D.nx σ H) : G X B P0 H0 W ρ [] D := fun σ P H S => ⟨_, pss_nil, h σ P H S⟩
/-- slots told less -/
def Fg : List Sl → List Sl → Prop
  | [], [] => True
  | s' :: r', s :: r => (s' = .no ∨ s' = s) ∧ Fg r' r
  | _, _ => False
theorem Fg.len : ∀ {r' r : List Sl}, Fg r' r → r'.length = r.length
  | [], [], _ => rfl
  | _ :: _, _ :: _, h => by simp [Fg.len h.2]
  | [], _ :: _, h => h.elim
  | _ :: _, [], h => h.elim
theorem Fg.at : ∀ {r' r : List Sl} (i : Nat) (s : Sl), Fg r' r → r'[i]? = some s → s = .no ∨ r[i]? = some s
  | [], [], _, _, _, e => by simp at e
  | s' :: r', t :: r, 0, s, h, e => by
    simp at e
    subst e
    rcases h.1 with z | z
    · exact .inl z
    · exact .inr (by rw [z]; rfl)
  | s' :: r', t :: r, i + 1, s, h, e => by
    rcases Fg.at i s h.2 (by simpa using e) with z | z
    · exact .inl z
    · exact .inr (by simpa using z)
  | [], _ :: _, _, _, h, _ => h.elim
  | _ :: _, [], _, _, h, _ => h.elim
theorem Fg.refl : ∀ r : List Sl, Fg r r
  | [] => trivial
  | _ :: r => ⟨.inr rfl, Fg.refl r⟩
theorem Sat.fg {σ : L2.St} {P H : Hp} (S : Sat B P0 H0 W ρ σ P H) (h : Fg ρ' ρ) : Sat B P0 H0 W ρ' σ P H := S.forget h.len fun i s e => h.at i s e
/-- what may be told less of the marker -/
theorem Sat.mark {σ : L2.St} {P H B' : Hp} (S : Sat B P0 H0 W ρ σ P H) (h : Same B' P) : Sat B' P0 H0 W ρ σ P H := { S with sb := h }
theorem g_fg (h : Fg ρ' ρ) (k : G X B P0 H0 W ρ' rest D) : G X B P0 H0 W ρ rest D := fun σ P H S => k σ P H (S.fg h)
/-- the rest behind a branch -/
def Ends.to (D : Ends) (X : Cx) (rest : List Stmt) : Ends := { D with nx := fun σ H => uSs X rest D σ H }
theorem g_to (k : G X B P0 H0 W ρ rest D) : G X B P0 H0 W ρ [] (Ends.to D X rest) := g_nil fun σ P H S => k σ P H S
theorem g_set (i : Nat) (he : DE X B P0 H0 W ρ true e d) (k : G X B P0 H0 W (ρ.set i (.dat d)) rest D) (hN : X.N.Nodup := by assumption) (hi : X.N[i]? = some x := by rfl) (hx : Loc X.env.scope x := by first | exact Or.inl rfl | exact Or.inr rfl)
    (hs : swapsWith e (some (.Name x p1)) pos.line X.env = pure false := by rfl) (hf : X.fn x = true ∨ X.env.scope.names.lookup x = some .local := by first | exact .inl rfl | exact .inr rfl) : G X B P0 H0 W ρ (.Assign [.Name x p1] e pos :: rest) D := fun σ P H S =>
  ⟨_, pss_cons (ps_set (i := i) hN hi hx pe_u hs hf) pss_u, he σ P H S _ fun v P1 H1 g1 k1 => k _ P1 H1 ((S.grow g1).put i ⟨v, rfl, k1⟩)⟩
theorem g_ret (he : DE X B P0 H0 W ρ false e d) (k : ∀ v P H, Gr P0 H0 P H → Dq P v d → D.rt v H) : G X B P0 H0 W ρ (.Return (some e) pos :: rest) D := fun σ P H S =>
  ⟨_, pss_cons (ps_ret pe_u) pss_u, he σ P H S _ fun v P1 H1 g1 k1 => k v _ H1 ((S.gr.trans g1).max S.e0) k1⟩
theorem g_expr (he : DE X B P0 H0 W ρ false e d) (k : G X B P0 H0 W ρ rest D) (hs : swapsWith e none pos.line X.env = pure false := by rfl) : G X B P0 H0 W ρ (.Expr e pos :: rest) D := fun σ P H S =>
  ⟨_, pss_cons (ps_expr pe_u hs) pss_u, he σ P H S _ fun v P1 H1 g1 k1 => k σ P1 H1 (S.grow g1)⟩
theorem g_if {k : Bool} (hc : DT X B P0 H0 W ρ c k) (h1 : k = true → G X B P0 H0 W ρ body (Ends.to D X rest)) (h2 : k = false → G X B P0 H0 W ρ els (Ends.to D X rest)) : G X B P0 H0 W ρ (.If c body els pos :: rest) D := fun σ P H S =>
  ⟨_, pss_cons (ps_if pt_u pss_u pss_u) pss_u, hc σ P H S _ fun P1 H1 g1 => by
    cases k with
    | true => exact iteT (h1 rfl σ P1 H1 (S.grow g1))
    | false => exact iteF (h2 rfl σ P1 H1 (S.grow g1))⟩
/-- a test that is false -/
theorem g_no (hc : DT X B P0 H0 W ρ c false) (k : G X B P0 H0 W ρ rest D) : G X B P0 H0 W ρ (.If c body [] pos :: rest) D := g_if hc (fun h => by cases h) fun _ => g_to k
theorem g_yes (hc : DT X B P0 H0 W ρ c true) (k : G X B P0 H0 W ρ body (Ends.to D X rest)) : G X B P0 H0 W ρ (.If c body els pos :: rest) D := g_if hc (fun _ => k) fun h => by cases h
/-- while: α the states of the loop -/
def endsW {α : Type} (X : Cx) (B P0 H0 : Hp) (rest : List Stmt) (D : Ends) (Iv : α → Prop) (μ : α → Nat) (Wf : α → List (Addr × Ob)) (ρf : α → List Sl) (s : α) : Ends :=
  { nx := fun σ H => ∃ t, Iv t ∧ μ t < μ s ∧ ∃ P, Sat B P0 H0 (Wf t) (ρf t) σ P H, ct := fun σ H => ∃ t, Iv t ∧ μ t < μ s ∧ ∃ P, Sat B P0 H0 (Wf t) (ρf t) σ P H, bk := fun σ H => uSs X rest D σ H, rt := D.rt }
theorem g_while {α : Type} (Iv : α → Prop) (μ : α → Nat) (Wf : α → List (Addr × Ob)) (ρf : α → List Sl) (s0 : α) (hp : PassesOwn (model X.prog X.w) X.A X.env X.xe) (h0 : Iv s0) (hW : Wf s0 = W) (hρ : Fg (ρf s0) ρ)
    (hs : ∀ s, Iv s → ∃ k, DT X B P0 H0 (Wf s) (ρf s) c k ∧ (k = true → G X B P0 H0 (Wf s) (ρf s) body (endsW X B P0 H0 rest D Iv μ Wf ρf s)) ∧ (k = false → G X B P0 H0 (Wf s) (ρf s) rest D)) : G X B P0 H0 W ρ (.While c body [] pos :: rest) D := fun σ P H S => by
  refine ⟨_, pss_cons (ps_while hp pt_u pss_u) pss_u, fun n σ H => ∃ s, Iv s ∧ μ s = n ∧ ∃ P, Sat B P0 H0 (Wf s) (ρf s) σ P H, ⟨_, s0, h0, rfl, P, by rw [hW]; exact S.fg hρ⟩, ?_⟩
  rintro n σ H ⟨s, hi, rfl, P, S⟩
  obtain ⟨k, hT, h1, h2⟩ := hs s hi
  refine hT σ P H S _ fun P1 H1 g1 => ?_
  cases k with
  | true =>
    refine iteT ⟨fun σ H => ∃ t, Iv t ∧ μ t < μ s ∧ ∃ P, Sat B P0 H0 (Wf t) (ρf t) σ P H, fun σ' H' ⟨t, a, b, c⟩ => ⟨μ t, b, t, a, rfl, c⟩, ?_⟩
    exact h1 rfl σ P1 H1 (S.grow g1)
  | false => exact iteF (h2 rfl σ P1 H1 (S.grow g1))
theorem g_again {α : Type} {Iv : α → Prop} {μ : α → Nat} {Wf : α → List (Addr × Ob)} {ρf : α → List Sl} {s : α} {B' : Hp} (t : α) (hi : Iv t) (hm : μ t < μ s) (hρ : Fg (ρf t) ρ) (hW : Wf t = W := by rfl) (hB : Same B B' := by first | exact Same.refl _ | assumption) : G X B' P0 H0 W ρ [] (endsW X B P0 H0 rest D Iv μ Wf ρf s) :=
  g_nil fun σ P H S => ⟨t, hi, hm, P, by rw [hW]; exact (S.fg hρ).mark (hB.trans S.sb)⟩
/-- for: n turns; Iv i s what holds ahead of the turn i -/
def endsF {α : Type} (X : Cx) (B P0 H0 : Hp) (rest : List Stmt) (D : Ends) (Iv : Nat → α → Prop) (Wf : α → List (Addr × Ob)) (ρf : α → List Sl) (i : Nat) : Ends :=
  { nx := fun σ H => ∃ t, Iv i t ∧ ∃ P, Sat B P0 H0 (Wf t) (ρf t) σ P H, ct := fun σ H => ∃ t, Iv i t ∧ ∃ P, Sat B P0 H0 (Wf t) (ρf t) σ P H, bk := fun σ H => uSs X rest D σ H, rt := D.rt }
theorem g_next {α : Type} {Iv : Nat → α → Prop} {Wf : α → List (Addr × Ob)} {ρf : α → List Sl} {i : Nat} {B' : Hp} (t : α) (hi : Iv i t) (hρ : Fg (ρf t) ρ) (hW : Wf t = W := by rfl) (hB : Same B B' := by first | exact Same.refl _ | assumption) : G X B' P0 H0 W ρ [] (endsF X B P0 H0 rest D Iv Wf ρf i) :=
  g_nil fun σ P H S => ⟨t, hi, P, by rw [hW]; exact (S.fg hρ).mark (hB.trans S.sb)⟩
/-- a target: a name, or a tuple of names -/
def GT (X : Cx) (tg : Expr) (up : List Sl → PyData → List Sl → Prop) : Prop := ∃ g, PG X tg g ∧ ∀ (B P0 H0 : Hp) W ρ σ P H v d ρ' (Q : L2.St → Hp → Prop), Sat B P0 H0 W ρ σ P H → Dq P v d → up ρ d ρ' → (∀ σ', Sat B P0 H0 W ρ' σ' P H → Q σ' H) → g v σ H Q
theorem gt_name (i : Nat) (hN : X.N.Nodup := by assumption) (hi : X.N[i]? = some x := by rfl) (hx : Loc X.env.scope x := by first | exact Or.inl rfl | exact Or.inr rfl) (hf : X.fn x = true ∨ X.env.scope.names.lookup x = some .local := by first | exact .inl rfl | exact .inr rfl) :
    GT X (.Name x pos) (fun ρ d ρ' => ρ' = ρ.set i (.dat d)) := ⟨_, pg_name hN hi hx hf, fun B P0 H0 W ρ σ P H v d ρ' Q S k u q => by
  subst u
  exact q _ (S.put i ⟨v, rfl, k⟩)⟩
theorem gt_pair (i j : Nat) {k2 : Nat} (hc : X.calm = true := by assumption) (hN : X.N.Nodup := by assumption) (hi : X.N[i]? = some x := by rfl) (hx : Loc X.env.scope x := by first | exact Or.inl rfl | exact Or.inr rfl) (hf : X.fn x = true ∨ X.env.scope.names.lookup x = some .local := by first | exact .inl rfl | exact .inr rfl)
    (hj : X.N[j]? = some y := by rfl) (hy : Loc X.env.scope y := by first | exact Or.inl rfl | exact Or.inr rfl) (hg : X.fn y = true ∨ X.env.scope.names.lookup y = some .local := by first | exact .inl rfl | exact .inr rfl) :
    GT X (.Tuple [.Name x p1, .Name y p2] k2 pos) (fun ρ d ρ' => ∃ d1 d2, d = .tuple [d1, d2] ∧ ρ' = (ρ.set i (.dat d1)).set j (.dat d2)) := ⟨_, pg_tup hc (pgs_cons (pg_name hN hi hx hf) (pgs_cons (pg_name hN hj hy hg) pgs_nil)), fun B P0 H0 W ρ σ P H v d ρ' Q S k u q => by
  obtain ⟨d1, d2, rfl, rfl⟩ := u
  cases k with
  | tup h ha =>
    cases ha with
    | cons r1 ha =>
      cases ha with
      | cons r2 ha =>
        cases ha
        exact ⟨_, _, rfl, SqT.of (S.gr.ph _ _ h), rfl, _, _, rfl, _, _, rfl, rfl, q _ ((S.put i (s := .dat d1) ⟨_, rfl, r1⟩).put j (s := .dat d2) ⟨_, rfl, r2⟩)⟩⟩
theorem sat_seq {σ : L2.St} {P H P' : Hp} {v : V} (S : Sat B P0 H0 W ρ σ P H) {l : Addr} {xs : List V} (h : P l = some (.lst xs)) : SqL X.K H l xs := SqL.of (S.gr.ph _ _ h)
end
end Dw

namespace Dw
open PySem PySem.Spec PyProof.Rows L2
section
variable {X : Cx} {B P0 H0 : Hp} {W W' : List (Addr × Ob)} {ρ ρ' : List Sl} {m m1 m2 : Bool} {a b c e : Expr} {es : List Expr} {pos p1 p2 p3 p4 p5 : Pos} {d d1 d2 d3 : PyData} {ds es' : List PyData} {D : Ends} {rest body els : List Stmt} {x y z : Str}
/-! ### one's own new objects -/
/-- what an expression makes: data, or a new object of one's own -/
inductive Kd where
  | dat (d : PyData)
  | own (o : Ob)
/-- v is it: what is added to W, what the slot then holds -/
inductive KAt (P0 H0 P H : Hp) : Kd → V → List (Addr × Ob) → Sl → Prop
  | dat {d : PyData} {v : V} : Dq P v d → KAt P0 H0 P H (.dat d) v [] (.dat d)
  | own {o : Ob} {p : Addr} : P p = Option.none → H0 p = Option.none → ObAt P H p o → KAt P0 H0 P H (.own o) (.ref p) [(p, o)] (.raw (.ref p))
theorem KAt.grow {P H P' H' : Hp} {k : Kd} {v : V} {O : List (Addr × Ob)} {s : Sl} (h : KAt P0 H0 P H k v O s) (g : Gr P H P' H') : KAt P0 H0 P' H' k v O s := by
  cases h with
  | dat q => exact .dat (dq_mono g.pp _ _ q)
  | own q1 q2 q3 =>
    obtain ⟨u, hu⟩ := q3.there
    exact .own (g.stay q1 hu) q2 (q3.grow g)
def DK (X : Cx) (B P0 H0 : Hp) (W : List (Addr × Ob)) (ρ : List Sl) (e : Expr) (k : Kd) : Prop := ∀ σ P H, Sat B P0 H0 W ρ σ P H → ∀ Q : VK, (∀ v P' H' O s, Gr P H P' H' → KAt P0 H0 P' H' k v O s → (∀ p ∈ O, H p.1 = Option.none) → Q v H') → uE X e σ H Q
theorem dk_dat (h : DE X B P0 H0 W ρ true e d) : DK X B P0 H0 W ρ e (.dat d) := fun σ P H S Q q => h σ P H S Q fun v P' H' g k => q v P' H' [] _ g (.dat k) fun _ z => by cases z
/-- new: laid at p, which is not kept for good -/
theorem dk_new {P1 H1 P H : Hp} {σ : L2.St} {o : HO} {ob : Ob} {p : Addr} {Q : VK} (S : Sat B P0 H0 W ρ σ P H) (g : Gr P H P1 H1) (hp : H1 p = Option.none) (hob : ObAt P1 (upd H1 p o) p ob) (q : ∀ v P' H' O s, Gr P H P' H' → KAt P0 H0 P' H' (.own ob) v O s → (∀ p ∈ O, H p.1 = Option.none) → Q v H') : Q (.ref p) (upd H1 p o) := by
  have gr := S.gr.trans g
  refine q _ P1 _ _ _ (g.trans (Gr.tmp gr.ph hp)) (.own (gr.ph.free hp) (gr.hh.free hp) hob) fun r hr => ?_
  have e : r = (p, ob) := by simpa using hr
  subst e
  exact g.hh.free hp
theorem dk_lst (h : DA X B P0 H0 W ρ true es ds) (hl : ds.length ≤ sizeLine := by exact Nat.le_of_ble_eq_true rfl) : DK X B P0 H0 W ρ (.List es pos) (.own (.lst ds)) := fun σ P H S Q q =>
  ⟨_, pe_lst pa_u, h σ P H S _ fun vs P1 H1 g1 k1 => ⟨by rw [k1.len]; exact hl, fun p hp => dk_new (Q := Q) (ob := .lst ds) S g1 hp ⟨vs, upd_same, k1⟩ q⟩⟩
theorem dk_rep1 {n : Int} (ha : DE X B P0 H0 W ρ false a (.list [d])) (hb : DE X B P0 H0 W ρ false b (.int n)) (hn : n < 2 ^ 63 ∧ -(2 ^ 63) ≤ n) (hl : n.toNat ≤ sizeLine) (hs : scalD d = true := by rfl) : DK X B P0 H0 W ρ (.BinOp a .Mult b pos) (.own (.lst (List.replicate n.toNat d))) := fun σ P H S Q q =>
  ⟨_, pe_op op_rep pe_u pe_u, ha σ P H S _ fun v P1 H1 g1 k1 => hb σ P1 H1 (S.grow g1) _ fun w P2 H2 g2 k2 => by
    have gr := S.gr.trans (g1.trans g2)
    have k1' := dq_mono (vw_mono g2) _ _ k1
    cases k1' with
    | lst h1 a1 =>
      cases k2
      cases a1 with
      | cons r rn =>
        cases rn
        refine ⟨_, n, _, rfl, rfl, vw_hp S.e0 gr _ _ h1, hn.2, hn.1, by simpa using hl, ?_⟩
        rw [rep1]
        exact fun p hp => dk_new (Q := Q) (ob := .lst (List.replicate n.toNat d)) S (g1.trans g2) hp ⟨_, upd_same, DqAll.rep (dq_scal hs r) _⟩ q⟩
/-- [True] + [False] * n and its like: a sum of lists of scalars -/
theorem dk_catS (ha : DE X B P0 H0 W ρ false a (.list ds)) (hb : DE X B P0 H0 W ρ false b (.list es')) (hl : ds.length + es'.length ≤ sizeLine) (s1 : ds.all scalD = true) (s2 : es'.all scalD = true) : DK X B P0 H0 W ρ (.BinOp a .Add b pos) (.own (.lst (ds ++ es'))) := fun σ P H S Q q =>
  ⟨_, pe_op op_cat pe_u pe_u, ha σ P H S _ fun v P1 H1 g1 k1 => hb σ P1 H1 (S.grow g1) _ fun w P2 H2 g2 k2 => by
    have gr := S.gr.trans (g1.trans g2)
    have k1' := dq_mono (vw_mono g2) _ _ k1
    cases k1' with
    | lst h1 a1 =>
      cases k2 with
      | lst h2 a2 =>
        exact ⟨_, _, _, _, rfl, rfl, vw_hp S.e0 gr _ _ h1, vw_hp S.e0 gr _ _ h2, by rw [a1.len, a2.len]; exact hl, fun p hp => dk_new (Q := Q) (ob := .lst (ds ++ es')) S (g1.trans g2) hp ⟨_, upd_same, dqAll_scal (by rw [List.all_append, s1, s2]; rfl) (DqAll.app (dqAll_scal (H' := P) s1 a1) (dqAll_scal s2 a2))⟩ q⟩⟩
/-- list(xs) -/
theorem dk_list (hm : X.mg "list" = Option.none) (ha : DE X B P0 H0 W ρ false e (.list ds)) (hs : ds.all scalD = true) (hg : Gl X "list" := by rfl)
    (he : starEach [e] X.env = (false, eval e X.env) :: starEach [] X.env := by rfl) (hpl : (backTo pos (starEach [] X.env)).any (·.1) = false := by rfl) : DK X B P0 H0 W ρ (.Call (.Name "list" p1) [e] [] pos) (.own (.lst ds)) := fun σ P H S Q q =>
  ⟨_, pe_callTy call_list_of hg hm (by decide +kernel) (pa_cons pe_u pa_nil he) (by decide) (by decide) he hpl, ha σ P H S _ fun v P1 H1 g1 k1 => by
    cases k1 with
    | lst h1 a1 => exact ⟨_, _, rfl, .inl (SqL.of (vw_hp S.e0 (S.gr.trans g1) _ _ h1)), fun p hp => dk_new (Q := Q) (ob := .lst ds) S g1 hp ⟨_, upd_same, dqAll_scal hs a1⟩ q⟩⟩
/-- {k: v} of an int, {} -/
theorem dk_dict0 : DK X B P0 H0 W ρ (.Dict [] [] pos) (.own (.raw (.dK []))) := fun σ P H S Q q => ⟨_, pe_dnewK, fun p hp => dk_new (Q := Q) (ob := .raw (.dK [])) S (gr_refl S) hp (show upd _ _ _ _ = _ from upd_same) q⟩
theorem Sat.add {P H : Hp} {σ : L2.St} {k : Kd} {v : V} {O : List (Addr × Ob)} {s : Sl} (S : Sat B P0 H0 W ρ σ P H) (h : KAt P0 H0 P H k v O s) (i : Nat) (hO : ∀ p ∈ O, ∀ r ∈ W, r.1 ≠ p.1) : Sat B P0 H0 (W ++ O) (ρ.set i s) (σ.set i (some v)) P H := by
  cases h with
  | dat q =>
    rw [List.append_nil]
    exact S.put i (s := .dat _) ⟨v, rfl, q⟩
  | @own o p q1 q2 q3 =>
    have S' : Sat B P0 H0 W (ρ.set i (.raw (.ref p))) (σ.set i (some (.ref p))) P H := S.put i rfl
    refine { S' with own := fun r hr => ?_, fr := fun r hr => ?_, nd := ?_ }
    · rcases List.mem_append.mp hr with z | z
      · exact S.own r z
      · have e : r = (p, o) := by simpa using z
        subst e
        exact ⟨q1, q3⟩
    · rcases List.mem_append.mp hr with z | z
      · exact S.fr r z
      · have e : r = (p, o) := by simpa using z
        subst e
        exact q2
    · rw [List.map_append]
      refine List.nodup_append.mpr ⟨S.nd, by simp, fun u hu w hw => ?_⟩
      obtain ⟨r, hr, er⟩ := List.mem_map.mp hu
      have ew : w = p := by simpa using hw
      rw [← er, ew]
      exact hO (p, o) (List.mem_singleton.mpr rfl) r hr
theorem own_apart {P H H1 : Hp} {σ : L2.St} (S : Sat B P0 H0 W ρ σ P H) {O : List (Addr × Ob)} (h : ∀ p ∈ O, H p.1 = Option.none) : ∀ p ∈ O, ∀ r ∈ W, r.1 ≠ p.1 := fun p hp r hr e => by
  obtain ⟨u, hu⟩ := (S.own r hr).2.there
  rw [e, h p hp] at hu
  cases hu
/-- name = a new object of one's own -/
theorem g_setK (i : Nat) {k : Kd} (he : DK X B P0 H0 W ρ e k) (kk : ∀ O s, (∃ P H v, KAt P0 H0 P H k v O s) → G X B P0 H0 (W ++ O) (ρ.set i s) rest D) (hN : X.N.Nodup := by assumption) (hi : X.N[i]? = some x := by rfl) (hx : Loc X.env.scope x := by first | exact Or.inl rfl | exact Or.inr rfl)
    (hs : swapsWith e (some (.Name x p1)) pos.line X.env = pure false := by rfl) (hf : X.fn x = true ∨ X.env.scope.names.lookup x = some .local := by first | exact .inl rfl | exact .inr rfl) : G X B P0 H0 W ρ (.Assign [.Name x p1] e pos :: rest) D := fun σ P H S =>
  ⟨_, pss_cons (ps_set (i := i) hN hi hx pe_u hs hf) pss_u, he σ P H S _ fun v P1 H1 O s g1 k1 hO => kk O s ⟨_, _, _, k1⟩ _ P1 H1 ((S.grow g1).add k1 i (own_apart (H1 := H) S hO))⟩
theorem g_setO (i : Nat) {o : Ob} (he : DK X B P0 H0 W ρ e (.own o)) (kk : ∀ p, G X B P0 H0 (W ++ [(p, o)]) (ρ.set i (.raw (.ref p))) rest D) (hN : X.N.Nodup := by assumption) (hi : X.N[i]? = some x := by rfl) (hx : Loc X.env.scope x := by first | exact Or.inl rfl | exact Or.inr rfl)
    (hs : swapsWith e (some (.Name x p1)) pos.line X.env = pure false := by rfl) (hf : X.fn x = true ∨ X.env.scope.names.lookup x = some .local := by first | exact .inl rfl | exact .inr rfl) : G X B P0 H0 W ρ (.Assign [.Name x p1] e pos :: rest) D :=
  g_setK i he (fun O s ⟨P, H, v, k⟩ => by
    cases k
    exact kk _) hN hi hx hs hf
/-- a, b = e1, e2 -/
theorem g_parK (i j : Nat) {k l : Kd} {kt k2 : Nat} {pt pt2 : Pos} (ha : DK X B P0 H0 W ρ a k) (hb : DK X B P0 H0 W ρ b l)
    (kk : ∀ O s O' s', (∃ P H v, KAt P0 H0 P H k v O s) → (∃ P H v, KAt P0 H0 P H l v O' s') → G X B P0 H0 (W ++ O ++ O') ((ρ.set i s).set j s') rest D) (hc : X.calm = true := by assumption) (hN : X.N.Nodup := by assumption) (hi : X.N[i]? = some x := by rfl) (hj : X.N[j]? = some y := by rfl) (hij : i ≠ j := by decide)
    (hx : X.env.scope.names.lookup x = some .local := by rfl) (hy : X.env.scope.names.lookup y = some .local := by rfl)
    (hw : swappedStores [.Tuple [.Name x p1, .Name y p2] kt pt] (.Tuple [a, b] k2 pt2) X.env = pure (some [x, y]) := by rfl)
    (hs : swapsWithSole [.Tuple [.Name x p1, .Name y p2] kt pt] (.Tuple [a, b] k2 pt2) pos.line X.env = pure false := by rfl)
    (he1 : starEach [a, b] X.env = (false, eval a X.env) :: starEach [b] X.env := by rfl) (he2 : starEach [b] X.env = (false, eval b X.env) :: starEach [] X.env := by rfl) :
    G X B P0 H0 W ρ (.Assign [.Tuple [.Name x p1, .Name y p2] kt pt] (.Tuple [a, b] k2 pt2) pos :: rest) D := fun σ P H S =>
  ⟨_, pss_cons (ps_par hc hN hi hj hij hx hy (pa_cons pe_u (pa_cons pe_u pa_nil he2) he1) hw hs) pss_u, ha σ P H S _ fun v P1 H1 O s g1 k1 hO => hb σ P1 H1 (S.grow g1) _ fun w P2 H2 O' s' g2 k2 hO' => by
    refine ⟨v, w, rfl, ?_⟩
    have S2 := ((S.grow g1).grow g2).add (k1.grow g2) i (own_apart (H1 := H) S hO)
    refine kk O s O' s' ⟨_, _, _, k1⟩ ⟨_, _, _, k2⟩ _ P2 H2 (S2.add k2 j fun p hp r hr => ?_)
    rcases List.mem_append.mp hr with z | z
    · exact own_apart (H1 := H) (S.grow g1) hO' p hp r z
    · cases k1 with
      | dat _ => cases z
      | @own o' p' q1 q2 q3 =>
        have er : r = (p', o') := by simpa using z
        subst er
        intro e
        obtain ⟨u, hu⟩ := q3.there
        have q := hO' p hp
        rw [← e] at q
        rw [hu] at q
        cases q⟩
theorem g_par (i j : Nat) {kt k2 : Nat} {pt pt2 : Pos} (ha : DE X B P0 H0 W ρ true a d1) (hb : DE X B P0 H0 W ρ true b d2) (kk : G X B P0 H0 W ((ρ.set i (.dat d1)).set j (.dat d2)) rest D) (hc : X.calm = true := by assumption) (hN : X.N.Nodup := by assumption) (hi : X.N[i]? = some x := by rfl) (hj : X.N[j]? = some y := by rfl) (hij : i ≠ j := by decide)
    (hx : X.env.scope.names.lookup x = some .local := by rfl) (hy : X.env.scope.names.lookup y = some .local := by rfl)
    (hw : swappedStores [.Tuple [.Name x p1, .Name y p2] kt pt] (.Tuple [a, b] k2 pt2) X.env = pure (some [x, y]) := by rfl)
    (hs : swapsWithSole [.Tuple [.Name x p1, .Name y p2] kt pt] (.Tuple [a, b] k2 pt2) pos.line X.env = pure false := by rfl)
    (he1 : starEach [a, b] X.env = (false, eval a X.env) :: starEach [b] X.env := by rfl) (he2 : starEach [b] X.env = (false, eval b X.env) :: starEach [] X.env := by rfl) :
    G X B P0 H0 W ρ (.Assign [.Tuple [.Name x p1, .Name y p2] kt pt] (.Tuple [a, b] k2 pt2) pos :: rest) D :=
  g_parK i j (dk_dat ha) (dk_dat hb) (fun O s O' s' ⟨_, _, _, k1⟩ ⟨_, _, _, k2⟩ => by
    cases k1
    cases k2
    rw [List.append_nil, List.append_nil]
    exact kk) hc hN hi hj hij hx hy hw hs he1 he2
/-! ### one's own objects changed -/
theorem Sat.write {P H : Hp} {σ : L2.St} (S : Sat B P0 H0 W ρ σ P H) (k : Nat) {p : Addr} {o : Ob} {ob : Ob} {h : HO} (hW : W[k]? = some (p, o)) (hob : ObAt P (upd H p h) p ob) (hcd : ∀ c q, H p ≠ some (LamX.CodeO c q)) : Sat B P0 H0 (W.set k (p, ob)) ρ σ P (upd H p h) := by
  have hm := List.mem_of_getElem? hW
  obtain ⟨hP, hO⟩ := S.own _ hm
  have hF := S.fr _ hm
  have hk : k < W.length := (List.getElem?_eq_some_iff.mp hW).1
  have nP : ∀ a u, P a = some u → a ≠ p := fun a u e z => by
    subst z
    rw [hP] at e
    cases e
  have nH0 : ∀ a u, H0 a = some u → a ≠ p := fun a u e z => by
    subst z
    rw [hF] at e
    cases e
  have hmap : (W.set k (p, ob)).map (·.1) = W.map (·.1) := by
    rw [List.map_set]
    have e : (W.map (·.1))[k]? = some p := by rw [List.getElem?_map, hW]; rfl
    exact List.ext_getElem? fun j => by
      by_cases hj : k = j
      · subst hj
        rw [List.getElem?_set_self (by simpa using hk), e]
      · rw [List.getElem?_set_ne hj]
  refine { S with gr := ⟨fun a u e => ?_, S.gr.pp, fun a u e => ?_, S.gr.nw, S.gr.nd⟩, own := fun r hr => ?_, fr := fun r hr => ?_, nd := by rw [hmap]; exact S.nd }
  · rw [upd_ne (nH0 a u e)]
    exact S.gr.hh a u e
  · rw [upd_ne (nP a u e)]
    exact S.gr.ph a u e
  · obtain ⟨j, hj⟩ := List.mem_iff_getElem?.mp hr
    by_cases e : k = j
    · subst e
      rw [List.getElem?_set_self hk] at hj
      cases hj
      exact ⟨hP, hob⟩
    · rw [List.getElem?_set_ne e] at hj
      have hm' := List.mem_of_getElem? hj
      obtain ⟨h1, h2⟩ := S.own r hm'
      refine ⟨h1, ?_⟩
      have ne : r.1 ≠ p := fun z => by
        have a1 : (W.map (·.1))[j]? = some r.1 := by rw [List.getElem?_map, hj]; rfl
        have a2 : (W.map (·.1))[k]? = some p := by rw [List.getElem?_map, hW]; rfl
        rw [z] at a1
        exact e (nd_ix S.nd a2 a1)
      exact h2.else ne hcd
  · have : r.1 ∈ (W.set k (p, ob)).map (·.1) := List.mem_map.mpr ⟨r, hr, rfl⟩
    rw [hmap] at this
    obtain ⟨r', h1, h2⟩ := List.mem_map.mp this
    rw [← h2]
    exact S.fr r' h1
/-- xs.append(e) -/
theorem g_app (i k : Nat) {p : Addr} {apos cpos : Pos} (he : DE X B P0 H0 W ρ true e d) (kk : G X B P0 H0 (W.set k (p, .lst (ds ++ [d]))) ρ rest D) (hl : ds.length < sizeLine) (hρ : ρ[i]? = some (.raw (.ref p)) := by rfl) (hW : W[k]? = some (p, .lst ds) := by rfl) (hN : X.N[i]? = some x := by rfl)
    (hv : Vis X.env.scope x := by first | exact Or.inl rfl | exact Or.inr (Or.inl rfl) | exact Or.inr (Or.inr rfl)) (hd : (x == ("__debug__" : Str)) = false := by decide) (hcd : (x == ("__classdict__" : Str)) = false := by decide)
    (hbase : attributeBase (.Name x p1) "append" X.env (eval (.Name x p1) X.env) = eval (.Name x p1) X.env := by rfl)
    (hfew : ((backTo cpos (starEach [e] X.env)).all (fun x => !x.1) && (backToKw cpos (keywordEach [] X.env)).all (fun x => x.1.isSome)
      && decide ([e].length + ([] : List Keyword).length + (if ([] : List Keyword).isEmpty then 0 else 1) < 30)) = true := by rfl)
    (hline : (apos.endLine == cpos.line) = true := by rfl) (hs : starEach [e] X.env = (false, eval e X.env) :: starEach [] X.env := by rfl) (hplain : (backTo cpos (starEach [] X.env)).any (·.1) = false := by rfl)
    (hsw : swapsWith (.Call (.Attribute (.Name x p1) "append" apos) [e] [] cpos) none pos.line X.env = pure false := by rfl) :
    G X B P0 H0 W ρ (.Expr (.Call (.Attribute (.Name x p1) "append" apos) [e] [] cpos) pos :: rest) D := fun σ P H S => by
  obtain ⟨x', e1, e2⟩ := S.sl i _ hρ
  obtain rfl : x' = some (.ref p) := e2
  obtain ⟨hP, xs, h1, h2⟩ := S.own _ (List.mem_of_getElem? hW)
  refine ⟨_, pss_cons (ps_expr (pe_bm PySem.F.plainAttrs_list PySem.F.slot_list_append PySem.F.type_list_append mt_append (pe_var hN hv hd hcd) (pa_cons pe_u pa_nil hs) hbase hfew hline hs hplain) hsw) pss_u, _, e1, .inl ⟨rfl, _, SqL.of h1⟩, ?_⟩
  refine he σ P H S _ fun v P1 H1 g1 k1 => ?_
  have S1 := S.grow g1
  obtain ⟨hP1, xs1, h1', h2'⟩ := S1.own _ (List.mem_of_getElem? hW)
  refine ⟨p, xs1, v, rfl, rfl, h1', by rw [h2'.len]; exact hl, ?_⟩
  exact kk σ P1 _ (S1.write k hW ⟨_, upd_same, h2'.app (.cons k1 .nil)⟩ fun c q => by rw [h1']; exact code_lst)
theorem ixN_nat {n j : Nat} (h : j < n) : ixN n (j : Int) = some j := by
  unfold ixN
  rw [if_pos (by omega), if_pos (by omega)]
  simp
/-- xs[i] = e -/
theorem g_item (i k : Nat) {p : Addr} {n : Int} {j : Nat} {tp : Pos} (he : DE X B P0 H0 W ρ true e d) (hb : DE X B P0 H0 W ρ false b (.int n)) (kk : G X B P0 H0 (W.set k (p, .lst (ds.set j d))) ρ rest D) (hn : n = (j : Int)) (hj : j < ds.length) (hρ : ρ[i]? = some (.raw (.ref p)) := by rfl) (hW : W[k]? = some (p, .lst ds) := by rfl) (hN : X.N[i]? = some x := by rfl)
    (hv : Vis X.env.scope x := by first | exact Or.inl rfl | exact Or.inr (Or.inl rfl) | exact Or.inr (Or.inr rfl)) (hd : (x == ("__debug__" : Str)) = false := by decide) (hcd : (x == ("__classdict__" : Str)) = false := by decide)
    (hs : swapsWithSole [.Subscript (.Name x p1) b tp] e pos.line X.env = pure false := by rfl) (hw : swappedStores [.Subscript (.Name x p1) b tp] e X.env = pure none := by rfl)
    (h1 : (assignEach [.Subscript (.Name x p1) b tp] X.env).map (·.2) = [assign (.Subscript (.Name x p1) b tp) X.env] := by rfl) (hg : PG X (.Subscript (.Name x p1) b tp) (gSub (tVar i) (uE X b) rSetL) := by exact pg_sub (pe_var rfl (by first | exact Or.inl rfl | exact Or.inr (Or.inl rfl)) (by decide) (by decide)) pe_u set_list) :
    G X B P0 H0 W ρ (.Assign [.Subscript (.Name x p1) b tp] e pos :: rest) D := fun σ P H S => by
  subst hn
  obtain ⟨x', e1, e2⟩ := S.sl i _ hρ
  obtain rfl : x' = some (.ref p) := e2
  refine ⟨_, pss_cons (ps_asg pe_u hg hs hw h1) pss_u, he σ P H S _ fun v P1 H1 g1 k1 => ⟨_, e1, hb σ P1 H1 (S.grow g1) _ fun w P2 H2 g2 k2 => ?_⟩⟩
  cases k2
  have S2 := (S.grow g1).grow g2
  obtain ⟨hP2, xs, x1, x2⟩ := S2.own _ (List.mem_of_getElem? hW)
  refine ⟨p, xs, _, j, rfl, rfl, x1, ixN_nat (by rw [x2.len]; exact hj), ?_⟩
  exact kk σ P2 _ (S2.write k hW ⟨_, upd_same, x2.set (dq_mono g2.pp _ _ k1) j⟩ fun c q => by rw [x1]; exact code_lst)
end
end Dw

namespace Dw
open PySem PySem.Spec PyProof.Rows L2
def tyD : PyData → String
  | .none => "NoneType"
  | .bool _ => "bool"
  | .int _ => "int"
  | .str _ => "str"
  | .list _ => "list"
  | .tuple _ => "tuple"
  | .dict _ => "dict"
theorem kb_NoneType_int : kitB "NoneType" "int" = some false := by decide +kernel
theorem kb_NoneType_bool : kitB "NoneType" "bool" = some false := by decide +kernel
theorem kb_NoneType_str : kitB "NoneType" "str" = some false := by decide +kernel
theorem kb_bool_int : kitB "bool" "int" = some true := by decide +kernel
theorem kb_bool_bool : kitB "bool" "bool" = some true := by decide +kernel
theorem kb_bool_str : kitB "bool" "str" = some false := by decide +kernel
theorem kb_int_int : kitB "int" "int" = some true := by decide +kernel
theorem kb_int_bool : kitB "int" "bool" = some false := by decide +kernel
theorem kb_int_str : kitB "int" "str" = some false := by decide +kernel
theorem kb_str_int : kitB "str" "int" = some false := by decide +kernel
theorem kb_str_bool : kitB "str" "bool" = some false := by decide +kernel
theorem kb_str_str : kitB "str" "str" = some true := by decide +kernel
theorem kb_list_int : kitB "list" "int" = some false := by decide +kernel
theorem kb_list_bool : kitB "list" "bool" = some false := by decide +kernel
theorem kb_list_str : kitB "list" "str" = some false := by decide +kernel
theorem kb_tuple_int : kitB "tuple" "int" = some false := by decide +kernel
theorem kb_tuple_bool : kitB "tuple" "bool" = some false := by decide +kernel
theorem kb_tuple_str : kitB "tuple" "str" = some false := by decide +kernel
theorem bb_int : bootBuiltins "int" = some (.type "int") := by decide +kernel
theorem bb_bool : bootBuiltins "bool" = some (.type "bool") := by decide +kernel
theorem bb_str : bootBuiltins "str" = some (.type "str") := by decide +kernel
section
variable {X : Cx} {B P0 H0 : Hp} {W W' : List (Addr × Ob)} {ρ ρ' : List Sl} {m m1 m2 : Bool} {a b c e : Expr} {es : List Expr} {pos p1 p2 p3 p4 p5 : Pos} {d d1 d2 d3 : PyData} {ds es' : List PyData} {D : Ends} {rest body els : List Stmt} {x y z : Str}
theorem ty_of {K : PySem.W.Frag} {H : Hp} {v : V} (n : ∀ x, d ≠ .dict x) (h : Dq H v d) : TyX K H v (.type (tyD d)) := by
  cases h with
  | non => exact .base .non
  | bl b => exact .base (.bl b)
  | int i => exact .base (.int i)
  | str x => exact .base (.str x)
  | lst h _ => exact .base (.lst h)
  | tup h _ => exact .base (.tup h)
  | exc h => exact (n _ rfl).elim
/-- isinstance(a, T), T a built-in type -/
theorem de_isi {T : String} {k : Bool} (hm : X.mg "isinstance" = Option.none) (hT : X.mg x = Option.none) (hb : bootBuiltins x = some (.type T)) (ha : DE X B P0 H0 W ρ false a d) (hk : kitB (tyD d) T = some k := by first | exact kb_int_int | exact kb_int_bool | exact kb_int_str | exact kb_bool_int | exact kb_bool_bool | exact kb_bool_str | exact kb_NoneType_int | exact kb_NoneType_bool | exact kb_NoneType_str | exact kb_str_int | exact kb_str_bool | exact kb_str_str | exact kb_list_int | exact kb_list_bool | exact kb_list_str | exact kb_tuple_int | exact kb_tuple_bool | exact kb_tuple_str) (hg : Gl X "isinstance" := by rfl) (hgT : Gl X x := by rfl) (hnT : x ≠ "__name__" := by decide) (hdT : (x == ("__debug__" : Str)) = false := by decide)
    (he1 : starEach [a, .Name x p2] X.env = (false, eval a X.env) :: starEach [.Name x p2] X.env := by rfl) (he2 : starEach [.Name x p2] X.env = (false, eval (.Name x p2) X.env) :: starEach [] X.env := by rfl) (hpl : (backTo pos (starEach [.Name x p2] X.env)).any (·.1) = false := by rfl) (hnd : ∀ x, d ≠ .dict x := by intro x z; cases z) :
    DE X B P0 H0 W ρ m (.Call (.Name "isinstance" p1) [a, .Name x p2] [] pos) (.bool k) := fun σ P H S Q q =>
  ⟨_, pe_callB call_isi hg hm (by decide +kernel) (pa_cons pe_u (pa_cons (pe_bltn (v := .ty T) hgT hT hb rfl hnT hdT) pa_nil he2) he1) (by decide) (by decide) he1 hpl, ha σ P H S _ fun v P1 H1 g1 k1 =>
    ⟨v, .ty T, .type (tyD d), .type T, k, rfl, .ty T, ty_of hnd (dq_mono (vw_hp S.e0 (S.gr.trans g1)) _ _ k1), kit_ty hk, q _ P1 H1 g1 (.bl _)⟩⟩
/-- raise C('..') -/
theorem g_raise {C : Addr} {ms : Str} {j : Nat} {W0 : WX} (hc : X.calm = true) (tk : L2N.Takes X W0) (xC : PySem.W.excIn X.K C [.type "ValueError", .type "Exception", .type "BaseException", .type "object"] "ValueError.__new__" = true) (gC : X.mg x = some (.ref C)) (kC : PySem.W.keepIn X.K (.ref C) = true)
    (b1 : PySem.W.subIn X.K (.ref C) (.type "BaseException") = some true) (b2 : PySem.W.typeIn X.K (.ref C) = some (.type "type")) (hE : ∀ σ P H, Gr P0 H0 P H → W0 (.ref C) none σ H) (hg : Gl X x := by rfl) (hdb : (x == ("__debug__" : Str)) = false := by decide) :
    G X B P0 H0 W ρ (.Raise (some (.Call (.Name x p1) [.Constant (.str ms) j p2] [] p3)) none pos :: rest) D := fun σ P H S =>
  ⟨_, pss_cons (L2N.ps_raise hc tk (L2N.pmk_own PySem.F.excBase_ValueError xC gC kC (raises_own b1 b2) hg hdb)) pss_u, hE σ P H S.gr⟩
/-- x += e, ints -/
theorem g_aug (i : Nat) {u v : Int} (he : DE X B P0 H0 W ρ false e (.int v)) (k : G X B P0 H0 W (ρ.set i (.dat (.int (u + v)))) rest D) (hN : X.N.Nodup := by assumption) (hρ : ρ[i]? = some (.dat (.int u)) := by rfl) (hi : X.N[i]? = some x := by rfl) (hx : Loc X.env.scope x := by first | exact Or.inl rfl | exact Or.inr rfl)
    (hf : X.fn x = true ∨ X.env.scope.names.lookup x = some .local := by first | exact .inl rfl | exact .inr rfl) : G X B P0 H0 W ρ (.AugAssign (.Name x p1) .Add e pos :: rest) D := fun σ P H S => by
  obtain ⟨x', e1, w, e2, hq⟩ := S.sl i _ hρ
  subst e2
  cases hq
  refine ⟨_, pss_cons (ps_aug (i := i) hN hi hx pe_u ip_add hf) pss_u, _, e1, he σ P H S _ fun v P1 H1 g1 k1 => ?_⟩
  cases k1
  exact ⟨_, _, rfl, rfl, k _ P1 H1 ((S.grow g1).put i (s := .dat _) ⟨_, rfl, .int _⟩)⟩
end
end Dw

namespace Dw
open PySem PySem.Spec PyProof.Rows L2
/-- what an iterator yields, told as data -/
def YD (J : It) (P1 : Hp) (ds : List PyData) : Prop := ∃ (Y : Nat → Hp → V → Hp → Prop) (Gd : Hp → Prop), Walk J ds.length Gd Y ∧ (∀ H, Same P1 H → Gd H) ∧
  ∀ i P2 H2 x H3, i < ds.length → Same P1 P2 → Same P2 H2 → Y i H2 x H3 → ∃ P3 d, ds[i]? = some d ∧ Gr P2 H2 P3 H3 ∧ Dq P3 x d
def DI (X : Cx) (B P0 H0 : Hp) (W : List (Addr × Ob)) (ρ : List Sl) (tg iter : Expr) (ds : List PyData) : Prop :=
  ∃ wi, PI X tg iter wi ∧ ∀ σ P H, Sat B P0 H0 W ρ σ P H → ∀ R : It → Hp → Prop, (∀ J P' H', Gr P H P' H' → YD J P' ds → R J H') → wi σ H R
section
variable {X : Cx} {B P0 H0 : Hp} {W W' : List (Addr × Ob)} {ρ ρ' : List Sl} {m m1 m2 : Bool} {a b c e tg iter elt : Expr} {es ifs : List Expr} {pos p1 p2 p3 p4 p5 : Pos} {d d1 d2 d3 : PyData} {ds es' : List PyData} {D : Ends} {rest body els : List Stmt} {x y z : Str}
theorem di_list (he : DE X B P0 H0 W ρ true e (.list ds)) : DI X B P0 H0 W ρ tg e ds := ⟨_, pi_list pe_u, fun σ P H S R q => he σ P H S _ fun v P1 H1 g1 k1 => by
  cases k1 with
  | @lst l xs _ hl ha =>
    have gr := S.gr.trans g1
    have hn := DqAll.len ha
    refine ⟨l, rfl, ⟨xs, SqL.of (gr.ph _ _ hl)⟩, q _ P1 H1 g1 ⟨YAt xs, fun H => SqL X.K H l xs, by rw [← hn]; exact walk_list, fun H sm => SqL.of (sm _ _ hl), fun i P2 H2 x H3 hi s1 s2 y => ?_⟩⟩
    obtain ⟨rfl, hx⟩ := y
    obtain ⟨d, h1, h2⟩ := DqAll.get' ha hx
    exact ⟨P2, d, h1, Gr.refl s2, dq_mono s1 _ _ h2⟩⟩
theorem di_tup (he : DE X B P0 H0 W ρ true e (.tuple ds)) : DI X B P0 H0 W ρ tg e ds := ⟨_, pi_tup pe_u, fun σ P H S R q => he σ P H S _ fun v P1 H1 g1 k1 => by
  cases k1 with
  | @tup l xs _ hl ha =>
    have gr := S.gr.trans g1
    have hn := DqAll.len ha
    refine ⟨l, rfl, ⟨xs, SqT.of (gr.ph _ _ hl)⟩, q _ P1 H1 g1 ⟨YAt xs, fun H => SqT X.K H l xs, by rw [← hn]; exact walk_tup, fun H sm => SqT.of (sm _ _ hl), fun i P2 H2 x H3 hi s1 s2 y => ?_⟩⟩
    obtain ⟨rfl, hx⟩ := y
    obtain ⟨d, h1, h2⟩ := DqAll.get' ha hx
    exact ⟨P2, d, h1, Gr.refl s2, dq_mono s1 _ _ h2⟩⟩
theorem yd_fn {J : It} {P1 : Hp} {n : Nat} {f : Nat → Int} (w : Walk J n (fun _ => True) (YFn fun i => V.int (f i))) : YD J P1 ((List.range n).map fun i => .int (f i)) := by
  refine ⟨YFn fun i => V.int (f i), fun _ => True, by simpa using w, fun _ _ => trivial, fun i P2 H2 x H3 hi s1 s2 y => ?_⟩
  obtain ⟨rfl, rfl⟩ := y
  have hi' : i < n := by simpa using hi
  exact ⟨P2, .int (f i), by rw [List.getElem?_map, List.getElem?_range hi']; rfl, Gr.refl s2, .int _⟩
theorem di_range {n : Int} (hm : X.mg "range" = Option.none) (he : DE X B P0 H0 W ρ false a (.int n)) (hn : -(2 ^ 62) ≤ n ∧ n < 2 ^ 62) (hg : Gl X "range" := by rfl) (hs1 : starEach [a] X.env = [(false, eval a X.env)] := by rfl) :
    DI X B P0 H0 W ρ tg (.Call (.Name "range" p1) [a] [] p2) ((List.range n.toNat).map fun i => .int (i : Nat)) := ⟨_, pi_range1 hg hm (pa_cons pe_u pa_nil hs1) hs1, fun σ P H S R q => he σ P H S _ fun v P1 H1 g1 k1 => by
  cases k1
  refine ⟨n, rfl, hn.1, hn.2, q _ P1 H1 g1 ?_⟩
  have h := yd_fn (P1 := P1) (walk_range (lo := 0) (n := n.toNat))
  simpa using h⟩
theorem di_range2 {l n : Int} (hm : X.mg "range" = Option.none) (ha : DE X B P0 H0 W ρ false a (.int l)) (hb : DE X B P0 H0 W ρ false b (.int n)) (hn : -(2 ^ 62) ≤ l ∧ l < 2 ^ 62 ∧ -(2 ^ 62) ≤ n ∧ n < 2 ^ 62) (hg : Gl X "range" := by rfl)
    (hs1 : starEach [a, b] X.env = [(false, eval a X.env), (false, eval b X.env)] := by rfl) (hs2 : starEach [b] X.env = [(false, eval b X.env)] := by rfl) :
    DI X B P0 H0 W ρ tg (.Call (.Name "range" p1) [a, b] [] p2) ((List.range (n - l).toNat).map fun i => .int (l + (i : Nat))) := ⟨_, pi_range2 hg hm (pa_cons pe_u (pa_cons pe_u pa_nil hs2) (hs1.trans (by rw [hs2]))) hs1 hs2, fun σ P H S R q => ha σ P H S _ fun v P1 H1 g1 k1 => hb σ P1 H1 (S.grow g1) _ fun w P2 H2 g2 k2 => by
  cases k1
  cases k2
  exact ⟨l, n, rfl, hn, q _ P2 H2 (g1.trans g2) (yd_fn walk_range)⟩⟩
theorem di_range3 {i0 j0 c0 : Int} {n : Nat} (hm : X.mg "range" = Option.none) (ha : DE X B P0 H0 W ρ false a (.int i0)) (hb : DE X B P0 H0 W ρ false b (.int j0)) (hcc : DE X B P0 H0 W ρ false c (.int c0)) (hn : RgC i0 j0 c0 n) (hg : Gl X "range" := by rfl)
    (hs1 : starEach [a, b, c] X.env = (false, eval a X.env) :: starEach [b, c] X.env := by rfl) (hs2 : starEach [b, c] X.env = (false, eval b X.env) :: starEach [c] X.env := by rfl) (hs3 : starEach [c] X.env = (false, eval c X.env) :: starEach [] X.env := by rfl) (hpl : (backTo p2 (starEach [b, c] X.env)).any (·.1) = false := by rfl) :
    DI X B P0 H0 W ρ tg (.Call (.Name "range" p1) [a, b, c] [] p2) ((List.range n).map fun i => .int (i0 + (i : Nat) * c0)) := ⟨_, pi_range3 hg hm (pa_cons pe_u (pa_cons pe_u (pa_cons pe_u pa_nil hs3) hs2) hs1) hs1 hpl, fun σ P H S R q => ha σ P H S _ fun v P1 H1 g1 k1 => hb σ P1 H1 (S.grow g1) _ fun w P2 H2 g2 k2 => hcc σ P2 H2 ((S.grow g1).grow g2) _ fun w3 P3 H3 g3 k3 => by
  cases k1
  cases k2
  cases k3
  exact ⟨i0, j0, c0, n, rfl, hn, q _ P3 H3 ((g1.trans g2).trans g3) (yd_fn walk_rangeC)⟩⟩
/-- enumerate(list) -/
def enumD (ds : List PyData) : List PyData := (List.range ds.length).map fun i => .tuple [.int (i : Nat), ds.getD i .none]
theorem di_enum {elts : List Expr} {kk : Nat} {tpos : Pos} (hm : X.mg "enumerate" = Option.none) (he : DE X B P0 H0 W ρ true e (.list ds)) (hg : Gl X "enumerate" := by rfl) (hs1 : starEach [e] X.env = [(false, eval e X.env)] := by rfl) :
    DI X B P0 H0 W ρ (.Tuple elts kk tpos) (.Call (.Name "enumerate" p1) [e] [] p2) (enumD ds) := ⟨_, pi_enum hg hm (pa_cons pe_u pa_nil hs1) hs1, fun σ P H S R q => he σ P H S _ fun v P1 H1 g1 k1 => by
  cases k1 with
  | @lst l xs _ hl ha =>
    have gr := S.gr.trans g1
    have hn := DqAll.len ha
    have hn2 : (enumD ds).length = xs.length := by unfold enumD; rw [List.length_map, List.length_range, hn]
    refine ⟨l, xs, rfl, SqL.of (gr.ph _ _ hl), q _ P1 H1 g1 ⟨_, fun H => SqL X.K H l xs, by rw [hn2]; exact walk_enum, fun H sm => SqL.of (sm _ _ hl), fun i P2 H2 x H3 hi s1 s2 y => ?_⟩⟩
    obtain ⟨T, u, w, rfl, hT, rfl, h1, h2⟩ := y
    cases h1
    obtain ⟨d, h3, h4⟩ := DqAll.get' ha h2
    have hi' : i < ds.length := (List.getElem?_eq_some_iff.mp h3).1
    refine ⟨upd P2 T (.tup [.int (i : Nat), w]), .tuple [.int (i : Nat), d], ?_, Gr.new s2 hT, .tup upd_same (.cons (.int _) (.cons (dq_mono (s1.trans (same_new (s2.free hT))) _ _ h4) .nil))⟩
    unfold enumD
    rw [List.getElem?_map, List.getElem?_range hi']
    have e : ds.getD i .none = d := by rw [List.getD_eq_getElem?_getD, h3]; rfl
    show some (PyData.tuple [.int (i : Nat), ds.getD i .none]) = _
    rw [e]⟩
/-- a text's signs -/
def signsD (s : Str) : List PyData := s.cps.toList.map fun c => .str ⟨#[c]⟩
theorem di_str {s : Str} (he : DE X B P0 H0 W ρ false e (.str s)) : DI X B P0 H0 W ρ tg e (signsD s) := ⟨_, pi_str pe_u, fun σ P H S R q => he σ P H S _ fun v P1 H1 g1 k1 => by
  cases k1
  refine ⟨s, rfl, q _ P1 H1 g1 ⟨_, fun _ => True, by unfold signsD; rw [List.length_map, Array.length_toList]; exact walk_str, fun _ _ => trivial, fun i P2 H2 x H3 hi s1 s2 y => ?_⟩⟩
  obtain ⟨rfl, c, h1, rfl⟩ := y
  exact ⟨P2, .str ⟨#[c]⟩, by unfold signsD; rw [List.getElem?_map, Array.getElem?_toList, h1]; rfl, Gr.refl s2, .str _⟩⟩
/-- reversed(range(a, b)): from the end -/
theorem di_revR {l n : Int} (hm : X.mg "range" = Option.none) (hm2 : X.mg "reversed" = Option.none) (ha : DE X B P0 H0 W ρ false a (.int l)) (hb : DE X B P0 H0 W ρ false b (.int n)) (hn : -(2 ^ 62) ≤ l ∧ l < 2 ^ 62 ∧ -(2 ^ 62) ≤ n ∧ n < 2 ^ 62)
    (hpr : PRg X (.Call (.Name "range" p1) [a, b] [] p2) (fun σ H R => uE X a σ H fun v H1 => uE X b σ H1 fun w H2 => ∃ i j, v = .int i ∧ w = .int j ∧ R i j H2)) (hg : Gl X "reversed" := by rfl)
    (hs : starEach [.Call (.Name "range" p1) [a, b] [] p2] X.env = (false, eval (.Call (.Name "range" p1) [a, b] [] p2) X.env) :: starEach [] X.env := by rfl) :
    DI X B P0 H0 W ρ tg (.Call (.Name "reversed" p3) [.Call (.Name "range" p1) [a, b] [] p2] [] p4) ((List.range (n - l).toNat).map fun i => .int (l + (((n - l).toNat : Nat) : Int) - 1 + (i : Nat) * (-1))) := ⟨_, pi_revR hg hm2 hpr hs, fun σ P H S R q => ha σ P H S _ fun v P1 H1 g1 k1 => hb σ P1 H1 (S.grow g1) _ fun w P2 H2 g2 k2 => by
  cases k1
  cases k2
  exact ⟨l, n, rfl, rfl, hn.1, hn.2.1, hn.2.2.1, hn.2.2.2, q _ P2 H2 (g1.trans g2) (yd_fn walk_rangeC)⟩⟩
/-! ### for -/
theorem g_forI {α : Type} {up : List Sl → PyData → List Sl → Prop} (Iv : Nat → α → Prop) (Wf : α → List (Addr × Ob)) (ρf : α → List Sl) (s0 : α) (hp : PassesOwn (model X.prog X.w) X.A X.env X.xe) (hc : X.calm = true) (he : DI X B P0 H0 W ρ tg iter ds) (ht : GT X tg up) (h0 : Iv 0 s0) (hW : Wf s0 = W) (hρ : Fg (ρf s0) ρ)
    (hs : ∀ B', Same B B' → ∀ i s d, ds[i]? = some d → Iv i s → ∃ ρ', up (ρf s) d ρ' ∧ G X B' P0 H0 (Wf s) ρ' body (endsF X B' P0 H0 rest D Iv Wf ρf (i + 1))) (hd : ∀ B', Same B B' → ∀ s, Iv ds.length s → G X B' P0 H0 (Wf s) (ρf s) rest D)
    (hss : ∀ x, foldedSetIterable iter X.env x = pure x := by intro _; rfl) : G X B P0 H0 W ρ (.For tg iter body [] pos :: rest) D := fun σ P H S => by
  obtain ⟨g, hg, hgt⟩ := ht
  obtain ⟨wi, hpi, hwi⟩ := he
  refine ⟨_, pss_cons (ps_for hp hc hpi hg pss_u hss) pss_u, hwi σ P H S _ fun J P1 H1 g1 ⟨Y, Gd, hw, hGd, hy⟩ => ?_⟩
  refine for_it hw (fun i σ H => ∃ s, Iv i s ∧ ∃ P, Sat P1 P0 H0 (Wf s) (ρf s) σ P H) ⟨s0, h0, P1, by rw [hW]; exact ((S.grow g1).fg hρ).mark (Same.refl P1)⟩ (fun i σ H _ ⟨s, _, P, S⟩ => hGd H (S.sb.trans S.gr.ph)) ?_ ?_
  · rintro i x σ2 H2 H3 hi ⟨s, is, P2, S2⟩ y
    obtain ⟨P3, d, h1, h2, h3⟩ := hy i P2 H2 x H3 hi S2.sb S2.gr.ph y
    obtain ⟨ρ', hu, hb⟩ := hs P1 ((S.grow g1).sb) i s d h1 is
    exact hgt P1 P0 H0 _ _ σ2 P3 H3 x d ρ' _ (S2.grow h2) h3 hu fun σ3 S3 => hb σ3 P3 H3 S3
  · rintro σ2 H2 ⟨s, is, P2, S2⟩
    exact hd P1 ((S.grow g1).sb) s is σ2 P2 H2 S2
/-! ### comprehensions -/
def wipeS (ρ : List Sl) : List Nat → List Sl
  | [] => ρ
  | v :: vs => (wipeS ρ vs).set v .no
theorem wipe_len (σ : L2.St) (vs : List Nat) : (wipe σ vs).length = σ.length := by
  induction vs with
  | nil => rfl
  | cons v vs ih => unfold wipe; rw [List.length_set, ih]
theorem wipeS_len (ρ : List Sl) (vs : List Nat) : (wipeS ρ vs).length = ρ.length := by
  induction vs with
  | nil => rfl
  | cons v vs ih => unfold wipeS; rw [List.length_set, ih]
theorem Sat.wipe {σ : L2.St} {P H : Hp} (S : Sat B P0 H0 W ρ σ P H) : ∀ vs : List Nat, Sat B P0 H0 W (wipeS ρ vs) (L2.wipe σ vs) P H
  | [] => S
  | v :: vs => by
    have S' := Sat.wipe S vs
    refine { S' with len := ?_, sl := fun i s h => ?_ }
    · rw [wipe_len, wipeS_len]; exact S.len
    · unfold wipeS at h
      unfold L2.wipe
      by_cases e : v = i
      · subst e
        have hi : v < (wipeS ρ vs).length := by
          have := (List.getElem?_eq_some_iff.mp h).1
          rwa [List.length_set] at this
        rw [List.getElem?_set_self hi] at h
        cases h
        exact ⟨none, by rw [List.getElem?_set_self (by rw [wipe_len, S.len, ← wipeS_len ρ vs]; exact hi)], trivial⟩
      · rw [List.getElem?_set_ne e] at h
        obtain ⟨x, a, b⟩ := S'.sl i s h
        exact ⟨x, by rw [List.getElem?_set_ne e]; exact a, b⟩
theorem wipe_at (σ : L2.St) (i : Nat) : ∀ vs : List Nat, (wipe σ vs)[i]? = if i < σ.length then (if i ∈ vs then some none else σ[i]?) else none
  | [] => by
    unfold wipe
    by_cases h : i < σ.length
    · rw [if_pos h, if_neg (by simp)]
    · rw [if_neg h, List.getElem?_eq_none (by omega)]
  | v :: vs => by
    unfold wipe
    by_cases e : v = i
    · subst e
      by_cases h : v < σ.length
      · rw [List.getElem?_set_self (by rw [wipe_len]; exact h), if_pos h, if_pos (by simp)]
      · rw [List.getElem?_eq_none (by rw [List.length_set, wipe_len]; omega), if_neg h]
    · rw [List.getElem?_set_ne e, wipe_at σ i vs]
      have : i ∈ v :: vs ↔ i ∈ vs := by simp [Ne.symm e]
      simp only [this]
theorem wipe_eq {σ τ : L2.St} {vs : List Nat} (hl : τ.length = σ.length) (h : ∀ i, i ∉ vs → τ[i]? = σ[i]?) : wipe τ vs = wipe σ vs := by
  refine List.ext_getElem? fun i => ?_
  rw [wipe_at, wipe_at, hl]
  by_cases hi : i < σ.length
  · rw [if_pos hi, if_pos hi]
    by_cases hv : i ∈ vs
    · rw [if_pos hv, if_pos hv]
    · rw [if_neg hv, if_neg hv, h i hv]
  · rw [if_neg hi, if_neg hi]
/-- a target's reading within a block: it stores into the slots vs alone -/
structure GB (g : TG) (vs : List Nat) (up : List Sl → PyData → List Sl → Prop) : Prop where
  run : ∀ (B P0 H0 : Hp) W ρ σ P H v d ρ' (Q : L2.St → Hp → Prop), Sat B P0 H0 W ρ σ P H → Dq P v d → up ρ d ρ' → (∀ σ', Sat B P0 H0 W ρ' σ' P H → wipe σ' vs = wipe σ vs → Q σ' H) → g v σ H Q
theorem gb_name (i : Nat) {vs : List Nat} (hi : i ∈ vs) : GB (gName i) vs (fun ρ d ρ' => ρ' = ρ.set i (.dat d)) := ⟨fun B P0 H0 W ρ σ P H v d ρ' Q S k u q => by
  subst u
  refine q _ (S.put i (s := .dat d) ⟨v, rfl, k⟩) (wipe_eq (by rw [List.length_set]) fun j hj => ?_)
  rw [List.getElem?_set_ne (fun z => hj (by rw [← z]; exact hi))]⟩
theorem gb_pair (K : PySem.W.Frag) (i j : Nat) {vs : List Nat} (hi : i ∈ vs) (hj : j ∈ vs) : GB (gTup K 2 (gCons (gName i) (gCons (gName j) gNil))) vs (fun ρ d ρ' => ∃ d1 d2, d = .tuple [d1, d2] ∧ ρ' = (ρ.set i (.dat d1)).set j (.dat d2)) := ⟨fun B P0 H0 W ρ σ P H v d ρ' Q S k u q => by
  obtain ⟨d1, d2, rfl, rfl⟩ := u
  cases k with
  | tup h ha =>
    cases ha with
    | cons r1 ha =>
      cases ha with
      | cons r2 ha =>
        cases ha
        refine ⟨_, _, rfl, SqT.of (S.gr.ph _ _ h), rfl, _, _, rfl, _, _, rfl, rfl, q _ ((S.put i (s := .dat d1) ⟨_, rfl, r1⟩).put j (s := .dat d2) ⟨_, rfl, r2⟩) (wipe_eq (by rw [List.length_set, List.length_set]) fun l hl => ?_)⟩
        rw [List.getElem?_set_ne (fun z => hl (by rw [← z]; exact hj)), List.getElem?_set_ne (fun z => hl (by rw [← z]; exact hi))]⟩
theorem wipe_twice (σ : L2.St) (vs : List Nat) : wipe (wipe σ vs) vs = wipe σ vs := by
  refine wipe_eq (wipe_len _ _) fun i hi => ?_
  rw [wipe_at]
  by_cases h : i < σ.length
  · rw [if_pos h, if_neg hi]
  · rw [if_neg h, List.getElem?_eq_none (by omega)]
/-- the block's contexts -/
abbrev Blk (X : Cx) (scope : Scope) (s : Shared) (H : Hp) (C : Addr) (cl : List (Str × Addr)) (fp : List Addr) : Cx := X.blk s H scope (compEnvC scope cl C X.env) fp
/-- the tests of a comprehension: none, or one -/
def uTs (X : Cx) (ifs : List Expr) : TT := fun σ H Q => ∃ t, PTs X ifs t ∧ t σ H Q
theorem pts_u : PTs X ifs (uTs X ifs) := ⟨fun pins s σ H Q I ⟨t, ht, h⟩ => ht.run pins s σ H Q I h⟩
def DTs (X : Cx) (B P0 H0 : Hp) (W : List (Addr × Ob)) (ρ : List Sl) (ifs : List Expr) (b : Bool) : Prop := ∀ σ P H, Sat B P0 H0 W ρ σ P H → ∀ Q : Bool → Hp → Prop, (∀ P' H', Gr P H P' H' → Q b H') → uTs X ifs σ H Q
theorem dts_nil : DTs X B P0 H0 W ρ [] true := fun σ P H S Q q => ⟨_, pts_nil, q P H (gr_refl S)⟩
theorem dts_one {k : Bool} (h : DT X B P0 H0 W ρ c k) : DTs X B P0 H0 W ρ [c] k := fun σ P H S Q q => ⟨_, pts_one pt_u, h σ P H S Q q⟩
/-- what a comprehension gives -/
def compD (ds : List PyData) (f : PyData → Bool) (v : PyData → PyData) : List PyData := (ds.filter f).map v
theorem compD_snoc {ds : List PyData} {d : PyData} {f : PyData → Bool} {v : PyData → PyData} : compD (ds ++ [d]) f v = compD ds f v ++ (if f d = true then [v d] else []) := by
  unfold compD
  rw [List.filter_append, List.map_append]
  congr 1
  by_cases h : f d = true
  · rw [if_pos h, List.filter_cons, if_pos h]; rfl
  · rw [if_neg h, List.filter_cons, if_neg h]; rfl
theorem compD_len (ds : List PyData) (f : PyData → Bool) (v : PyData → PyData) : (compD ds f v).length ≤ ds.length := by
  unfold compD
  rw [List.length_map]
  exact List.length_filter_le _ _
theorem Gr.poke {P H P' H' : Hp} {a : Addr} {o : HO} (g : Gr P H P' H') (h : H a = Option.none) (h' : P' a = Option.none) : Gr P H P' (upd H' a o) :=
  ⟨fun b u e => by rw [upd_ne (ne_of_none e h)]; exact g.hh b u e, g.pp, fun b u e => by rw [upd_ne (ne_of_none e h')]; exact g.ph b u e, g.nw, g.nd⟩
theorem Sat.poke {σ : L2.St} {P H : Hp} {p : Addr} {h : HO} (S : Sat B P0 H0 W ρ σ P H) (hP : P p = Option.none) (hF : H0 p = Option.none) (hW : ∀ r ∈ W, r.1 ≠ p) (hcd : ∀ c q, H p ≠ some (LamX.CodeO c q)) : Sat B P0 H0 W ρ σ P (upd H p h) := by
  refine { S with gr := S.gr.poke hF hP, own := fun r hr => ?_ }
  obtain ⟨h1, h2⟩ := S.own r hr
  exact ⟨h1, h2.else (hW r hr) hcd⟩
/-- [elt for tg in iter if ..]: f tells which are kept, v what is made of each -/
theorem lc_core' {scope : Scope} {own : List (Str × Nat)} {g : TG} {up : List Sl → PyData → List Sl → Prop} (f : PyData → Bool) (v : PyData → PyData) (he : DI X B P0 H0 W ρ tg iter ds) (hl : ds.length < sizeLine) (hb : GB g (own.map (·.2)) up)
    (hel : ∀ d ∈ ds, ∃ ρ', up (wipeS ρ (own.map (·.2))) d ρ' ∧ ∀ (s : Shared) (H : Hp) (C : Addr) (cl : List (Str × Addr)) (fp : List Addr) (B : Hp), DTs (Blk X scope s H C cl fp) B P0 H0 W ρ' ifs (f d) ∧ (f d = true → DE (Blk X scope s H C cl fp) B P0 H0 W ρ' true elt (v d)))
    {σ : L2.St} {P H : Hp} (S : Sat B P0 H0 W ρ σ P H) {Q : VK} (q : ∀ Dl acc P' H', Gr P H P' H' → P' Dl = Option.none → H Dl = Option.none → H' Dl = some (.lst acc) → DqAll P' acc (compD ds f v) → Q (.ref Dl) H') :
    ∃ wi, PI X tg iter wi ∧ tLc wi g (fun σ H Q => ∀ s H0 C cl fp, uTs (Blk X scope s H0 C cl fp) ifs σ H Q) (fun σ H Q => ∀ s H0 C cl fp, uE (Blk X scope s H0 C cl fp) elt σ H Q) (own.map (·.2)) σ H Q := by
  obtain ⟨wi, hpi, hwi⟩ := he
  refine ⟨wi, hpi, hwi σ P H S _ fun J P1 H1 g1 ⟨Y, Gd, hw, hGd, hy⟩ => fun Dl hD => ?_⟩
  have S1 := S.grow g1
  have HD : H Dl = Option.none := g1.hh.free hD
  have hap : ∀ r ∈ W, r.1 ≠ Dl := fun r hr e => by
    obtain ⟨u, hu⟩ := (S1.own r hr).2.there
    rw [e, hD] at hu
    cases hu
  refine lc_it (D := Dl) (σ := σ) (vs := own.map (·.2)) (g := g) (tt := fun σ H Q => ∀ s H0 C cl fp, uTs (Blk X scope s H0 C cl fp) ifs σ H Q) (te := fun σ H Q => ∀ s H0 C cl fp, uE (Blk X scope s H0 C cl fp) elt σ H Q) (Qd := fun H => Q (.ref Dl) H) hw
    (fun i H2 => ∃ P2 acc, Sat P1 P0 H0 W (wipeS ρ (own.map (·.2))) (L2.wipe σ (own.map (·.2))) P2 H2 ∧ Gr P H P2 H2 ∧ P2 Dl = Option.none ∧ H2 Dl = some (.lst acc) ∧ DqAll P2 acc (compD (ds.take i) f v)) ?_ (fun i H2 _ ⟨P2, acc, S2, _⟩ => hGd H2 (S2.sb.trans S2.gr.ph)) ?_ ?_
  · have gt : Gr P1 H1 P1 (upd H1 Dl (.lst [])) := Gr.tmp S1.gr.ph hD
    exact ⟨P1, [], ((S1.grow gt).wipe _).mark (Same.refl P1), g1.trans gt, S1.gr.ph.free hD, upd_same, by rw [List.take_zero]; exact .nil⟩
  · rintro i x H2 H3 hi ⟨P2, acc, S2, g2, k1, k2, k3⟩ y
    obtain ⟨P3, d, h1, h2, h3⟩ := hy i P2 H2 x H3 hi S2.sb S2.gr.ph y
    have hd : d ∈ ds := List.mem_of_getElem? h1
    have htk : ds.take (i + 1) = ds.take i ++ [d] := by
      rw [List.take_add_one, h1]; rfl
    obtain ⟨ρ', hu, hel'⟩ := hel d hd
    refine hb.run P1 P0 H0 W _ _ P3 H3 x d ρ' _ (S2.grow h2) h3 hu fun σ3 S3 hw3 => ⟨by rw [hw3, wipe_twice], ?_⟩
    have hT := fun s H C cl fp => (hel' s H C cl fp P1).1
    have back : ∀ {P' H'}, Gr P3 H3 P' H' → Sat P1 P0 H0 W (wipeS ρ (own.map (·.2))) (L2.wipe σ (own.map (·.2))) P' H' := fun g' => S2.grow (h2.trans g')
    intro s H0' C cl fp
    refine hT s H0' C cl fp σ3 P3 H3 S3 _ fun P4 H4 g4 => ?_
    have a4 : P4 Dl = Option.none := (h2.trans g4).stay k1 k2
    have b4 : H4 Dl = some (.lst acc) := (h2.trans g4).hh _ _ k2
    cases hf : f d with
    | true =>
      refine iteT fun s H0' C cl fp => (hel' s H0' C cl fp P1).2 hf σ3 P4 H4 (S3.grow g4) _ fun y P5 H5 g5 k5 => ?_
      have a5 : P5 Dl = Option.none := g5.stay a4 b4
      have b5 : H5 Dl = some (.lst acc) := g5.hh _ _ b4
      have hlen : acc.length ≤ i := by
        rw [k3.len]
        exact Nat.le_trans (compD_len _ _ _) (by rw [List.length_take]; exact Nat.min_le_left _ _)
      refine ⟨acc, b5, by omega, P5, acc ++ [y], (back (g4.trans g5)).poke a5 (S.gr.hh.free HD) hap (fun c q => by rw [b5]; exact code_lst), (g2.trans (h2.trans (g4.trans g5))).poke HD a5, a5, upd_same, ?_⟩
      rw [htk, compD_snoc, if_pos hf]
      exact (dqAll_mono (h2.trans (g4.trans g5)).pp _ _ k3).app (.cons k5 .nil)
    | false =>
      refine iteF ⟨P4, acc, back g4, g2.trans (h2.trans g4), a4, b4, ?_⟩
      rw [htk, compD_snoc, if_neg (by rw [hf]; decide), List.append_nil]
      exact dqAll_mono (h2.trans g4).pp _ _ k3
  · rintro H2 ⟨P2, acc, S2, g2, k1, k2, k3⟩
    rw [List.take_length] at k3
    exact q Dl acc P2 H2 g2 k1 HD k2 k3
/-- the new list is kept for good -/
theorem keep_new {P H P' H' : Hp} {p : Addr} {acc : List V} {es : List PyData} (g : Gr P H P' H') (h0 : H p = Option.none) (h' : H' p = some (.lst acc)) (hP : P' p = Option.none) (ha : DqAll P' acc es) : Gr P H (upd P' p (.lst acc)) H' ∧ Dq (upd P' p (.lst acc)) (.ref p) (.list es) := by
  refine ⟨⟨g.hh, g.pp.trans (same_new hP), fun b u e => ?_, fun b u e => ?_, fun b u e => ?_⟩, .lst upd_same (dqAll_mono (same_new hP) _ _ ha)⟩
  · by_cases hb : b = p
    · subst hb
      rw [upd_same] at e
      rw [h']
      exact e
    · rw [upd_ne hb] at e
      exact g.ph b u e
  · by_cases hb : b = p
    · subst hb
      exact .inr h0
    · rw [upd_ne hb] at e
      exact g.nw b u e
  · by_cases hb : b = p
    · subst hb
      rw [upd_same] at e
      cases e
      exact .inr rfl
    · rw [upd_ne hb] at e
      exact g.nd b u e
theorem de_lc {scope : Scope} (own : List (Str × Nat)) {g : TG} {up : List Sl → PyData → List Sl → Prop} (f : PyData → Bool) (v : PyData → PyData) (hc : X.calm = true) (hN : X.N.Nodup) (he : DI X B P0 H0 W ρ tg iter ds) (hl : ds.length < sizeLine) (ok : BlkOk X.N X.env.scope scope own)
    (hg : ∀ (s : Shared) (H : Hp) (C : Addr) (cl : List (Str × Addr)) (fp : List Addr), PG (Blk X scope s H C cl fp) tg g) (hb : GB g (own.map (·.2)) up)
    (hel : ∀ d ∈ ds, ∃ ρ', up (wipeS ρ (own.map (·.2))) d ρ' ∧ ∀ (s : Shared) (H : Hp) (C : Addr) (cl : List (Str × Addr)) (fp : List Addr) (B : Hp), DTs (Blk X scope s H C cl fp) B P0 H0 W ρ' ifs (f d) ∧ (f d = true → DE (Blk X scope s H C cl fp) B P0 H0 W ρ' true elt (v d)))
    (hs : ∀ x, foldedSetIterable iter X.env x = pure x := by intro _; rfl) : DE X B P0 H0 W ρ m (.ListComp elt [⟨tg, iter, ifs, 0⟩] scope pos) (.list (compD ds f v)) := fun σ P H S Q q => by
  obtain ⟨wi, hpi, h⟩ := lc_core' (own := own) f v he hl hb hel S (Q := Q) fun Dl acc P' H' g' k1 k2 k3 k4 => by
    obtain ⟨a, b⟩ := keep_new g' k2 k3 k1 k4
    exact q _ _ H' a (dq_mono (vw_up S.e0 (S.gr.trans a)) _ _ b)
  exact ⟨_, pe_lc hc hN hpi ok hg (fun s H C cl fp => ⟨fun pins s' σ H' Q I h => pts_u.run pins s' σ H' Q I (h s H C cl fp)⟩) (fun s H C cl fp => ⟨fun pins s' σ H' Q I h => pe_u.run pins s' σ H' Q I (h s H C cl fp)⟩) hs, h⟩
/-- y = [..]: the name a local -/
theorem g_setLc (i : Nat) {scope : Scope} (own : List (Str × Nat)) {g : TG} {up : List Sl → PyData → List Sl → Prop} (f : PyData → Bool) (v : PyData → PyData) (hc : X.calm = true) (hN : X.N.Nodup) (he : DI X B P0 H0 W ρ tg iter ds) (hl : ds.length < sizeLine) (ok : BlkOk X.N X.env.scope scope own)
    (hg : ∀ (s : Shared) (H : Hp) (C : Addr) (cl : List (Str × Addr)) (fp : List Addr), PG (Blk X scope s H C cl fp) tg g) (hb : GB g (own.map (·.2)) up)
    (hel : ∀ d ∈ ds, ∃ ρ', up (wipeS ρ (own.map (·.2))) d ρ' ∧ ∀ (s : Shared) (H : Hp) (C : Addr) (cl : List (Str × Addr)) (fp : List Addr) (B : Hp), DTs (Blk X scope s H C cl fp) B P0 H0 W ρ' ifs (f d) ∧ (f d = true → DE (Blk X scope s H C cl fp) B P0 H0 W ρ' true elt (v d)))
    (k : G X B P0 H0 W (ρ.set i (.dat (.list (compD ds f v)))) rest D) (hy : X.N[i]? = some y := by rfl) (hyl : X.env.scope.names.lookup y = some .local := by rfl)
    (hsw : swapsWith (.ListComp elt [⟨tg, iter, ifs, 0⟩] scope p1) (some (.Name y p2)) pos.line X.env = pure true := by exact sw_true rfl rfl rfl (by decide +kernel))
    (hs : ∀ x, foldedSetIterable iter X.env x = pure x := by intro _; rfl) : G X B P0 H0 W ρ (.Assign [.Name y p2] (.ListComp elt [⟨tg, iter, ifs, 0⟩] scope p1) pos :: rest) D := fun σ P H S => by
  obtain ⟨wi, hpi, h⟩ := lc_core' (own := own) f v he hl hb hel S (Q := fun x H1 => gName i x σ H1 (uSs X rest D)) fun Dl acc P' H' g' k1 k2 k3 k4 => by
    obtain ⟨a, b⟩ := keep_new g' k2 k3 k1 k4
    exact k _ _ H' ((S.grow a).put i (s := .dat _) ⟨_, rfl, b⟩)
  have hP : PS X (.Assign [.Name y p2] (.ListComp elt [⟨tg, iter, ifs, 0⟩] scope p1) pos) (tAsg (tLc wi g (fun σ H Q => ∀ s H0 C cl fp, uTs (Blk X scope s H0 C cl fp) ifs σ H Q) (fun σ H Q => ∀ s H0 C cl fp, uE (Blk X scope s H0 C cl fp) elt σ H Q) (own.map (·.2))) (gName i)) :=
    ps_setLc hc hN hy hyl hsw hpi ok hg (fun s H C cl fp => ⟨fun pins s' σ H' Q I h => pts_u.run pins s' σ H' Q I (h s H C cl fp)⟩) (fun s H C cl fp => ⟨fun pins s' σ H' Q I h => pe_u.run pins s' σ H' Q I (h s H C cl fp)⟩) hs
  exact ⟨_, pss_cons hP pss_u, h⟩
end
end Dw

/-! expressions that change one's own objects on the way (the dice, the tables of code) -/
namespace Dw
open PySem PySem.Spec PyProof.Rows L2
section
variable (X : Cx) (B P0 H0 : Hp) (W : List (Addr × Ob)) (ρ : List Sl)
def DV (e : Expr) (Φ : PyData → Prop) : Prop := ∀ σ P H, Sat B P0 H0 W ρ σ P H → ∀ Q : VK, (∀ v d P' H', Sat B P0 H0 W ρ σ P' H' → Same P P' → Φ d → Dq P' v d → Q v H') → uE X e σ H Q
def DVA (es : List Expr) (Φ : List PyData → Prop) : Prop := ∀ σ P H, Sat B P0 H0 W ρ σ P H → ∀ Q : List V → Hp → Prop, (∀ vs ds P' H', Sat B P0 H0 W ρ σ P' H' → Same P P' → Φ ds → DqAll P' vs ds → Q vs H') → uA X es σ H Q
def DVT (e : Expr) (Ψ : Bool → Prop) : Prop := ∀ σ P H, Sat B P0 H0 W ρ σ P H → ∀ Q : Bool → Hp → Prop, (∀ b P' H', Sat B P0 H0 W ρ σ P' H' → Same P P' → Ψ b → Q b H') → uT X e σ H Q
def DVW (e : Expr) (Ψ : Bool → Prop) : Prop := ∀ σ P H, Sat B P0 H0 W ρ σ P H → ∀ Q : Bool → Hp → Prop, (∀ b P' H', Sat B P0 H0 W ρ σ P' H' → Same P P' → Ψ b → Q b H') → uW X e σ H Q
end
section
variable {X : Cx} {B P0 H0 : Hp} {W W' : List (Addr × Ob)} {ρ ρ' : List Sl} {m m1 m2 : Bool} {a b c e : Expr} {es : List Expr} {pos p1 p2 p3 p4 p5 : Pos} {d d1 d2 d3 : PyData} {ds es' : List PyData} {D : Ends} {rest body els : List Stmt} {x y z : Str} {Φ Φ' Θ : PyData → Prop} {Ψ Ψ' : Bool → Prop} {Λ Λ' : List PyData → Prop}
theorem dv_de (h : DE X B P0 H0 W ρ true e d) : DV X B P0 H0 W ρ e (· = d) := fun σ P H S Q q => h σ P H S Q fun v P' H' g k => q v d P' H' (S.grow g) g.pp rfl k
theorem dv_of (h : DE X B P0 H0 W ρ true e d) (hd : Φ d) : DV X B P0 H0 W ρ e Φ := fun σ P H S Q q => h σ P H S Q fun v P' H' g k => q v d P' H' (S.grow g) g.pp hd k
theorem dv_mono (h : DV X B P0 H0 W ρ e Φ) (hd : ∀ d, Φ d → Φ' d) : DV X B P0 H0 W ρ e Φ' := fun σ P H S Q q => h σ P H S Q fun v d P' H' S' s k => q v d P' H' S' s (hd d k)
theorem dvt_dt {k : Bool} (h : DT X B P0 H0 W ρ e k) : DVT X B P0 H0 W ρ e (· = k) := fun σ P H S Q q => h σ P H S Q fun P' H' g => q k P' H' (S.grow g) g.pp rfl
theorem dvt_of {k : Bool} (h : DT X B P0 H0 W ρ e k) (hk : Ψ k) : DVT X B P0 H0 W ρ e Ψ := fun σ P H S Q q => h σ P H S Q fun P' H' g => q k P' H' (S.grow g) g.pp hk
theorem dvt_mono (h : DVT X B P0 H0 W ρ e Ψ) (hd : ∀ d, Ψ d → Ψ' d) : DVT X B P0 H0 W ρ e Ψ' := fun σ P H S Q q => h σ P H S Q fun b P' H' S' s k => q b P' H' S' s (hd b k)
theorem dva_nil : DVA X B P0 H0 W ρ [] (· = []) := fun σ P H S Q q => ⟨_, pa_nil, q _ [] P H S (Same.refl P) rfl .nil⟩
theorem dva_cons (h : DV X B P0 H0 W ρ e Φ) (h' : DVA X B P0 H0 W ρ es Λ) (hs : starEach (e :: es) X.env = (false, eval e X.env) :: starEach es X.env := by rfl) : DVA X B P0 H0 W ρ (e :: es) (fun l => ∃ d ds, l = d :: ds ∧ Φ d ∧ Λ ds) := fun σ P H S Q q =>
  ⟨_, pa_cons pe_u pa_u hs, h σ P H S _ fun v d P1 H1 S1 s1 f1 k1 => h' σ P1 H1 S1 _ fun vs ds P2 H2 S2 s2 f2 k2 => q _ _ P2 H2 S2 (s1.trans s2) ⟨d, ds, rfl, f1, f2⟩ (.cons (dq_mono s2 _ _ k1) k2)⟩
theorem dv_op {op : Operator} {r : R2} (ho : OpR X (binaryOp op) r) (ha : DV X B P0 H0 W ρ a Φ) (hb : DV X B P0 H0 W ρ b Φ') (hr : ∀ d1 d2, Φ d1 → Φ' d2 → ∃ d, Θ d ∧ OpD P0 H0 true true true r d1 d2 d) : DV X B P0 H0 W ρ (.BinOp a op b pos) Θ := fun σ P H S Q q =>
  ⟨_, pe_op ho pe_u pe_u, ha σ P H S _ fun v d1 P1 H1 S1 s1 f1 k1 => hb σ P1 H1 S1 _ fun w d2 P2 H2 S2 s2 f2 k2 => by
    obtain ⟨d, hd, h⟩ := hr d1 d2 f1 f2
    exact h P2 H2 S2.e0 S2.gr v w (dq_mono s2 _ _ k1) k2 Q fun z P3 H3 g3 k3 => q z d P3 H3 (S2.grow g3) ((s1.trans s2).trans g3.pp) hd k3⟩
theorem dv_cmp {op : CmpOp} {r : R2} (ho : OpR X (compareOp op) r) (ha : DV X B P0 H0 W ρ a Φ) (hb : DV X B P0 H0 W ρ b Φ') (hr : ∀ d1 d2, Φ d1 → Φ' d2 → ∃ d, Θ d ∧ OpD P0 H0 true true true r d1 d2 d) (hm : behindInMarks op b = false) : DV X B P0 H0 W ρ (.Compare a [op] [b] pos) Θ := fun σ P H S Q q =>
  ⟨_, pe_cmpR ho pe_u pe_u hm, ha σ P H S _ fun v d1 P1 H1 S1 s1 f1 k1 => hb σ P1 H1 S1 _ fun w d2 P2 H2 S2 s2 f2 k2 => by
    obtain ⟨d, hd, h⟩ := hr d1 d2 f1 f2
    exact h P2 H2 S2.e0 S2.gr v w (dq_mono s2 _ _ k1) k2 Q fun z P3 H3 g3 k3 => q z d P3 H3 (S2.grow g3) ((s1.trans s2).trans g3.pp) hd k3⟩
theorem dvt_cmp {op : CmpOp} {r : R2} (ho : OpR X (compareOp op) r) (ha : DV X B P0 H0 W ρ a Φ) (hb : DV X B P0 H0 W ρ b Φ') (hr : ∀ d1 d2, Φ d1 → Φ' d2 → ∃ k, Ψ k ∧ OpD P0 H0 true true true r d1 d2 (.bool k)) (hm : behindInMarks op b = false) : DVT X B P0 H0 W ρ (.Compare a [op] [b] pos) Ψ := fun σ P H S Q q =>
  ⟨_, pt_cmpR ho pe_u pe_u hm, ha σ P H S _ fun v d1 P1 H1 S1 s1 f1 k1 => hb σ P1 H1 S1 _ fun w d2 P2 H2 S2 s2 f2 k2 => by
    obtain ⟨k, hd, h⟩ := hr d1 d2 f1 f2
    exact h P2 H2 S2.e0 S2.gr v w (dq_mono s2 _ _ k1) k2 _ fun z P3 H3 g3 k3 => by
      cases k3
      exact ⟨k, rfl, q k P3 H3 (S2.grow g3) ((s1.trans s2).trans g3.pp) hd⟩⟩
/-- told == data, told != data -/
theorem dvt_eq (hu : X.A.units + 64 < cLine) (ha : DV X B P0 H0 W ρ a Φ) (hb : DV X B P0 H0 W ρ b Φ') (hr : ∀ d1 d2, Φ d1 → Φ' d2 → Ψ (PyData.eqv d1 d2) ∧ SeqAt.shaped d1 = true ∧ SeqAt.shaped d2 = true) : DVT X B P0 H0 W ρ (.Compare a [.Eq] [b] pos) Ψ :=
  dvt_cmp (op_eqD hu) ha hb (fun d1 d2 f1 f2 => ⟨_, (hr d1 d2 f1 f2).1, od_eq (hr d1 d2 f1 f2).2.1 (hr d1 d2 f1 f2).2.2⟩) (nomark _)
theorem dvt_ne (hu : X.A.units + 64 < cLine) (ha : DV X B P0 H0 W ρ a Φ) (hb : DV X B P0 H0 W ρ b Φ') (hr : ∀ d1 d2, Φ d1 → Φ' d2 → Ψ (!PyData.eqv d1 d2) ∧ SeqAt.shaped d1 = true ∧ SeqAt.shaped d2 = true) : DVT X B P0 H0 W ρ (.Compare a [.NotEq] [b] pos) Ψ :=
  dvt_cmp (op_neD hu) ha hb (fun d1 d2 f1 f2 => ⟨_, (hr d1 d2 f1 f2).1, od_ne (hr d1 d2 f1 f2).2.1 (hr d1 d2 f1 f2).2.2⟩) (nomark _)
theorem dvt_val (h : DV X B P0 H0 W ρ e (fun d => ∃ k, d = .bool k ∧ Ψ k)) (he : ∀ whole, isTrue e X.env whole = (do let v ← whole; standAt e.pos; holding [v] (truthy v)) := by intro _; rfl) : DVT X B P0 H0 W ρ e Ψ := fun σ P H S Q q =>
  ⟨_, pt_val pe_u he, h σ P H S _ fun v d P1 H1 S1 s1 ⟨k, hk, f1⟩ k1 => by
    subst hk
    cases k1
    exact ⟨k, rfl, q k P1 H1 S1 s1 f1⟩⟩
theorem dvt_not (h : DVT X B P0 H0 W ρ a (fun k => Ψ (!k))) : DVT X B P0 H0 W ρ (.UnaryOp .Not a pos) Ψ := fun σ P H S Q q => ⟨_, pt_not pt_u, h σ P H S _ fun k P1 H1 S1 s1 f1 => q (!k) P1 H1 S1 s1 f1⟩
theorem dvw_or1 (h : DVT X B P0 H0 W ρ a Ψ) : DVW X B P0 H0 W ρ (.BoolOp .Or [a] pos) Ψ := fun σ P H S Q q => ⟨_, pw_or1 pt_u, h σ P H S Q q⟩
theorem dvw_and1 (h : DVT X B P0 H0 W ρ a Ψ) : DVW X B P0 H0 W ρ (.BoolOp .And [a] pos) Ψ := fun σ P H S Q q => ⟨_, pw_and1 pt_u, h σ P H S Q q⟩
theorem dvw_or (h : DVT X B P0 H0 W ρ a Ψ') (h1 : Ψ' true → Ψ true) (h' : Ψ' false → DVW X B P0 H0 W ρ (.BoolOp .Or (b :: es) pos) Ψ) : DVW X B P0 H0 W ρ (.BoolOp .Or (a :: b :: es) pos) Ψ := fun σ P H S Q q =>
  ⟨_, pw_or pt_u pw_u, h σ P H S _ fun k P1 H1 S1 s1 f1 => by
    cases k with
    | true => exact iteT (q true P1 H1 S1 s1 (h1 f1))
    | false => exact iteF (h' f1 σ P1 H1 S1 _ fun k P2 H2 S2 s2 f2 => q k P2 H2 S2 (s1.trans s2) f2)⟩
theorem dvw_and (h : DVT X B P0 H0 W ρ a Ψ') (h1 : Ψ' false → Ψ false) (h' : Ψ' true → DVW X B P0 H0 W ρ (.BoolOp .And (b :: es) pos) Ψ) : DVW X B P0 H0 W ρ (.BoolOp .And (a :: b :: es) pos) Ψ := fun σ P H S Q q =>
  ⟨_, pw_and pt_u pw_u, h σ P H S _ fun k P1 H1 S1 s1 f1 => by
    cases k with
    | false => exact iteF (q false P1 H1 S1 s1 (h1 f1))
    | true => exact iteT (h' f1 σ P1 H1 S1 _ fun k P2 H2 S2 s2 f2 => q k P2 H2 S2 (s1.trans s2) f2)⟩
theorem dvt_w (h : DVW X B P0 H0 W ρ e Ψ) : DVT X B P0 H0 W ρ e Ψ := fun σ P H S Q q => ⟨_, pw_u.pt, h σ P H S Q q⟩
/-- x or y, all but one told: false at every part -/
theorem dvw_orF (h : DVT X B P0 H0 W ρ a (· = false)) (h' : DVW X B P0 H0 W ρ (.BoolOp .Or (b :: es) pos) (· = false)) : DVW X B P0 H0 W ρ (.BoolOp .Or (a :: b :: es) pos) (· = false) := dvw_or h (fun e => by cases e) fun _ => h'
theorem dv_lst (h : DVA X B P0 H0 W ρ es Λ) (hl : ∀ ds, Λ ds → ds.length ≤ sizeLine) : DV X B P0 H0 W ρ (.List es pos) (fun d => ∃ ds, d = .list ds ∧ Λ ds) := fun σ P H S Q q =>
  ⟨_, pe_lst pa_u, h σ P H S _ fun vs ds P1 H1 S1 s1 f1 k1 => ⟨by rw [k1.len]; exact hl ds f1, fun p hp => q _ _ _ _ (S1.grow (Gr.new S1.gr.ph hp)) (s1.trans (Gr.new (o := .lst vs) S1.gr.ph hp).pp) ⟨ds, rfl, f1⟩ (.lst upd_same (dqAll_mono (Gr.new (o := .lst vs) S1.gr.ph hp).pp _ _ k1))⟩⟩
theorem dv_tup {x1} (h : DVA X B P0 H0 W ρ es Λ) (hl : ∀ ds, Λ ds → ds.length ≤ sizeLine) : DV X B P0 H0 W ρ (.Tuple es x1 pos) (fun d => ∃ ds, d = .tuple ds ∧ Λ ds) := fun σ P H S Q q =>
  ⟨_, pe_tup pa_u, h σ P H S _ fun vs ds P1 H1 S1 s1 f1 k1 => ⟨by rw [k1.len]; exact hl ds f1, fun p hp => q _ _ _ _ (S1.grow (Gr.new S1.gr.ph hp)) (s1.trans (Gr.new (o := .tup vs) S1.gr.ph hp).pp) ⟨ds, rfl, f1⟩ (.tup upd_same (dqAll_mono (Gr.new (o := .tup vs) S1.gr.ph hp).pp _ _ k1))⟩⟩
theorem dv_bi {x : Str} {id : String} {r} (hc : CallR X (.builtin id) r) (hm : X.mg x = Option.none) (hv : bootBuiltins x = some (.builtin id)) (ha : DVA X B P0 H0 W ρ (e :: es) Λ) (hr : ∀ ds, Λ ds → ∃ d, Φ d ∧ BiD P0 H0 true true r ds d) (hg : Gl X x := by rfl) (hn : x ≠ "__name__" := by decide) (hdb : (x == ("__debug__" : Str)) = false := by decide)
    (he : starEach (e :: es) X.env = (false, eval e X.env) :: starEach es X.env := by rfl) (hpl : (backTo pos (starEach es X.env)).any (·.1) = false := by rfl) : DV X B P0 H0 W ρ (.Call (.Name x p1) (e :: es) [] pos) Φ := fun σ P H S Q q =>
  ⟨_, pe_callB hc hg hm hv pa_u hn hdb he hpl, ha σ P H S _ fun vs ds P1 H1 S1 s1 f1 k1 => by
    obtain ⟨d, hd, h⟩ := hr ds f1
    exact h P1 H1 S1.e0 S1.gr vs k1 Q fun z P2 H2 g2 k2 => q z d P2 H2 (S1.grow g2) (s1.trans g2.pp) hd k2⟩
theorem dv_ixL (ha : DV X B P0 H0 W ρ a Φ) (hb : DV X B P0 H0 W ρ b Φ') (hr : ∀ d1 d2, Φ d1 → Φ' d2 → ∃ ds i d, d1 = .list ds ∧ d2 = .int i ∧ atI ds i = some d ∧ Θ d) (hs : PlainIx b := by exact fun _ _ => rfl) : DV X B P0 H0 W ρ (.Subscript a b pos) Θ := fun σ P H S Q q =>
  ⟨_, pe_ix ix_list pe_u pe_u hs, ha σ P H S _ fun v d1 P1 H1 S1 s1 f1 k1 => hb σ P1 H1 S1 _ fun w d2 P2 H2 S2 s2 f2 k2 => by
    obtain ⟨ds, i, d, rfl, rfl, hi, hd⟩ := hr d1 d2 f1 f2
    cases k2
    have k1' := dq_mono s2 _ _ k1
    cases k1' with
    | lst h ha' =>
      obtain ⟨j, e1, e2⟩ := at_get ha'.len hi
      obtain ⟨v, h1, h2⟩ := ha'.get e1
      exact ⟨_, _, i, v, rfl, rfl, SqL.of (S2.gr.ph _ _ h), e2 v h1, q v d P2 H2 S2 (s1.trans s2) hd h2⟩⟩
theorem dv_ixS (ha : DV X B P0 H0 W ρ a Φ) (hb : DV X B P0 H0 W ρ b Φ') (hr : ∀ d1 d2, Φ d1 → Φ' d2 → ∃ (z : Str) (i : Int) (c : Nat), d1 = .str z ∧ d2 = .int i ∧ z.length ≤ sizeLine ∧ atI z.cps.toList i = some c ∧ Θ (.str ⟨#[c]⟩)) (hs : PlainIx b := by exact fun _ _ => rfl) : DV X B P0 H0 W ρ (.Subscript a b pos) Θ := fun σ P H S Q q =>
  ⟨_, pe_ix ix_str pe_u pe_u hs, ha σ P H S _ fun v d1 P1 H1 S1 s1 f1 k1 => hb σ P1 H1 S1 _ fun w d2 P2 H2 S2 s2 f2 k2 => by
    obtain ⟨z, i, c, rfl, rfl, hz, hi, hd⟩ := hr d1 d2 f1 f2
    cases k2
    cases k1
    exact ⟨z, i, c, rfl, rfl, hz, hi, q _ _ P2 H2 S2 (s1.trans s2) hd (.str _)⟩⟩
theorem dv_call {k j n : Nat} {R : List PyData → Out → Prop} (C : Cal X.prog X.w X.K X.mg X.base x k n R) (hr : Room j X.A) (hk : k ≤ j) (ha : DVA X B P0 H0 W ρ (e :: es) Λ) (hn : ∀ ds, Λ ds → ds.length = n ∧ ∃ d, R ds (.ret d) ∧ Φ d) (hg : Gl X x := by rfl) (hdb : (x == ("__debug__" : Str)) = false := by decide)
    (he : starEach (e :: es) X.env = (false, eval e X.env) :: starEach es X.env := by rfl) (hpl : (backTo pos (starEach es X.env)).any (·.1) = false := by rfl) : DV X B P0 H0 W ρ (.Call (.Name x p1) (e :: es) [] pos) Φ := fun σ P H S Q q => by
  obtain ⟨f, fd, ps, hm, hkp, hB, F⟩ := C.ex
  refine ⟨_, pe_call F (hr.mono hk) hg hm hkp hB .nil (E := E0) passN pa_u hdb he hpl, ha σ P H S _ fun vs ds P1 H1 S1 s1 f1 k1 => ?_⟩
  rw [List.append_nil]
  obtain ⟨h1, d, h2, h3⟩ := hn ds f1
  exact ⟨P1, ds, .ret d, h1, S1.gr.ph, S1.pd, k1, h2, fun v P2 H2 g2 k2 => q v d P2 H2 (S1.grow g2) (s1.trans g2.pp) h3 k2⟩
/-! statements -/
theorem g_setV (i : Nat) (he : DV X B P0 H0 W ρ e Φ) (k : ∀ d, Φ d → G X B P0 H0 W (ρ.set i (.dat d)) rest D) (hN : X.N.Nodup := by assumption) (hi : X.N[i]? = some x := by rfl) (hx : Loc X.env.scope x := by first | exact Or.inl rfl | exact Or.inr rfl)
    (hs : swapsWith e (some (.Name x p1)) pos.line X.env = pure false := by rfl) (hf : X.fn x = true ∨ X.env.scope.names.lookup x = some .local := by first | exact .inl rfl | exact .inr rfl) : G X B P0 H0 W ρ (.Assign [.Name x p1] e pos :: rest) D := fun σ P H S =>
  ⟨_, pss_cons (ps_set (i := i) hN hi hx pe_u hs hf) pss_u, he σ P H S _ fun v d P1 H1 S1 s1 f1 k1 => k d f1 _ P1 H1 (S1.put i ⟨v, rfl, k1⟩)⟩
theorem g_parV (i j : Nat) {kt k2 : Nat} {pt pt2 : Pos} (ha : DV X B P0 H0 W ρ a Φ) (hb : DV X B P0 H0 W ρ b Φ') (kk : ∀ d1 d2, Φ d1 → Φ' d2 → G X B P0 H0 W ((ρ.set i (.dat d1)).set j (.dat d2)) rest D) (hc : X.calm = true := by assumption) (hN : X.N.Nodup := by assumption) (hi : X.N[i]? = some x := by rfl) (hj : X.N[j]? = some y := by rfl) (hij : i ≠ j := by decide)
    (hx : X.env.scope.names.lookup x = some .local := by rfl) (hy : X.env.scope.names.lookup y = some .local := by rfl)
    (hw : swappedStores [.Tuple [.Name x p1, .Name y p2] kt pt] (.Tuple [a, b] k2 pt2) X.env = pure (some [x, y]) := by rfl)
    (hs : swapsWithSole [.Tuple [.Name x p1, .Name y p2] kt pt] (.Tuple [a, b] k2 pt2) pos.line X.env = pure false := by rfl)
    (he1 : starEach [a, b] X.env = (false, eval a X.env) :: starEach [b] X.env := by rfl) (he2 : starEach [b] X.env = (false, eval b X.env) :: starEach [] X.env := by rfl) :
    G X B P0 H0 W ρ (.Assign [.Tuple [.Name x p1, .Name y p2] kt pt] (.Tuple [a, b] k2 pt2) pos :: rest) D := fun σ P H S =>
  ⟨_, pss_cons (ps_par hc hN hi hj hij hx hy (pa_cons pe_u (pa_cons pe_u pa_nil he2) he1) hw hs) pss_u, ha σ P H S _ fun v d1 P1 H1 S1 s1 f1 k1 => hb σ P1 H1 S1 _ fun w d2 P2 H2 S2 s2 f2 k2 =>
    ⟨v, w, rfl, kk d1 d2 f1 f2 _ P2 H2 ((S2.put i (s := .dat d1) ⟨v, rfl, dq_mono s2 _ _ k1⟩).put j (s := .dat d2) ⟨w, rfl, k2⟩)⟩⟩
theorem g_ifV (hc : DVT X B P0 H0 W ρ c Ψ) (h1 : Ψ true → G X B P0 H0 W ρ body (Ends.to D X rest)) (h2 : Ψ false → G X B P0 H0 W ρ els (Ends.to D X rest)) : G X B P0 H0 W ρ (.If c body els pos :: rest) D := fun σ P H S =>
  ⟨_, pss_cons (ps_if pt_u pss_u pss_u) pss_u, hc σ P H S _ fun k P1 H1 S1 s1 f1 => by
    cases k with
    | true => exact iteT (h1 f1 σ P1 H1 S1)
    | false => exact iteF (h2 f1 σ P1 H1 S1)⟩
theorem g_noV (hc : DVT X B P0 H0 W ρ c (· = false)) (k : G X B P0 H0 W ρ rest D) : G X B P0 H0 W ρ (.If c body [] pos :: rest) D := g_ifV hc (fun h => by cases h) fun _ => g_to k
theorem g_retS (he : DE X B P0 H0 W ρ false e d) (k : ∀ v σ P H, Sat B P0 H0 W ρ σ P H → Dq (vw false P0 H0 P H) v d → D.rt v H) : G X B P0 H0 W ρ (.Return (some e) pos :: rest) D := fun σ P H S =>
  ⟨_, pss_cons (ps_ret pe_u) pss_u, he σ P H S _ fun v P1 H1 g1 k1 => k v σ _ H1 (S.grow g1) k1⟩
theorem g_retV (he : DV X B P0 H0 W ρ e Φ) (k : ∀ v d σ P H, Sat B P0 H0 W ρ σ P H → Φ d → Dq P v d → D.rt v H) : G X B P0 H0 W ρ (.Return (some e) pos :: rest) D := fun σ P H S =>
  ⟨_, pss_cons (ps_ret pe_u) pss_u, he σ P H S _ fun v d P1 H1 S1 s1 f1 k1 => k v d σ P1 H1 S1 f1 k1⟩
/-! ### the dice -/
/-- a call that rolls: the dice change, all else stays; the answer keeps Φ -/
def spDice (Φ : Int → Int → Prop) (pre : Int → Prop) : Sp := fun vs H Q _ => ∃ (p : Addr) (c k m : Int), vs = [.ref p, .int m] ∧ H p = some (.lst [.int c, .int k]) ∧ pre m ∧
  ∀ (r c' k' : Int) (H' : Hp), Φ m r → (∀ b o, b ≠ p → H b = some o → H' b = some o) → H' p = some (.lst [.int c', .int k']) → Q (.int r) H'
structure CalD (P : Program) (w : World) (K : PySem.W.Frag) (mg : Str → Option Value) (base : Heap) (x : Str) (k : Nat) (Φ : Int → Int → Prop) (pre : Int → Prop) : Prop where
  ex : ∃ (f : Addr) (fd : FuncData) (ps : List Str), mg x = some (.ref f) ∧ PySem.W.keepIn K (.ref f) = true ∧ Binds K fd ps [] ∧ FnOk P w K mg base (L2N.CX P w) k f fd ps (spDice Φ pre)
theorem Sat.roll {σ : L2.St} {P H H' : Hp} (S : Sat B P0 H0 W ρ σ P H) (k : Nat) {p : Addr} {c' k' : Int} (hW : W[k]? = some (p, .vol)) (h1 : ∀ b o, b ≠ p → H b = some o → H' b = some o) (h2 : H' p = some (.lst [.int c', .int k'])) : Sat B P0 H0 W ρ σ P H' := by
  have hm := List.mem_of_getElem? hW
  obtain ⟨hP, c, kk, hO⟩ := S.own _ hm
  have hF := S.fr _ hm
  have nP : ∀ a u, P a = some u → a ≠ p := fun a u e z => by
    subst z
    rw [hP] at e
    cases e
  have nH0 : ∀ a u, H0 a = some u → a ≠ p := fun a u e z => by
    subst z
    rw [hF] at e
    cases e
  refine { S with gr := ⟨fun a u e => h1 a u (nH0 a u e) (S.gr.hh a u e), S.gr.pp, fun a u e => h1 a u (nP a u e) (S.gr.ph a u e), S.gr.nw, S.gr.nd⟩, own := fun r hr => ?_ }
  obtain ⟨x1, x2⟩ := S.own r hr
  refine ⟨x1, ?_⟩
  by_cases e : r.1 = p
  · -- the same object: r is the dice's row
    obtain ⟨j, hj⟩ := List.mem_iff_getElem?.mp hr
    have a1 : (W.map (·.1))[j]? = some p := by rw [List.getElem?_map, hj, ← e]; rfl
    have a2 : (W.map (·.1))[k]? = some p := by rw [List.getElem?_map, hW]; rfl
    have ejk := nd_ix S.nd a1 a2
    subst ejk
    rw [hW] at hj
    cases hj
    exact ⟨c', k', h2⟩
  · cases hr2 : r.2 with
    | lst ds =>
      rw [hr2] at x2
      obtain ⟨xs, y1, y2⟩ := x2
      exact ⟨xs, h1 _ _ e y1, y2⟩
    | raw u =>
      rw [hr2] at x2
      exact h1 _ _ e x2
    | vol =>
      rw [hr2] at x2
      obtain ⟨u, v, y⟩ := x2
      exact ⟨u, v, h1 _ _ e y⟩
    | tab q =>
      rw [hr2] at x2
      obtain ⟨ps, y1, y2, y3⟩ := x2
      refine ⟨ps, h1 _ _ e y1, y2, fun pos cv z => ?_⟩
      obtain ⟨cc, z1, z2⟩ := y3 pos cv z
      refine ⟨cc, z1, h1 _ _ (fun ec => ?_) z2⟩
      rw [ec, hO] at z2
      exact code_lst z2
theorem dv_dice {k j : Nat} (i kw : Nat) {p : Addr} {Φ : Int → Int → Prop} {pre : Int → Prop} {x n : Str} {Φ' : PyData → Prop} (C : CalD X.prog X.w X.K X.mg X.base x k Φ pre) (hr : Room j X.A) (hk : k ≤ j) (he : DV X B P0 H0 W ρ e Φ') (hpre : ∀ d, Φ' d → ∃ m, d = .int m ∧ pre m ∧ ∀ r, Φ m r → Θ (.int r)) (hρ : ρ[i]? = some (.raw (.ref p)) := by rfl) (hW : W[kw]? = some (p, .vol) := by first | rfl | assumption) (hN : X.N[i]? = some n := by rfl)
    (hv : Vis X.env.scope n := by first | exact Or.inl rfl | exact Or.inr (Or.inl rfl) | exact Or.inr (Or.inr rfl)) (hd : (n == ("__debug__" : Str)) = false := by decide) (hcd : (n == ("__classdict__" : Str)) = false := by decide) (hg : Gl X x := by rfl) (hdb : (x == ("__debug__" : Str)) = false := by decide)
    (he1 : starEach [.Name n p1, e] X.env = (false, eval (.Name n p1) X.env) :: starEach [e] X.env := by rfl) (he2 : starEach [e] X.env = (false, eval e X.env) :: starEach [] X.env := by rfl) (hpl : (backTo pos (starEach [e] X.env)).any (·.1) = false := by rfl) : DV X B P0 H0 W ρ (.Call (.Name x p2) [.Name n p1, e] [] pos) Θ := fun σ P H S Q q => by
  obtain ⟨f, fd, ps, hm, hkp, hB, F⟩ := C.ex
  obtain ⟨x', e1, e2⟩ := S.sl i _ hρ
  obtain rfl : x' = some (.ref p) := e2
  refine ⟨_, pe_call F (hr.mono hk) hg hm hkp hB .nil (E := E0) passN (pa_cons (pe_var hN hv hd hcd) (pa_cons pe_u pa_nil he2) he1) hdb he1 hpl, _, e1, he σ P H S _ fun w d P1 H1 S1 s1 f1 k1 => ?_⟩
  obtain ⟨m, rfl, hp, hΦ⟩ := hpre d f1
  cases k1
  obtain ⟨_, c, kk, hO⟩ := S1.own _ (List.mem_of_getElem? hW)
  exact ⟨p, c, kk, m, rfl, hO, hp, fun r c' k' H' hr' h1 h2 => q _ (.int r) P1 H' (S1.roll kw hW h1 h2) s1 (hΦ r hr') (.int r)⟩
end
end Dw

namespace Dw
open PySem PySem.Spec PyProof.Rows L2
section
variable {X : Cx} {B P0 H0 : Hp} {W W' : List (Addr × Ob)} {ρ ρ' : List Sl} {m m1 m2 : Bool} {a b c e : Expr} {es : List Expr} {pos p1 p2 p3 p4 p5 : Pos} {d d1 d2 d3 : PyData} {ds es' : List PyData} {D : Ends} {rest body els : List Stmt} {x y z : Str} {Φ Φ' Θ : PyData → Prop}
theorem bd_max2 {i j : Int} : BiD P0 H0 m1 m (fun xs H Q => ∃ i j, xs = [.int i, .int j] ∧ Q (.int (if j > i then j else i)) H) [.int i, .int j] (.int (max i j)) := fun P H e0 gr vs k Q q => by
  cases k with
  | cons k1 k =>
    cases k with
    | cons k2 kn =>
      cases kn
      cases k1
      cases k2
      have e : (if j > i then j else i) = max i j := by rw [Int.max_def]; split <;> split <;> omega
      exact ⟨i, j, rfl, by rw [e]; exact q _ P H (Gr.refl gr.ph) (.int _)⟩
theorem bd_min2 {i j : Int} : BiD P0 H0 m1 m (fun xs H Q => ∃ i j, xs = [.int i, .int j] ∧ Q (.int (if j < i then j else i)) H) [.int i, .int j] (.int (min i j)) := fun P H e0 gr vs k Q q => by
  cases k with
  | cons k1 k =>
    cases k with
    | cons k2 kn =>
      cases kn
      cases k1
      cases k2
      have e : (if j < i then j else i) = min i j := by rw [Int.min_def]; split <;> split <;> omega
      exact ⟨i, j, rfl, by rw [e]; exact q _ P H (Gr.refl gr.ph) (.int _)⟩
theorem de_max2 {i j : Int} (hm : X.mg "max" = Option.none) (hc : X.calm = true) (ha : DE X B P0 H0 W ρ false a (.int i)) (hb : DE X B P0 H0 W ρ false b (.int j)) (hg : Gl X "max" := by rfl)
    (he1 : starEach [a, b] X.env = (false, eval a X.env) :: starEach [b] X.env := by rfl) (he2 : starEach [b] X.env = (false, eval b X.env) :: starEach [] X.env := by rfl) (hpl : (backTo pos (starEach [b] X.env)).any (·.1) = false := by rfl) :
    DE X B P0 H0 W ρ m (.Call (.Name "max" p1) [a, b] [] pos) (.int (max i j)) := de_bi (call_max2 hc) hm (by decide +kernel) (da_cons ha (da_cons hb da_nil he2) he1) bd_max2 hg (by decide) (by decide) he1 hpl
theorem de_min2 {i j : Int} (hm : X.mg "min" = Option.none) (hc : X.calm = true) (ha : DE X B P0 H0 W ρ false a (.int i)) (hb : DE X B P0 H0 W ρ false b (.int j)) (hg : Gl X "min" := by rfl)
    (he1 : starEach [a, b] X.env = (false, eval a X.env) :: starEach [b] X.env := by rfl) (he2 : starEach [b] X.env = (false, eval b X.env) :: starEach [] X.env := by rfl) (hpl : (backTo pos (starEach [b] X.env)).any (·.1) = false := by rfl) :
    DE X B P0 H0 W ρ m (.Call (.Name "min" p1) [a, b] [] pos) (.int (min i j)) := de_bi (call_min2 hc) hm (by decide +kernel) (da_cons ha (da_cons hb da_nil he2) he1) bd_min2 hg (by decide) (by decide) he1 hpl
theorem de_lenL (hm : X.mg "len" = Option.none) (ha : DE X B P0 H0 W ρ false a (.list ds)) (hg : Gl X "len" := by rfl)
    (he1 : starEach [a] X.env = (false, eval a X.env) :: starEach [] X.env := by rfl) (hpl : (backTo pos (starEach [] X.env)).any (·.1) = false := by rfl) :
    DE X B P0 H0 W ρ m (.Call (.Name "len" p1) [a] [] pos) (.int ds.length) := de_bi call_len_seq hm (by decide +kernel) (da_cons ha da_nil he1) bd_lenL hg (by decide) (by decide) he1 hpl
theorem de_lenT (hm : X.mg "len" = Option.none) (ha : DE X B P0 H0 W ρ false a (.tuple ds)) (hg : Gl X "len" := by rfl)
    (he1 : starEach [a] X.env = (false, eval a X.env) :: starEach [] X.env := by rfl) (hpl : (backTo pos (starEach [] X.env)).any (·.1) = false := by rfl) :
    DE X B P0 H0 W ρ m (.Call (.Name "len" p1) [a] [] pos) (.int ds.length) := de_bi call_len_seq hm (by decide +kernel) (da_cons ha da_nil he1) bd_lenT hg (by decide) (by decide) he1 hpl
theorem de_sum {ns : List Int} (hm : X.mg "sum" = Option.none) (hc : X.calm = true) (ha : DE X B P0 H0 W ρ false a (.list (ns.map .int))) (hg : Gl X "sum" := by rfl)
    (he1 : starEach [a] X.env = (false, eval a X.env) :: starEach [] X.env := by rfl) (hpl : (backTo pos (starEach [] X.env)).any (·.1) = false := by rfl) :
    DE X B P0 H0 W ρ m (.Call (.Name "sum" p1) [a] [] pos) (.int ns.sum) := de_bi (cr_sum hc) hm (by decide +kernel) (da_cons ha da_nil he1) bd_sum hg (by decide) (by decide) he1 hpl
theorem de_tuple (hm : X.mg "tuple" = Option.none) (ha : DE X B P0 H0 W ρ true a (.list ds)) (hg : Gl X "tuple" := by rfl)
    (he1 : starEach [a] X.env = (false, eval a X.env) :: starEach [] X.env := by rfl) (hpl : (backTo pos (starEach [] X.env)).any (·.1) = false := by rfl) :
    DE X B P0 H0 W ρ m (.Call (.Name "tuple" p1) [a] [] pos) (.tuple ds) := de_tyT call_tuple_of hm (by decide +kernel) (da_cons ha da_nil he1) bd_tupL hg (by decide) (by decide) he1 hpl
theorem de_all {bs : List Bool} (hm : X.mg "all" = Option.none) (hc : X.calm = true) (ha : DE X B P0 H0 W ρ false a (.list (bs.map .bool))) (hg : Gl X "all" := by rfl)
    (he1 : starEach [a] X.env = (false, eval a X.env) :: starEach [] X.env := by rfl) (hpl : (backTo pos (starEach [] X.env)).any (·.1) = false := by rfl) :
    DE X B P0 H0 W ρ m (.Call (.Name "all" p1) [a] [] pos) (.bool (bs.all id)) := de_bi (cr_all hc) hm (by decide +kernel) (da_cons ha da_nil he1) bd_all hg (by decide) (by decide) he1 hpl
theorem de_pow {i j : Int} (ha : DE X B P0 H0 W ρ false a (.int i)) (hb : DE X B P0 H0 W ρ false b (.int j)) (hc : CPow i j) : DE X B P0 H0 W ρ m (.BinOp a .Pow b pos) (.int (i ^ j.toNat)) := de_op op_pow ha hb (od_I (d := fun i j => .int (i ^ j.toNat)) hc fun i j H => .int _)
/-- a, b, c = e1, e2, e3 -/
theorem g_par3K (i j l : Nat) {k k' k'' : Kd} {kt k2 : Nat} {pt pt2 : Pos} (ha : DK X B P0 H0 W ρ a k) (hb : DK X B P0 H0 W ρ b k') (hcc : DK X B P0 H0 W ρ c k'')
    (kk : ∀ O s O' s' O'' s'', (∃ P H v, KAt P0 H0 P H k v O s) → (∃ P H v, KAt P0 H0 P H k' v O' s') → (∃ P H v, KAt P0 H0 P H k'' v O'' s'') → G X B P0 H0 (W ++ O ++ O' ++ O'') (((ρ.set i s).set j s').set l s'') rest D) (hc : X.calm = true := by assumption) (hN : X.N.Nodup := by assumption) (hi : X.N[i]? = some x := by rfl) (hj : X.N[j]? = some y := by rfl) (hl : X.N[l]? = some z := by rfl) (hij : i ≠ j := by decide) (hil : i ≠ l := by decide) (hjl : j ≠ l := by decide)
    (hx : X.env.scope.names.lookup x = some .local := by rfl) (hy : X.env.scope.names.lookup y = some .local := by rfl) (hz : X.env.scope.names.lookup z = some .local := by rfl)
    (hw : swappedStores [.Tuple [.Name x p1, .Name y p2, .Name z p3] kt pt] (.Tuple [a, b, c] k2 pt2) X.env = pure (some [x, y, z]) := by rfl)
    (hs : swapsWithSole [.Tuple [.Name x p1, .Name y p2, .Name z p3] kt pt] (.Tuple [a, b, c] k2 pt2) pos.line X.env = pure false := by rfl)
    (he1 : starEach [a, b, c] X.env = (false, eval a X.env) :: starEach [b, c] X.env := by rfl) (he2 : starEach [b, c] X.env = (false, eval b X.env) :: starEach [c] X.env := by rfl) (he3 : starEach [c] X.env = (false, eval c X.env) :: starEach [] X.env := by rfl) :
    G X B P0 H0 W ρ (.Assign [.Tuple [.Name x p1, .Name y p2, .Name z p3] kt pt] (.Tuple [a, b, c] k2 pt2) pos :: rest) D := fun σ P H S =>
  ⟨_, pss_cons (ps_par3 hc hN hi hj hl hij hil hjl hx hy hz (pa_cons pe_u (pa_cons pe_u (pa_cons pe_u pa_nil he3) he2) he1) hw hs) pss_u, ha σ P H S _ fun v P1 H1 O s g1 k1 hO => hb σ P1 H1 (S.grow g1) _ fun w P2 H2 O' s' g2 k2 hO' => hcc σ P2 H2 ((S.grow g1).grow g2) _ fun u P3 H3 O'' s'' g3 k3 hO'' => by
    refine ⟨v, w, u, rfl, ?_⟩
    have far : ∀ {P H P' H' : Hp} {k : Kd} {v : V} {O O' : List (Addr × Ob)} {s : Sl}, KAt P0 H0 P H k v O s → Gr P H P' H' → (∀ p ∈ O', H' p.1 = Option.none) → ∀ p ∈ O', ∀ r ∈ O, r.1 ≠ p.1 := fun k1 g hO p hp r hr e => by
      cases k1 with
      | dat _ => cases hr
      | @own o' p' q1 q2 q3 =>
        have er : r = (p', o') := by simpa using hr
        subst er
        obtain ⟨u, hu⟩ := q3.there
        have q := hO p hp
        rw [← e] at q
        rw [g.hh _ _ hu] at q
        cases q
    have S1 := (((S.grow g1).grow g2).grow g3).add (k1.grow (g2.trans g3)) i (own_apart (H1 := H) S hO)
    have S2 := S1.add (k2.grow g3) j (fun p hp r hr => by
      rcases List.mem_append.mp hr with z | z
      · exact own_apart (H1 := H) (S.grow g1) hO' p hp r z
      · exact far k1 (Gr.refl (S.grow g1).gr.ph) hO' p hp r z)
    refine kk O s O' s' O'' s'' ⟨_, _, _, k1⟩ ⟨_, _, _, k2⟩ ⟨_, _, _, k3⟩ _ P3 H3 (S2.add k3 l fun p hp r hr => ?_)
    rcases List.mem_append.mp hr with z | z
    · rcases List.mem_append.mp z with z | z
      · exact own_apart (H1 := H) ((S.grow g1).grow g2) hO'' p hp r z
      · exact far k1 g2 hO'' p hp r z
    · exact far k2 (Gr.refl ((S.grow g1).grow g2).gr.ph) hO'' p hp r z⟩
end
end Dw

/-! defs that roll the dice -/
namespace Dw
open PySem PySem.Spec PyProof.Rows L2
/-- all but the object at p -/
def lessO (H : Hp) (p : Addr) : Hp := fun a => if a = p then Option.none else H a
theorem lessO_same (H : Hp) (p : Addr) : Same (lessO H p) H := fun a o h => by
  unfold lessO at h
  split at h
  · cases h
  · exact h
theorem lessO_at (H : Hp) (p : Addr) : lessO H p p = Option.none := if_pos rfl
theorem lessO_ne {H : Hp} {p a : Addr} (h : a ≠ p) : lessO H p a = H a := if_neg h
def noH : Hp := fun _ => Option.none
theorem noH_same (H : Hp) : Same noH H := fun _ _ h => by cases h
theorem sat_dice {N : List Str} {H : Hp} {p : Addr} {c k m : Int} (h : H p = some (.lst [.int c, .int k])) (hn : 2 ≤ N.length) : Sat noH noH (lessO H p) [(p, .lst [.int c, .int k])] (.raw (.ref p) :: .dat (.int m) :: List.replicate (N.length - 2) .no) (L2.start N [.ref p, .int m]) noH H where
  sb := Same.refl _
  pd := fun _ _ h => by cases h
  e0 := noH_same _
  gr := ⟨lessO_same H p, Same.refl _, noH_same _, (fun _ _ h => by cases h), (fun _ _ h => by cases h)⟩
  own := fun r hr => by
    have e : r = (p, .lst [.int c, .int k]) := by simpa using hr
    subst e
    exact ⟨rfl, _, h, .cons (.int c) (.cons (.int k) .nil)⟩
  fr := fun r hr => by
    have e : r = (p, .lst [.int c, .int k]) := by simpa using hr
    subst e
    exact lessO_at H p
  nd := by simp
  len := by
    unfold L2.start
    simp
  sl := fun i s hs => by
    unfold L2.start
    match i, hs with
    | 0, hs =>
      cases hs
      exact ⟨_, rfl, rfl⟩
    | 1, hs =>
      cases hs
      exact ⟨_, rfl, _, rfl, .int m⟩
    | i + 2, hs =>
      have hs : (List.replicate (N.length - 2) Sl.no)[i]? = some s := hs
      rw [List.getElem?_replicate] at hs
      split at hs
      · cases hs
        refine ⟨none, ?_, trivial⟩
        show (List.replicate _ _)[i]? = _
        rw [List.getElem?_replicate]
        rw [if_pos]
        simpa using by assumption
      · cases hs
section
variable {X : Cx} {B P0 H0 : Hp} {W W' : List (Addr × Ob)} {ρ ρ' : List Sl} {D : Ends} {rest : List Stmt}
/-- the dice told no more -/
theorem g_vol {p : Addr} {c k : Int} (h : G X B P0 H0 [(p, .vol)] ρ rest D) : G X B P0 H0 [(p, .lst [.int c, .int k])] ρ rest D := fun σ P H S => h σ P H
  { S with
    own := fun r hr => by
      have e : r = (p, .vol) := by simpa using hr
      subst e
      obtain ⟨a, xs, b1, b2⟩ := S.own _ (List.mem_singleton.mpr rfl)
      refine ⟨a, c, k, ?_⟩
      have b2 : DqAll P xs ([c, k].map PyData.int) := b2
      have := b2.ints
      subst this
      exact b1
    fr := fun r hr => by
      have e : r = (p, .vol) := by simpa using hr
      subst e
      exact S.fr (p, .lst [.int c, .int k]) (List.mem_singleton.mpr rfl)
    nd := by simp }
end
section
variable {P : Program} {w : World} {K : PySem.W.Frag} {mg : Str → Option Value} {base : Heap} {x : Str} {st : Stmt} {ps N : List Str} {k n : Nat} {Φ : Int → Int → Prop} {pre : Int → Prop}
theorem Def.calD (F : Def K mg x st ps) (S : FnScope N ps (defScope st)) (hn : ps.length = 2)
    (hbody : ∀ (f : Addr) (cdv : Value) (A : Around) (outer : List Env) (s : Shared) (H : Hp) (p : Addr) (c kk m : Int) (Q : VK) (E : XK), Room k (A.deeper (envOfC x (defScope st) s.heap.objs.size f cdv)) →
      PassesOwn (model P w) (A.deeper (envOfC x (defScope st) s.heap.objs.size f cdv)) (envOfC x (defScope st) s.heap.objs.size f cdv) (cxOf (L2N.CX P w) P w K mg base N x (defScope st) f cdv A outer s H E).xe → pre m →
      (∀ v σ P' H', (∃ ob c k, Sat noH noH (lessO H p) [(p, ob)] (N.map fun _ => .no) σ P' H' ∧ H' p = some (.lst [.int c, .int k]) ∧ ∃ r, v = .int r ∧ Φ m r) → Q v H') →
      G (cxOf (L2N.CX P w) P w K mg base N x (defScope st) f cdv A outer s H E) noH noH (lessO H p) [(p, .lst [.int c, .int kk])] (.raw (.ref p) :: .dat (.int m) :: List.replicate (N.length - 2) .no) (defBody st) (endsD Q)) : CalD P w K mg base x (k + 1) Φ pre := by
  obtain ⟨f, fd, hm, hF, hB⟩ := F.ex
  refine ⟨f, fd, ps, hm, hF.kp, hB, ?_⟩
  refine hF.okN S (fun vs H Q E h => ?_) (fun cdv A outer s H vs Q E hr h => ?_)
  · obtain ⟨p, c, k, m, e, _⟩ := h
    rw [e, hn]
    rfl
  · obtain ⟨p, c, kk, m, rfl, hp, hpre, hQ⟩ := h
    have hpl : ps.length ≤ N.length := by have := congrArg List.length S.pre; rw [List.length_take] at this; omega
    refine ⟨_, pss_u, ?_⟩
    refine hbody f cdv A outer s H p c kk m Q E hr (passes_of rfl) hpre ?_ _ noH H (sat_dice hp (by omega))
    rintro v σ P' H' ⟨ob, c', k', S', h', r, rfl, hr⟩
    exact hQ r c' k' H' hr (fun b o hb ho => S'.gr.hh b o (by rw [lessO_ne hb]; exact ho)) h'
end
section
variable {X : Cx} {B P0 H : Hp} {ρ : List Sl} {N : List Str} {p : Addr} {m : Int} {Φ : Int → Int → Prop} {Q : VK} {ob : Ob} {e : Expr} {pos : Pos} {rest : List Stmt} {D : Ends}
theorem sat_blank {B P0 H0 : Hp} {W : List (Addr × Ob)} {ρ : List Sl} {σ : L2.St} {P H : Hp} (S : Sat B P0 H0 W ρ σ P H) (hl : ρ.length = N.length) : Sat B P0 H0 W (N.map fun _ => .no) σ P H := S.forget (by simpa using hl.symm) fun i s h => by
  rw [List.getElem?_map] at h
  cases q : N[i]? with
  | none => rw [q] at h; cases h
  | some _ =>
    rw [q] at h
    exact .inl (Option.some.inj h).symm
/-- return within a def that rolls -/
theorem g_retD {Θ : PyData → Prop} (hQ : ∀ v σ P' H', (∃ ob c k, Sat noH noH (lessO H p) [(p, ob)] (N.map fun _ => .no) σ P' H' ∧ H' p = some (.lst [.int c, .int k]) ∧ ∃ r, v = .int r ∧ Φ m r) → D.rt v H') (hl : ρ.length = N.length)
    (he : DV X B noH (lessO H p) [(p, .vol)] ρ e Θ) (hΦ : ∀ d, Θ d → ∃ r, d = .int r ∧ Φ m r) : G X B noH (lessO H p) [(p, .vol)] ρ (.Return (some e) pos :: rest) D := g_retV he fun v d σ P' H' S hd hq => by
  obtain ⟨r, rfl, hr⟩ := hΦ d hd
  cases hq
  obtain ⟨_, c, k, ho⟩ := S.own _ (List.mem_singleton.mpr rfl)
  exact hQ _ σ P' H' ⟨.vol, c, k, (sat_blank S hl).mark (noH_same _), ho, r, rfl, hr⟩
theorem g_retD1 {c k r : Int} (hQ : ∀ v σ P' H', (∃ ob c k, Sat noH noH (lessO H p) [(p, ob)] (N.map fun _ => .no) σ P' H' ∧ H' p = some (.lst [.int c, .int k]) ∧ ∃ r, v = .int r ∧ Φ m r) → D.rt v H') (hl : ρ.length = N.length)
    (he : DE X B noH (lessO H p) [(p, .lst [.int c, .int k])] ρ false e (.int r)) (hΦ : Φ m r) : G X B noH (lessO H p) [(p, .lst [.int c, .int k])] ρ (.Return (some e) pos :: rest) D := g_retS he fun v σ P' H' S hq => by
  cases hq
  obtain ⟨_, xs, ho, h2⟩ := S.own _ (List.mem_singleton.mpr rfl)
  have b2 : DqAll P' xs ([c, k].map PyData.int) := h2
  have := b2.ints
  subst this
  exact hQ _ σ P' H' ⟨_, c, k, (sat_blank S hl).mark (noH_same _), ho, r, rfl, hΦ⟩
end
end Dw

namespace Dw
open PySem PySem.Spec PyProof.Rows L2
/-- an int with a mark -/
def iD (A : Int → Prop) : PyData → Prop := fun d => ∃ i, d = .int i ∧ A i
section
variable {X : Cx} {B P0 H0 : Hp} {W W' : List (Addr × Ob)} {ρ ρ' : List Sl} {m m1 m2 : Bool} {a b c e : Expr} {es : List Expr} {pos p1 p2 p3 p4 p5 : Pos} {d d1 d2 d3 : PyData} {ds es' : List PyData} {D : Ends} {rest body els : List Stmt} {x y z : Str} {Φ' Θ : PyData → Prop} {I J : Int → Prop}
theorem dv_int {i : Int} (h : DE X B P0 H0 W ρ true e (.int i)) (hi : I i) : DV X B P0 H0 W ρ e (iD I) := dv_of h ⟨i, rfl, hi⟩
theorem dv_add (ha : DV X B P0 H0 W ρ a (iD I)) (hb : DV X B P0 H0 W ρ b (iD J)) : DV X B P0 H0 W ρ (.BinOp a .Add b pos) (iD fun k => ∃ i j, k = i + j ∧ I i ∧ J j) :=
  dv_op op_add ha hb fun d1 d2 ⟨i, e1, h1⟩ ⟨j, e2, h2⟩ => by
    subst e1 e2
    exact ⟨.int (i + j), ⟨_, rfl, i, j, rfl, h1, h2⟩, od_I0 (d := fun i j => .int (i + j)) fun i j H => .int _⟩
theorem dv_sub (ha : DV X B P0 H0 W ρ a (iD I)) (hb : DV X B P0 H0 W ρ b (iD J)) : DV X B P0 H0 W ρ (.BinOp a .Sub b pos) (iD fun k => ∃ i j, k = i - j ∧ I i ∧ J j) :=
  dv_op op_sub ha hb fun d1 d2 ⟨i, e1, h1⟩ ⟨j, e2, h2⟩ => by
    subst e1 e2
    exact ⟨.int (i - j), ⟨_, rfl, i, j, rfl, h1, h2⟩, od_I0 (d := fun i j => .int (i - j)) fun i j H => .int _⟩
theorem dv_mul (ha : DV X B P0 H0 W ρ a (iD I)) (hb : DV X B P0 H0 W ρ b (iD J)) (hc : ∀ i j, I i → J j → CMul i j) : DV X B P0 H0 W ρ (.BinOp a .Mult b pos) (iD fun k => ∃ i j, k = i * j ∧ I i ∧ J j) :=
  dv_op op_mul ha hb fun d1 d2 ⟨i, e1, h1⟩ ⟨j, e2, h2⟩ => by
    subst e1 e2
    exact ⟨.int (i * j), ⟨_, rfl, i, j, rfl, h1, h2⟩, od_I (d := fun i j => .int (i * j)) (hc i j h1 h2) fun i j H => .int _⟩
theorem dv_fdiv (ha : DV X B P0 H0 W ρ a (iD I)) (hb : DV X B P0 H0 W ρ b (iD J)) (hc : ∀ i j, I i → J j → CDiv i j) : DV X B P0 H0 W ρ (.BinOp a .FloorDiv b pos) (iD fun k => ∃ i j, k = i / j ∧ I i ∧ J j) :=
  dv_op op_fdiv ha hb fun d1 d2 ⟨i, e1, h1⟩ ⟨j, e2, h2⟩ => by
    subst e1 e2
    exact ⟨.int (i / j), ⟨_, rfl, i, j, rfl, h1, h2⟩, od_I (d := fun i j => .int (i / j)) (hc i j h1 h2) fun i j H => .int _⟩
theorem dv_imp (h : DV X B P0 H0 W ρ e (iD I)) (hi : ∀ i, I i → J i) : DV X B P0 H0 W ρ e (iD J) := dv_mono h fun d ⟨i, e, q⟩ => ⟨i, e, hi i q⟩
theorem dv_if {k : Bool} {Φ : PyData → Prop} (h : DT X B P0 H0 W ρ c k) (h1 : k = true → DV X B P0 H0 W ρ a Φ) (h2 : k = false → DV X B P0 H0 W ρ b Φ) : DV X B P0 H0 W ρ (.IfExp c a b pos) Φ := fun σ P H S Q q =>
  ⟨_, pe_ifExp pt_u pe_u pe_u, h σ P H S _ fun P1 H1 g1 => by
    cases k with
    | true => exact iteT (h1 rfl σ P1 H1 (S.grow g1) Q fun v d P2 H2 S2 s2 f k2 => q v d P2 H2 S2 (g1.pp.trans s2) f k2)
    | false => exact iteF (h2 rfl σ P1 H1 (S.grow g1) Q fun v d P2 H2 S2 s2 f k2 => q v d P2 H2 S2 (g1.pp.trans s2) f k2)⟩
theorem dv_ifV {Φ : PyData → Prop} {Ψ : Bool → Prop} (h : DVT X B P0 H0 W ρ c Ψ) (h1 : Ψ true → DV X B P0 H0 W ρ a Φ) (h2 : Ψ false → DV X B P0 H0 W ρ b Φ) : DV X B P0 H0 W ρ (.IfExp c a b pos) Φ := fun σ P H S Q q =>
  ⟨_, pe_ifExp pt_u pe_u pe_u, h σ P H S _ fun k P1 H1 S1 s1 f1 => by
    cases k with
    | true => exact iteT (h1 f1 σ P1 H1 S1 Q fun v d P2 H2 S2 s2 f k2 => q v d P2 H2 S2 (s1.trans s2) f k2)
    | false => exact iteF (h2 f1 σ P1 H1 S1 Q fun v d P2 H2 S2 s2 f k2 => q v d P2 H2 S2 (s1.trans s2) f k2)⟩
/-- a roll whose bound is an int with a mark -/
theorem dv_roll {k j : Nat} (i kw : Nat) {p : Addr} {Φ : Int → Int → Prop} {pre : Int → Prop} {x n : Str} (C : CalD X.prog X.w X.K X.mg X.base x k Φ pre) (hr : Room j X.A) (hk : k ≤ j) {mm : Int} (he : DE X B P0 H0 W ρ true e (.int mm)) (hpre : pre mm) (hρ : ρ[i]? = some (.raw (.ref p)) := by rfl) (hW : W[kw]? = some (p, .vol) := by first | rfl | assumption) (hN : X.N[i]? = some n := by rfl)
    (hv : Vis X.env.scope n := by first | exact Or.inl rfl | exact Or.inr (Or.inl rfl) | exact Or.inr (Or.inr rfl)) (hd : (n == ("__debug__" : Str)) = false := by decide) (hcd : (n == ("__classdict__" : Str)) = false := by decide) (hg : Gl X x := by rfl) (hdb : (x == ("__debug__" : Str)) = false := by decide)
    (he1 : starEach [.Name n p1, e] X.env = (false, eval (.Name n p1) X.env) :: starEach [e] X.env := by rfl) (he2 : starEach [e] X.env = (false, eval e X.env) :: starEach [] X.env := by rfl) (hpl : (backTo pos (starEach [e] X.env)).any (·.1) = false := by rfl) : DV X B P0 H0 W ρ (.Call (.Name x p2) [.Name n p1, e] [] pos) (iD (Φ mm)) :=
  dv_dice i kw C hr hk (dv_de he) (fun d hd => ⟨mm, hd, hpre, fun r hr => ⟨r, rfl, hr⟩⟩) hρ hW hN hv hd hcd hg hdb he1 he2 hpl
theorem dv_rollV {k j : Nat} (i kw : Nat) {p : Addr} {Φ : Int → Int → Prop} {pre : Int → Prop} {x n : Str} (C : CalD X.prog X.w X.K X.mg X.base x k Φ pre) (hr : Room j X.A) (hk : k ≤ j) (he : DV X B P0 H0 W ρ e (iD I)) (hpre : ∀ i, I i → pre i) (hρ : ρ[i]? = some (.raw (.ref p)) := by rfl) (hW : W[kw]? = some (p, .vol) := by first | rfl | assumption) (hN : X.N[i]? = some n := by rfl)
    (hv : Vis X.env.scope n := by first | exact Or.inl rfl | exact Or.inr (Or.inl rfl) | exact Or.inr (Or.inr rfl)) (hd : (n == ("__debug__" : Str)) = false := by decide) (hcd : (n == ("__classdict__" : Str)) = false := by decide) (hg : Gl X x := by rfl) (hdb : (x == ("__debug__" : Str)) = false := by decide)
    (he1 : starEach [.Name n p1, e] X.env = (false, eval (.Name n p1) X.env) :: starEach [e] X.env := by rfl) (he2 : starEach [e] X.env = (false, eval e X.env) :: starEach [] X.env := by rfl) (hpl : (backTo pos (starEach [e] X.env)).any (·.1) = false := by rfl) : DV X B P0 H0 W ρ (.Call (.Name x p2) [.Name n p1, e] [] pos) (iD fun r => ∃ mm, I mm ∧ Φ mm r) :=
  dv_dice i kw C hr hk he (fun d ⟨mm, hd, hi⟩ => ⟨mm, hd, hpre mm hi, fun r hr => ⟨r, rfl, mm, hi, hr⟩⟩) hρ hW hN hv hd hcd hg hdb he1 he2 hpl
end
end Dw

/-! a list walked to its end while an exception is handled -/
namespace Hz
open PySem PySem.Spec PyProof.Rows L2 HotX PySem.F
section
variable {prog : Program} {w : World} {A : Around} {E : Value → Shared → Prop} {s : Shared}
theorem hot_keep {x1 : Addr} {h h' : Heap} (hot : HotAt A x1 h) (k : ∀ o, h.get? x1 = some o → h'.get? x1 = some o) : HotAt A x1 h' := by
  obtain ⟨a, o, vs, b, c, d⟩ := hot
  exact ⟨a, o, vs, k o b, c, d⟩
theorem list_end_hot {it l x1 : Addr} {i : Nat} {items : Array Value} {Q : Option Value → Shared → Prop} (hot : HotAt A x1 s.heap) (hne : x1 ≠ it)
    (hit : s.heap.IsListIter it l i) (hl : s.heap.IsList l items) (hx : items[i]? = none)
    (hQ : ∀ h', (∀ b o, b ≠ it → s.heap.get? b = some o → h'.get? b = some o) → Q none { s with heap := h' }) : wpAny (model prog w) A (pyNext (.ref it)) Q E s := by
  obtain ⟨o, ho, hc, hd⟩ := id hit
  obtain ⟨ol, hol, _, nl, hdl⟩ := hl
  unfold pyNext
  refine wpAny_bind (wpAny_attempt (wpAny_callSpecial?_slot (name := Str.ofString "__next__") hit.typeIs slot_listiter_next (wpAny_call_entry slot_listiter_next hit.typeIs entry_listiter_next ?_ (args_listiter_next _))))
  show wpAny (model prog w) A.in1 (Bind.bind (field (Value.ref it) 0) _) _ _ _
  refine wpAny_bind (wpAny_field ho hd (x := Value.ref l) rfl ?_)
  have nn : ¬ (Value.ref l == Value.none) = true := Bool.false_ne_true
  show wpAny (model prog w) A.in1 (ite ((Value.ref l == Value.none) = true) _ _) _ _ _
  rw [if_neg nn]
  show wpAny (model prog w) A.in1 (Bind.bind (field (Value.ref it) 1) _) _ _ _
  refine wpAny_bind (wpAny_field ho hd (x := Value.int i 0) rfl ?_)
  show wpAny (model prog w) A.in1 (Bind.bind (seqItems? (Value.ref l)) _) _ _ _
  refine wpAny_bind (wpAny_seqItems hol hdl ?_)
  simp only [hx, Int.toNat_natCast]
  refine wpAny_bind (wpAny_rule (wpAny_bind (wpAny_setField ho hd (by simp) ?_)))
  show wpAny (model prog w) A.in1 (Bind.bind (newExc (.type "StopIteration") []) _) _ _ _
  refine wpAny_bind ?_
  simp only [newExc, newTuple]
  refine wpAny_bind (wpAny_newObj_type ?_ (by size_fits))
  refine wpAny_bind (m := firstArgMember _ _) (wpAny_of_eq (a := Value.none) (by first | rfl | (simp only [firstArgMember]; rfl)) ?_)
  refine wpAny_newObj_type ?_ (by size_fits)
  have up : ∀ b u, b ≠ it → s.heap.get? b = some u → (s.heap.update it (Obj.mapFields (·.setIfInBounds 0 Value.none))).get? b = some u := fun b u hb e => by
    rw [Heap.get?_update_other _ _ (Ne.symm hb)]
    exact e
  obtain ⟨hh, o1, vs1, h1, d1, c1⟩ := hot
  have h1u := up _ _ hne h1
  refine raiseNew_hot ⟨hh, o1, vs1, Heap.get?_push_of_some _ (Heap.get?_push_of_some _ h1u), d1, c1⟩ (Nat.ne_of_lt (Heap.lt_size (Heap.get?_push_of_some _ h1u))) (Heap.get?_push_size _ rfl) rfl (by first | (simp; done) | (simp; omega) | (simp only [Array.size_append]; simp; omega)) ?_
  refine wpAny_bind (wpAny_isInstance (T := "StopIteration") (b := true) ⟨_, Heap.get?_update_self _ (Heap.get?_push_size _ rfl) rfl, rfl⟩ isSubtype_stop ?_)
  refine wpAny_pure (hQ _ fun b u hb e => ?_)
  have e' := up b u hb e
  rw [Heap.get?_update_other _ _ (Nat.ne_of_gt (Heap.lt_size (Heap.get?_push_of_some _ e')))]
  exact Heap.get?_push_of_some _ (Heap.get?_push_of_some _ e')
theorem walks_hot (I ax x1 : Addr) (h1 : ax ≠ I) (h2 : x1 ≠ I) (items : Array Value) :
    Walks prog w A I [I, ax, x1] [I] items.size (fun i v => items[i]? = some v) (fun i h => h.IsListIter I ax i ∧ h.IsList ax items ∧ HotAt A x1 h) where
  sub := fun b hb => by
    have : b = I := by simpa using hb
    simp [this]
  frame := fun _ _ _ st hk => ⟨st.1.at fun o e => hk I (by simp) o e, st.2.1.at fun o e => hk ax (by simp) o e, hot_keep st.2.2 fun o e => hk x1 (by simp) o e⟩
  item := fun i s Q E hi st hQ => by
    refine wpAny_pyNext_list_item st.1 st.2.1 (x := items[i]) (by simp [hi]) fun h' hit' hs' => ?_
    have kk : ∀ b o, b ≠ I → s.heap.get? b = some o → h'.get? b = some o := fun b o hb e => hs'.extBut b o hb e
    exact hQ _ h' s.toks (by simp [hi]) ⟨hit', st.2.1.extBut hs'.extBut h1, hot_keep st.2.2 fun o e => kk _ o h2 e⟩ fun b o hb e => kk b o (fun z => hb (by simp [z])) e
  done := fun s Q E st hQ => list_end_hot st.2.2 h2 st.1 st.2.1 (by simp) fun h' k => hQ h' s.toks fun b o hb e => k b o (fun z => hb (by simp [z])) e
  self := fun _ _ _ _ st hQ => wpAny_pyIter_listiter st.1 hQ
theorem sum_hot {l x1 : Addr} {its : List Value} {ns : List Int} {Q : Value → Shared → Prop} (hot : HotAt A x1 s.heap) (hl : s.heap.IsList l its.toArray) (hi : IntsAre its ns)
    (h : ∀ h' tk t', (∀ b o, s.heap.get? b = some o → h'.get? b = some o) → Q (.int ns.sum t') { s with heap := h', toks := tk }) : wpAny (model prog w) A (call (.builtin "sum") [.ref l]) Q E s := by
  obtain ⟨xs, e⟩ := hi.allInts.items
  have hn : numsOf (intItems xs).toList = ns := by rw [← e]; exact hi.numsOf
  rw [nums_intItems] at hn
  rw [e] at hl
  have lx : x1 < s.heap.objs.size := by
    obtain ⟨_, o, _, a, _⟩ := hot
    exact Heap.lt_size a
  refine call_sum_walkG (iter_intList hl fun s₂ e st hfp hlI => ?_)
  subst e
  have nx : x1 ≠ s.heap.objs.size := Nat.ne_of_lt lx
  refine ⟨_, _, _, _, _, _, numAt xs, rfl, walks_hot (A := A.in1) _ l x1 hlI nx (intItems xs), ⟨st.1, st.2, ?_⟩, fun b hb => ?_, (fun _ _ => intItems_at), fun h' tk t' hk => ?_⟩
  · exact hot_keep (A := A.in1) (h := s.heap) hot fun o e => Heap.get?_push_of_some _ e
  · rcases List.mem_cons.mp hb with z | hb
    · exact hfp b (by simp [z])
    · rcases List.mem_cons.mp hb with z | hb
      · exact hfp b (by simp [z])
      · have z : b = x1 := by simpa using hb
        rw [z]
        show _ < (s.heap.push _).objs.size
        rw [Heap.size_push]
        exact Nat.lt_succ_of_lt lx
  · have q := h h' tk t' fun b o e => hk b o (fun z => by
        have z' : b = s.heap.objs.size := by simpa using z
        exact Nat.ne_of_lt (Heap.lt_size e) z') (Heap.get?_push_of_some _ e)
    rw [← hn] at q
    have ez : (intItems xs).size = xs.size := by simp [intItems]
    rw [ez, preSum_eq, List.take_of_length_le (by simp)]
    exact q
end
section
variable {X : Cx}
theorem cr_sumH (hc : L2H.HotC X) : CallR X (.builtin "sum") (rSum X.K) := by
  intro pins s σ H vs us Q I r h
  obtain ⟨a, ns, rfl, hs, q⟩ := h
  obtain ⟨its, rv, hl, _⟩ := I.list hs
  obtain ⟨x1, hot⟩ := hc.at I
  rw [Vals.ref1 r]
  exact sum_hot hot hl.isList rv.ints fun h' tk t' hk => ⟨.int _, H, I.kept hk, ⟨_, rfl⟩, q⟩
end
end Hz

/-! [int(x) for x in flags] while an exception is handled -/
namespace Hz
open PySem PySem.Spec PyProof.Rows L2 HotX
def b2i (b : Bool) : Int := if b then 1 else 0
theorem paired_b : ∀ {bs : List Bool} {ys : List Value}, Paired (fun v y => ∃ b t, v = Value.bool b ∧ y = Value.int (b2i b) t) (bs.map Value.bool) ys → Vals ((bs.map b2i).map V.int) ys
  | [], _, h => by
    cases h
    exact .nil
  | b :: bs, _, h => by
    cases h with
    | cons h1 h2 =>
      obtain ⟨b', t, e1, e2⟩ := h1
      cases e1
      exact .cons ⟨t, e2⟩ (paired_b h2)
/-- what the scope of such a comprehension must say -/
structure LcS (scope : Scope) (x : Str) : Prop where
  free : ∀ y ∈ scope.names, y.2 ≠ .free
  cell : ∀ y ∈ scope.names, y.2 ≠ .cell
  kind : scope.kind = .function
  names : ∀ y ∈ scope.names, y.2 = .local → scope.names.lookup y.1 = some .local
  loc : scope.names.lookup x = some .local
  int : scope.names.lookup ("int" : Str) = some .globalImplicit
theorem pe_lcH {X : Cx} {x : Str} {iter : Expr} {tl : TE} {scope : Scope} {p1 p2 p3 px pos : Pos} (hc : L2H.HotC X) (hl : PE X iter tl) (hm : X.mg "int" = none) (S : LcS scope x) (hd : (x == ("__debug__" : Str)) = false := by decide)
    (hs : ∀ x, foldedSetIterable iter X.env x = pure x := by intro _; rfl) :
    PE X (.ListComp (.Call (.Name "int" p1) [.Name x p2] [] p3) [⟨.Name x px, iter, [], 0⟩] scope pos) (fun σ H Q => tl σ H fun v H1 => ∃ (a : Addr) (bs : List Bool), v = .ref a ∧ SqL X.K H1 a (bs.map V.bl) ∧ ∀ D, H1 D = none → Q (.ref D) (upd H1 D (.lst ((bs.map b2i).map V.int)))) := by
  refine ⟨fun pins s σ H Q I h => ?_⟩
  refine wpAny_ListComp_walk (fun _ => true) (fun v y => ∃ b t, v = Value.bool b ∧ y = Value.int (b2i b) t) S.free S.cell S.kind S.names S.loc ?_ hs
  refine thn (hl.run pins s σ H _ I h) fun v s1 ⟨z, H1, I1, r1, q1⟩ => ?_
  obtain ⟨a, bs, e, hq, q⟩ := q1
  subst e
  obtain rfl : v = Value.ref a := r1
  obtain ⟨its, rv, hp, hz⟩ := I1.list hq
  obtain ⟨x1, hot⟩ := hc.at I1
  obtain rfl : its = bs.map Value.bool := rv.bls
  have lx : x1 < s1.heap.objs.size := by
    obtain ⟨_, o, _, a, _⟩ := hot
    exact Heap.lt_size a
  have la : a < s1.heap.objs.size := by
    obtain ⟨o, e, _⟩ := hp.isList
    exact Heap.lt_size e
  refine wpAny_pyIter_list hp.isList ?_
  have hlen : (bs.map Value.bool).toArray.size ≤ sizeLine := by
    simpa using hz
  refine ⟨s1.heap.objs.size, _, _, _, _, _, rfl, walks_hot (A := X.A) s1.heap.objs.size a x1 (Nat.ne_of_lt la) (Nat.ne_of_lt lx) (bs.map Value.bool).toArray, hlen, ⟨⟨_, Heap.get?_push_size _ rfl, rfl, rfl⟩, hp.isList.push _, hot_keep hot fun o e => Heap.get?_push_of_some _ e⟩, fun b hb => ?_, ?_, ?_⟩
  · show b < (s1.heap.push _).objs.size
    rw [Heap.size_push]
    rcases List.mem_cons.mp hb with z | hb
    · rw [z]; exact Nat.lt_succ_self _
    · rcases List.mem_cons.mp hb with z | hb
      · rw [z]; exact Nat.lt_succ_of_lt la
      · have z : b = x1 := by simpa using hb
        rw [z]; exact Nat.lt_succ_of_lt lx
  · refine ⟨fun C i v s3 m3 E' hv hn hm3 hk htk => wpAny_tests_nil ⟨rfl, s3.heap, s3.toks, rfl, fun _ _ e => e⟩, fun C i v s3 m3 E' hv _ hn hm3 hk htk => ?_⟩
    have k13 : ∀ b o, s1.heap.get? b = some o → s3.heap.get? b = some o := fun b o e => hk b o (fun z => by
      have z' : b = s1.heap.objs.size := by simpa using z
      exact Nat.ne_of_lt (Heap.lt_size e) z') (Heap.get?_push_of_some _ e)
    obtain ⟨mb, hb1, hb2⟩ := I1.mod.blt
    have hg : s1.heap.Ns X.env.globals X.mg := by
      rw [I1.ok.glob]; exact I1.mod.glob.keeps I1.bk
    have hb : s1.heap.Ns X.env.builtins mb := by
      rw [I1.ok.blt]; exact hb1.keeps I1.bk
    obtain ⟨b, hbv⟩ : ∃ b, v = Value.bool b := by
      rw [List.getElem?_toArray, List.getElem?_map] at hv
      cases e : bs[i]? with
      | none => rw [e] at hv; cases hv
      | some b => rw [e] at hv; exact ⟨b, (Option.some.inj hv).symm⟩
    refine Call_ (Calls.Name_function_global (env := compEnv scope C X.env) S.kind S.int (Calls.loadGlobal_builtin (hg.keeps k13) hm (hb.keeps k13) ((hb2 "int" (by decide)).trans (by decide +kernel : bootBuiltins "int" = some (.type "int"))) ?_))
    refine PyProof.Rows.callWith_type1 (args_cons (wpAny_Name (wpAny_loadName_local (env := compEnv scope C X.env) S.kind S.loc hn hm3 (args_nil ?_)) hd))
    rw [hbv]
    exact call_int_bool ⟨⟨b, _, rfl, rfl⟩, s3.heap, _, rfl, fun _ _ e => e⟩
  · intro D h' tk ys vs hD hl' hpl hlen' hP hF hk
    have k1 : ∀ b o, s1.heap.get? b = some o → h'.get? b = some o := fun b o e => hk b o (fun z => by
      have z' : b = s1.heap.objs.size := by simpa using z
      exact Nat.ne_of_lt (Heap.lt_size e) z') (Heap.get?_push_of_some _ e)
    have hD1 : s1.heap.get? D = none := by
      cases e : s1.heap.get? D with
      | none => rfl
      | some o =>
        rw [show (s1.heap.push _).get? D = some o from Heap.get?_push_of_some _ e] at hD
        cases hD
    have evs : vs = bs.map Value.bool := by
      refine List.ext_getElem? fun i => ?_
      have hl2 : vs.length = (bs.map Value.bool).length := by rw [hlen']; simp
      cases e : vs[i]? with
      | none =>
        have := List.getElem?_eq_none_iff.mp e
        exact (List.getElem?_eq_none (by omega)).symm
      | some u =>
        have := hP i u e
        rw [List.getElem?_toArray] at this
        exact this.symm
    rw [List.filter_eq_self.mpr (fun _ _ => rfl), evs] at hF
    have rv2 := paired_b hF
    have hn : H1 D = none := I1.hok.gone hD1
    obtain ⟨n, e⟩ := hpl
    refine ⟨.ref D, _, I1.laidN (o := .lst ((bs.map b2i).map V.int)) (t' := tk) k1 hD1 hn ⟨?_, ys.toList, n, rv2, ?_⟩, rfl, q D hn⟩
    · simpa using hz
    · rw [e]
end Hz

/-! a def that is told which exception is handled -/
namespace Hz
open PySem PySem.Spec PyProof.Rows L2 HotX Dw
theorem call_isP {X : Cx} {D : Addr} {p : Addr × Obj} (C : ExcC X.K D) (hp : p ∈ X.pn) (hz : Zc (.ref D) none p.2) (hf : ∃ vs, p.2.data = .fields vs) : CallR X (.builtin "isinstance") (rIsE X.K D p.1) := fun pins s σ H xs us Q I r h => by
  obtain ⟨c, cv, b, rfl, hcv, e, q⟩ := h
  obtain ⟨u1, u2, rfl, r1, r2⟩ := vals2 r
  obtain rfl : u1 = Value.ref p.1 := r1
  rw [hcv _ r2]
  have hget := (I.pin p (List.mem_append_left _ hp)).1
  obtain ⟨vs, hv⟩ := hf
  obtain ⟨pa, oc, od, oda, osl⟩ := p
  obtain ⟨h1, h2⟩ := hz
  dsimp only at h1 h2 hv hget ⊢
  subst h1 h2 hv
  exact PySem.W.kia_one (PySem.W.handS_kitx_exc C.hg C.hk C.hs C.hd C.ha C.hn C.ht C.hm) I.kIn ⟨hget, rfl, rfl, trivial⟩ e (fun z => nomatch z) fun tk => ⟨.bl b, H, I.kept (t' := tk) fun _ _ z => z, rfl, q⟩
/-- the promise: called with the exception that is handled, of class D, it gives d -/
structure FnZ (P : Program) (w : World) (K : PySem.W.Frag) (mg : Str → Option Value) (base : Heap) (k : Nat) (f : Addr) (fd : FuncData) (ps : List Str) (D : Addr) (d : PyData) : Prop where
  run : ∀ (A : Around) (outer : List Env) (s : Shared) (H : Hp) (args : Args) (Q : VK) (p : Addr × Obj), L2H.RoomH k A → L2H.Hot1 A p → L2H.PinOk outer H s p → Zc (.ref D) none p.2 → Env0 P w K mg base A outer s H → BindsTo s fd args (ps.zip [.ref p.1]) →
    (∀ v P' H', Gr noH H P' H' → Dq P' v d → Q v H') → codeAny (model P w) A (.call (.ref f) args) (CR C8.CX0 outer P w H s Q C8.E0) s
section
variable {P : Program} {w : World} {K : PySem.W.Frag} {mg : Str → Option Value} {base : Heap} {x a : Str} {st : Stmt} {N : List Str} {k : Nat} {D : Addr} {d : PyData}
theorem fnZ_of {f : Addr} {fd : FuncData} (F : Fun K x x st f fd) (S : FnScope N [a] (defScope st)) (hn : 1 ≤ N.length)
    (hb : ∀ (cdv : Value) (A : Around) (outer : List Env) (s : Shared) (H : Hp) (Q : VK) (p : Addr × Obj), L2H.Hot1 A p → L2H.RoomH k (A.deeper (envOfC x (defScope st) s.heap.objs.size f cdv)) → Zc (.ref D) none p.2 → (∀ v P' H', Gr noH H P' H' → Dq P' v d → Q v H') →
      G (L2H.cxH C8.CX0 P w K mg base N x (defScope st) f cdv A outer s H C8.E0 p) noH noH H [] (.raw (.ref p.1) :: List.replicate (N.length - 1) .no) (defBody st) (endsD Q)) : FnZ P w K mg base (k + 1) f fd [a] D d := by
  obtain ⟨oc, od, kV, doc, pm, an, cdv, ct, osl, rfl, lk, hcd⟩ := F.ex
  refine ⟨fun A outer s H args Q p hr hot hpin hz e0 hbd hQ => ?_⟩
  have inK : K.In s.heap := e0.mod.kin.keeps fun b o e => (e0.bs b o e).1
  have hpar : ∀ y ∈ [a].zip [Value.ref p.1], (defScope st).names.lookup y.1 = some .local ∨ ((defScope st).names.lookup y.1 = some .cell ∧ ((cellsFrom (s.heap.objs.size + 1) (defScope st).names []).lookup y.1).isSome = true) := fun y hy => by
    have ey : y = (a, Value.ref p.1) := by simpa using hy
    rw [ey]
    exact (S.par a (by simp)).imp id fun q => ⟨q, PySem.W.cellsFrom_some _ _ _ (.inl q)⟩
  refine codeAny_call_function hr.depth (inK _ _ lk) rfl S.co S.gen rfl (PySem.W.codeRec_of inK hcd) (hbd _ _ _ _ (wpAny_newFunctionEnv_cells S.kind hpar fun env he s1 x1 => ?_))
  subst he
  refine ⟨(e0.mod.nolimit.keeps fun b o e => (e0.bs b o e).1).keeps x1.toInCall.keep, codeAny_func ?_⟩
  have I : Inv (L2H.cxH C8.CX0 P w K mg base N x (defScope st) f cdv A outer s H C8.E0 p) [] (L2.start N [V.ref p.1]) H s1 := L2H.inv_startH S hpin e0 rfl (.cons rfl .nil) x1
  have S0 : Sat noH noH H [] (.raw (.ref p.1) :: List.replicate (N.length - 1) .no) (L2.start N [V.ref p.1]) noH H := {
    sb := Same.refl _
    pd := fun _ _ h => by cases h
    e0 := noH_same _
    gr := Gr.refl (noH_same _)
    own := fun _ h => by cases h
    fr := fun _ h => by cases h
    nd := List.nodup_nil
    len := by unfold L2.start; simp
    sl := fun i s hs => by
      unfold L2.start
      cases i with
      | zero => cases hs; exact ⟨_, rfl, rfl⟩
      | succ i =>
        have hs : (List.replicate (N.length - 1) Sl.no)[i]? = some s := hs
        rw [List.getElem?_replicate] at hs
        split at hs
        · cases hs
          refine ⟨none, ?_, trivial⟩
          show (List.replicate _ _)[i]? = _
          rw [List.getElem?_replicate, if_pos]
          simpa using by assumption
        · cases hs }
  obtain ⟨t, ht, hq⟩ := hb cdv A outer s H Q p hot (hr.deeper _) hz hQ _ noH H S0
  refine wpAny_mono (ht.run [] s1 _ H _ I hq) (fun fl s' hs => ?_) fun e s' hs => hs
  cases fl with
  | ret u =>
    obtain ⟨v, σ', H', J, rv, q⟩ := hs
    exact ⟨v, H', J.os, J.bare, J.base, J.hok, rv, q⟩
  | next =>
    obtain ⟨σ', H', J, q⟩ := hs
    exact ⟨V.non, H', J.os, J.bare, J.base, J.hok, rfl, q⟩
  | brk =>
    obtain ⟨_, _, _, q⟩ := hs
    exact q.elim
  | cont =>
    obtain ⟨_, _, _, q⟩ := hs
    exact q.elim
end
/-- term(e) in the suite that handles e -/
theorem pe_callZ {X : Cx} {k i : Nat} {f D : Addr} {fd : FuncData} {ps : List Str} {d : PyData} {x n : Str} {p : Addr × Obj} {p1 p2 pos : Pos} (F : FnZ X.prog X.w X.K X.mg X.base k f fd ps D d) (hps : ps.length = 1) (hr : L2H.RoomH k X.A) (hot : L2H.Hot1 X.A p) (hp : p ∈ X.pn) (hz : Zc (.ref D) none p.2)
    (hg : Gl X x) (hm : X.mg x = some (.ref f)) (hk : PySem.W.keepIn X.K (.ref f) = true) (hb : Binds X.K fd ps []) (hN : X.N[i]? = some n) (hv : Vis X.env.scope n) (hdb : (x == ("__debug__" : Str)) = false := by decide) (hd : (n == ("__debug__" : Str)) = false := by decide) (hcd : (n == ("__classdict__" : Str)) = false := by decide)
    (he : starEach [.Name n p2] X.env = (false, eval (.Name n p2) X.env) :: starEach [] X.env := by rfl) (hpl : (backTo pos (starEach [] X.env)).any (·.1) = false := by rfl) :
    PE X (.Call (.Name x p1) [.Name n p2] [] pos) (fun σ H Q => σ[i]? = some (some (.ref p.1)) ∧ ∀ v P' H', Gr noH H P' H' → Dq P' v d → Q v H') := by
  refine ⟨fun pins s σ H Q I h => ?_⟩
  obtain ⟨hσ, hQ⟩ := h
  refine wpAny_Call_Name_kw (ld_glob I hg hm ?_ hdb)
  have ha : PA X [.Name n p2] (tCons (tVar i) tNil) := pa_cons (pe_var hN hv hd hcd) pa_nil he
  refine PySem.W.callWith_K (h₀ := X.base) I.ok.mod.kin hk (thn (ha.run pos pins s σ H (fun vs H1 => vs = [V.ref p.1] ∧ H1 = H) I ⟨_, hσ, rfl, rfl⟩) fun us s1 ⟨vs, H1, I1, r, ev, eH⟩ => ⟨I1.kIn, ?_⟩) he hpl
  subst ev eH
  obtain ⟨u, rfl, r1⟩ := vals1 r
  obtain rfl : u = Value.ref p.1 := r1
  have bd := hb s1 [Value.ref p.1] I1.kIn (by rw [List.append_nil]; exact hps.symm)
  rw [List.append_nil] at bd
  obtain ⟨a1, a2, a3, a4, a5⟩ := I1.pin p (List.mem_append_left _ hp)
  have hpin : L2H.PinOk X.stack H1 s1 p := ⟨a1, a2, fun hm => (List.mem_cons.mp (I1.stkSub p.1 hm)).elim a3 a4, a5⟩
  refine wpAny_call (codeAny_mono (F.run X.A X.stack s1 H1 ⟨[Value.ref p.1], []⟩ Q p hr hot hpin hz I1.env0 bd hQ) fun r s' hq => ?_)
  cases r with
  | error e => exact hq.elim
  | ok fl =>
    cases fl with
    | ret u => exact I1.after hq
    | next => exact False.elim hq
    | brk => exact False.elim hq
    | cont => exact False.elim hq
end Hz

/-! rules within the def that is told of the handled exception -/
namespace Hz
open PySem PySem.Spec PyProof.Rows L2 HotX Dw
section
variable {X : Cx} {B P0 H0 : Hp} {W : List (Addr × Ob)} {ρ : List Sl} {m : Bool} {a e iter : Expr} {pos p1 p2 p3 p4 p5 : Pos} {d : PyData} {x y z : Str}
/-- isinstance(e, C), C an own class -/
theorem de_isP {D C : Addr} {p : Addr × Obj} {b : Bool} (i : Nat) (hm : X.mg "isinstance" = Option.none) (EC : ExcC X.K D) (hp : p ∈ X.pn) (hz : Zc (.ref D) none p.2) (hf : ∃ vs, p.2.data = .fields vs) (gC : X.mg y = some (.ref C)) (kk : PySem.W.kitOne X.K (.ref D) (.ref C) = some b)
    (hρ : ρ[i]? = some (.raw (.ref p.1)) := by rfl) (hN : X.N[i]? = some z := by rfl) (hv : Vis X.env.scope z := by first | exact Or.inl rfl | exact Or.inr (Or.inl rfl) | exact Or.inr (Or.inr rfl)) (hd : (z == ("__debug__" : Str)) = false := by decide) (hcd : (z == ("__classdict__" : Str)) = false := by decide)
    (hg : Gl X "isinstance" := by rfl) (hgy : Gl X y := by rfl) (hdy : (y == ("__debug__" : Str)) = false := by decide)
    (he1 : starEach [.Name z p2, .Name y p3] X.env = (false, eval (.Name z p2) X.env) :: starEach [.Name y p3] X.env := by rfl) (he2 : starEach [.Name y p3] X.env = (false, eval (.Name y p3) X.env) :: starEach [] X.env := by rfl) (hpl : (backTo pos (starEach [.Name y p3] X.env)).any (·.1) = false := by rfl) :
    DE X B P0 H0 W ρ m (.Call (.Name "isinstance" p1) [.Name z p2, .Name y p3] [] pos) (.bool b) := fun σ P H S Q q => by
  obtain ⟨x', e1, e2⟩ := S.sl i _ hρ
  obtain rfl : x' = some (.ref p.1) := e2
  exact ⟨_, pe_callB (call_isP EC hp hz hf) hg hm (by decide +kernel) (pa_cons (pe_var hN hv hd hcd) (pa_cons (pe_glob (v := .ref C) hgy gC rfl hdy) pa_nil he2) he1) (by decide) (by decide) he1 hpl, _, e1, .ref C, .ref C, b, rfl, (fun u h => h), kk, q _ P H (gr_refl S) (.bl _)⟩
/-- .., C a built-in class -/
theorem de_isPT {D : Addr} {T : String} {p : Addr × Obj} {b : Bool} (i : Nat) (hm : X.mg "isinstance" = Option.none) (EC : ExcC X.K D) (hp : p ∈ X.pn) (hz : Zc (.ref D) none p.2) (hf : ∃ vs, p.2.data = .fields vs) (gC : X.mg y = none) (hb : bootBuiltins y = some (.type T)) (kk : PySem.W.kitOne X.K (.ref D) (.type T) = some b)
    (hρ : ρ[i]? = some (.raw (.ref p.1)) := by rfl) (hN : X.N[i]? = some z := by rfl) (hv : Vis X.env.scope z := by first | exact Or.inl rfl | exact Or.inr (Or.inl rfl) | exact Or.inr (Or.inr rfl)) (hd : (z == ("__debug__" : Str)) = false := by decide) (hcd : (z == ("__classdict__" : Str)) = false := by decide)
    (hg : Gl X "isinstance" := by rfl) (hgy : Gl X y := by rfl) (hny : y ≠ "__name__" := by decide) (hdy : (y == ("__debug__" : Str)) = false := by decide)
    (he1 : starEach [.Name z p2, .Name y p3] X.env = (false, eval (.Name z p2) X.env) :: starEach [.Name y p3] X.env := by rfl) (he2 : starEach [.Name y p3] X.env = (false, eval (.Name y p3) X.env) :: starEach [] X.env := by rfl) (hpl : (backTo pos (starEach [.Name y p3] X.env)).any (·.1) = false := by rfl) :
    DE X B P0 H0 W ρ m (.Call (.Name "isinstance" p1) [.Name z p2, .Name y p3] [] pos) (.bool b) := fun σ P H S Q q => by
  obtain ⟨x', e1, e2⟩ := S.sl i _ hρ
  obtain rfl : x' = some (.ref p.1) := e2
  exact ⟨_, pe_callB (call_isP EC hp hz hf) hg hm (by decide +kernel) (pa_cons (pe_var hN hv hd hcd) (pa_cons (pe_bltn (v := .ty T) hgy gC hb rfl hny hdy) pa_nil he2) he1) (by decide) (by decide) he1 hpl, _, e1, .ty T, .type T, b, rfl, (fun u h => h), kk, q _ P H (gr_refl S) (.bl _)⟩
theorem de_lcH {bs : List Bool} {scope : Scope} (hc : L2H.HotC X) (hm : X.mg "int" = Option.none) (Sc : LcS scope x) (he : DE X B P0 H0 W ρ false iter (.list (bs.map .bool))) (hd : (x == ("__debug__" : Str)) = false := by decide) (hs : ∀ x, foldedSetIterable iter X.env x = pure x := by intro _; rfl) :
    DE X B P0 H0 W ρ m (.ListComp (.Call (.Name "int" p1) [.Name x p2] [] p3) [⟨.Name x p4, iter, [], 0⟩] scope pos) (.list ((bs.map b2i).map .int)) := fun σ P H S Q q =>
  ⟨_, pe_lcH hc pe_u hm Sc hd hs, he σ P H S _ fun v P1 H1 g1 k1 => by
    cases k1 with
    | lst h ha =>
      have e := ha.bls
      subst e
      have gr := S.gr.trans g1
      exact ⟨_, bs, rfl, SqL.of (vw_hp S.e0 gr _ _ h), new_lst (m := m) gr (DqAll.ofInts (bs.map b2i)) fun z P2 H2 g2 k2 => q z P2 H2 (g1.trans g2) k2⟩⟩
theorem de_sumH {ns : List Int} (hc : L2H.HotC X) (hm : X.mg "sum" = Option.none) (ha : DE X B P0 H0 W ρ false a (.list (ns.map .int))) (hg : Gl X "sum" := by rfl)
    (he1 : starEach [a] X.env = (false, eval a X.env) :: starEach [] X.env := by rfl) (hpl : (backTo pos (starEach [] X.env)).any (·.1) = false := by rfl) :
    DE X B P0 H0 W ρ m (.Call (.Name "sum" p1) [a] [] pos) (.int ns.sum) := de_bi (cr_sumH hc) hm (by decide +kernel) (da_cons ha da_nil he1) bd_sum hg (by decide) (by decide) he1 hpl
end
/-- the law's nine classes -/
structure Kit9 (K : PySem.W.Frag) (mg : Str → Option Value) (C : Nat → Addr) : Prop where
  n0 : mg "InvalidNumber" = some (.ref (C 0))
  n1 : mg "InvalidGoal" = some (.ref (C 1))
  n2 : mg "InvalidLimit" = some (.ref (C 2))
  n3 : mg "InvalidFactor" = some (.ref (C 3))
  n4 : mg "InvalidText" = some (.ref (C 4))
  n5 : mg "AllPrimes" = some (.ref (C 5))
  n6 : mg "Stopped" = some (.ref (C 6))
  n7 : mg "TooGreat" = some (.ref (C 7))
  n8 : mg "NothingToUndo" = some (.ref (C 8))
  isi : mg "isinstance" = none
  sum : mg "sum" = none
  int : mg "int" = none
  ve : mg "ValueError" = none
/-- the class at i among them -/
structure KitC (K : PySem.W.Frag) (C : Nat → Addr) (i : Nat) : Prop where
  lt : i < 9
  ec : ExcC K (C i)
  ve : PySem.W.kitOne K (.ref (C i)) (.type "ValueError") = some true
  ex : PySem.W.exmOne K (.ref (C i)) (.ref (C 9)) = some true
  kk : ∀ j, j < 9 → PySem.W.kitOne K (.ref (C i)) (.ref (C j)) = some (decide (i = j))
def kindN : List Str := ["InvalidNumber", "InvalidGoal", "InvalidLimit", "InvalidFactor", "InvalidText", "AllPrimes", "Stopped", "TooGreat", "NothingToUndo"]
def termD (i : Nat) : PyData := .tuple [.str "error", .str (kindN.getD i "")]
def flagsB (i : Nat) : List Bool := (List.range 9).map fun j => decide (i = j)
theorem flags_sum : ∀ i, i < 9 → ((flagsB i).map b2i).sum = 1 := by decide
theorem flags_at {i : Nat} (h : i < 9) : (flagsB i)[i]? = some true := by
  unfold flagsB
  rw [List.getElem?_map, List.getElem?_range h]
  simp
theorem flags_ne {i k : Nat} {b : Bool} (hk : k < i) (h : (flagsB i)[k]? = some b) : b = false := by
  unfold flagsB at h
  rw [List.getElem?_map] at h
  cases e : (List.range 9)[k]? with
  | none => rw [e] at h; cases h
  | some j =>
    rw [e] at h
    have : j = k := by
      have h9 : k < 9 := by simpa using (List.getElem?_eq_some_iff.mp e).1
      rw [List.getElem?_range h9] at e
      exact (Option.some.inj e).symm
    have h' := Option.some.inj h
    rw [← h', this]
    exact decide_eq_false (by omega)
end Hz

/-! told(lambda: deed): what the deed gives, or the name of its exception -/
namespace Hz
open PySem PySem.Spec PyProof.Rows L2 HotX Dw LamX
/-- the lambda's body, exceptions of context None let out -/
def lamN (X : Cx) (A : Around) (outer : List Env) (s : Shared) (H : Hp) (E : XK) (scope : Scope) (f c' : Addr) : Cx :=
  { lamCx X A outer s H E scope f c' with xe := fun e s' => wpAny (model X.prog X.w) (A.deeper (lamEnv X scope s.heap.objs.size f c')) (leaving (lamEnv X scope s.heap.objs.size f c') e) (fun _ s'' => L2N.CX X.prog X.w outer H s E e s'') (fun e' s'' => L2N.CX X.prog X.w outer H s E e' s'') s' }
/-- the deed, in every state in which the lambda may be called -/
def uLam (X : Cx) (k : Nat) (scope : Scope) (body : Expr) (E : XK) : TE := fun σ H Q => ∀ (A : Around) (outer : List Env) (s0 : Shared) (H0 : Hp) (f c' : Addr), Room k (A.deeper (lamEnv X scope s0.heap.objs.size f c')) → uE (lamN X A outer s0 H0 E scope f c') body σ H Q
/-- what the def's suite makes of an exception -/
def wTerm (K : PySem.W.Frag) (C : Nat → Addr) (Q : VK) : XK := fun cls d H => ∃ i, cls = .ref (C i) ∧ d = none ∧ KitC K C i ∧ ∀ v P' H', Gr noH H P' H' → Dq P' v (termD i) → Q v H'
section
variable {X : Cx}
/-- the lambda called -/
theorem pe_deed {pins : List (Addr × Obj)} {σ : L2.St} {H : Hp} {s : Shared} {CXg : CXT} {Eg : XK} {Ng : List Str} {qg : Str} {sg : Scope} {g f c' : Addr} {cdg pm ctv : Value} {params : Arguments} {body : Expr} {scope : Scope} {k i : Nat} {a : Str} {pn : List (Addr × Obj)} {xe : Value → Shared → Prop} {W : WX} {E : XK} {p1 p2 : Pos}
    (I : Inv X pins σ H s) (L : LamS X.env.scope scope) (hf : s.heap.get? f = some (PySem.W.kla_obj "<lambda>" (X.env.qual ++ "<lambda>") params body scope (cloFrom X.env.cells scope.names []) pm c' ctv)) (hfn : H f = none) (hfr : f ∉ frs X.stack)
    (hbind : bindArgs (PySem.W.kla_fn "<lambda>" (X.env.qual ++ "<lambda>") params body scope (cloFrom X.env.cells scope.names []) pm (.ref c') ctv) ⟨[], []⟩ = pure [])
    (tk : L2N.Takes ((cxOf CXg X.prog X.w X.K X.mg X.base Ng qg sg g cdg X.A X.stack s H Eg).tr pn xe) W) (hW : ∀ cls d σ' H', E cls d H' → W cls d σ' H') (hr : Room (k + 1) (X.A.deeper (envOfC qg sg s.heap.objs.size g cdg)))
    (hN : Ng[i]? = some a) (hv : Vis sg a) (hd : (a == ("__debug__" : Str)) = false := by decide) (hcd : (a == ("__classdict__" : Str)) = false := by decide) :
    PE ((cxOf CXg X.prog X.w X.K X.mg X.base Ng qg sg g cdg X.A X.stack s H Eg).tr pn xe) (.Call (.Name a p1) [] [] p2)
      (fun σZ HZ Q => σZ[i]? = some (some (.ref f)) ∧ HZ c' = some (CodeO c' (X.env.qual ++ "<lambda>")) ∧ uLam X k scope body E σ HZ Q) := by
  refine ⟨fun pinsZ sZ σZ HZ Q IZ ⟨hs, hc, ht⟩ => ?_⟩
  refine wpAny_Call_Name_kw (thn ((pe_var (pos := p1) (i := i) hN hv hd hcd).run pinsZ sZ σZ HZ (fun v H1 => v = .ref f ∧ H1 = HZ) IZ ⟨_, hs, rfl, rfl⟩) fun u s1 ⟨v, H1, I1, r1, ev, eH⟩ => ?_)
  subst ev
  rw [eH] at I1
  obtain rfl : u = Value.ref f := r1
  have at1 : s1.heap.get? f = some (PySem.W.kla_obj "<lambda>" (X.env.qual ++ "<lambda>") params body scope (cloFrom X.env.cells scope.names []) pm c' ctv) := I1.base.keep f _ hf hfn hfr (fun z => nomatch (show f ∈ ([] : List Addr) from z))
  have un : Un (frs X.stack) [] H HZ s.heap s1.heap := I1.base
  obtain ⟨⟨oc, vs, t, hoc, hdc, hvc⟩, _, _⟩ := I1.hok c' _ hc
  refine PySem.W.callWith_F0 ⟨_, _, _, _, at1⟩ (wpAny_call (codeAny_mono (R := CR (L2N.CX X.prog X.w) (envOfC qg sg s.heap.objs.size g cdg :: X.stack) X.prog X.w HZ s1 Q E) ?_ fun r s' hq => ?_))
  · refine PySem.W.kla_callFunE hr.depth at1 rfl L.co L.gen rfl ⟨c', oc, vs, t, rfl, hoc, hdc, hvc⟩ ?_
    rw [show bindArgs _ ({ pos := ([] : List Value) ++ [] } : Args) = pure [] from hbind]
    refine wpAny_pure (wpAny_newFunctionEnv (fun y hy => (L.own y hy).2) (fun y hy => absurd hy (by simp)) (fun h₁ hns hsb => ⟨I1.nolimit.fresh _ hsb, ?_⟩) L.kind)
    have kp : ∀ b o, s1.heap.get? b = some o → h₁.get? b = some o := fun b o e => hsb.extBut b o (Nat.ne_of_lt (Heap.lt_size e)) (Heap.get?_push_of_some _ e)
    have J0 := lam_start2 (E := E) (f := f) (c' := c') (tk := s1.toks + ([] : List (Str × Value)).length) I L I1.env0 hr.hd un hns kp
    have J : Inv (lamN X (X.A.deeper (envOfC qg sg s.heap.objs.size g cdg)) (envOfC qg sg s.heap.objs.size g cdg :: X.stack) s1 HZ E scope f c') [] σ HZ { s1 with heap := h₁, toks := s1.toks + ([] : List (Str × Value)).length } := J0.wish _
    refine PySem.W.kla_codeExpr (wpAny_mono ((pe_u (X := lamN X _ _ s1 HZ E scope f c')).run [] _ _ HZ Q J (ht _ _ s1 HZ f c' (hr.deeper _))) (fun v s' hq => ?_) fun e s' hq => hq)
    obtain ⟨w', H', J', rv, q⟩ := hq
    exact ⟨w', H', J'.os, J'.bare, J'.base, J'.hok, rv, q⟩
  · cases r with
    | error e => exact L2N.passes_call tk hW pinsZ σZ HZ s1 e s' I1 hq
    | ok fl =>
      cases fl with
      | ret u => exact I1.after hq
      | next => exact False.elim hq
      | brk => exact False.elim hq
      | cont => exact False.elim hq
end
/-- the text of the def that tells -/
def ToldBody (a e pe tm : Str) (b : List Stmt) : Prop := ∃ p1 p2 p3 p4 p5 p6 p7 p8 p9 p10 : Pos, b = [.Try [.Return (some (.Call (.Name a p1) [] [] p2)) p3] [.ExceptHandler (some (.Name pe p4)) (some e) [.Return (some (.Call (.Name tm p5) [.Name e p6] [] p7)) p8] p9] [] [] p10]
/-- the def that tells and the def that names, as they stand -/
structure Tellers (X : Cx) (x : Str) (g : Addr) (st : Stmt) (Ng : List Str) (a e pe tm : Str) (C : Nat → Addr) (k : Nat) (fd ft : FuncData) (t CP : Addr) (pst : List Str) : Prop where
  hg : X.mg x = some (.ref g)
  kg : PySem.W.keepIn X.K (.ref g) = true
  fn : Fun X.K x x st g fd
  bd : L2.Binds X.K fd [a] []
  sc : FnScope Ng [a] (defScope st)
  na : Ng[0]? = some a
  ne : Ng[1]? = some e
  la : (defScope st).names.lookup a = some .local
  le : (defScope st).names.lookup e = some .local
  body : ToldBody a e pe tm (defBody st)
  gt : (defScope st).names.lookup tm = some .globalImplicit
  gp : (defScope st).names.lookup pe = some .globalImplicit
  mp : X.mg pe = some (.ref CP)
  mt : X.mg tm = some (.ref t)
  kt : PySem.W.keepIn X.K (.ref t) = true
  lt : pst.length = 1
  bt : L2.Binds X.K ft pst []
  da : (a == ("__debug__" : Str)) = false
  ca : (a == ("__classdict__" : Str)) = false
  de : (e == ("__debug__" : Str)) = false
  ce : (e == ("__classdict__" : Str)) = false
  dp : (pe == ("__debug__" : Str)) = false
  dt : (tm == ("__debug__" : Str)) = false
  ex : ∀ i, KitC X.K C i → PySem.W.exmOne X.K (.ref (C i)) (.ref CP) = some true
  tm : ∀ i, KitC X.K C i → FnZ X.prog X.w X.K X.mg X.base k t ft pst (C i) (termD i)
section
variable {X : Cx}
theorem room_h {k : Nat} {A : Around} (r : Room k A) (h : Option Value) : L2H.RoomH k (A.mark h) := ⟨r.dp, r.un⟩
theorem pe_told {x a e pe tm : Str} {g c P t CP : Addr} {k : Nat} {C : Nat → Addr} {st : Stmt} {Ng pst : List Str} {fd ft : FuncData} {params : Arguments} {body : Expr} {scope : Scope} {p lpos pos : Pos} {T : List (Addr × Str)}
    (Te : Tellers X x g st Ng a e pe tm C k fd ft t CP pst) (hg : Gl X x) (TB : TabB X.base X.mg c P) (hcode : X.env.code = .ref c) (hmT : (P, X.env.qual ++ "<lambda>") ∈ T) (hu : ∀ p ∈ T, p.1 = P → p.2 = X.env.qual ++ "<lambda>")
    (hr : Room (k + 2) X.A) (L : LamS X.env.scope scope) (hdef : defaultsOf params X.env = ([], [])) (hbind : ∀ (q : Str) (cl : List (Str × Addr)) (pm cv ctv : Value), bindArgs (PySem.W.kla_fn "<lambda>" q params body scope cl pm cv ctv) ⟨[], []⟩ = pure []) (hdb : (x == ("__debug__" : Str)) = false := by decide) :
    PE X (.Call (.Name x p) [.Lambda params body scope lpos] [] pos) (fun σ H Q => Tabs T H ∧ ∀ H1, ExtN H H1 → Tabs T H1 → uLam X k scope body (wTerm X.K C Q) σ H1 Q) := by
  refine ⟨fun pins s σ H Q I ⟨hT, h⟩ => ?_⟩
  refine wpAny_Call_Name_kw (ld_glob I hg Te.hg ?_ hdb)
  refine PySem.W.callWith_K (h₀ := X.base) I.ok.mod.kin Te.kg ?_ (by rfl) (by rfl)
  show wpAny _ _ (spliced ((false, eval (.Lambda params body scope lpos) X.env) :: backTo pos (starEach [] X.env))) _ _ s
  refine Calls.spliced_cons (lam_make2 I TB hcode hmT hu hT hdef (L.has I.ok) fun f c' pm' ctv H1 s' I1 eN T1 hf hfn hfr hco => Calls.spliced_nil ⟨I1.kIn, ?_⟩)
  obtain ⟨oc, od, kV, doc, pm, an, cdv, ct, osl, efd, lk, hcd⟩ := Te.fn.ex
  have hbd := Te.bd
  subst efd
  have hw := h H1 eN T1
  refine wpAny_call (codeAny_mono (R := CR C8.CX0 X.stack X.prog X.w H1 s' Q C8.E0) (run_ofS (N := Ng) (ps := [a]) (us := [.ref f]) (vs := [.ref f]) lk hcd Te.sc hr I1.env0 (hbd s' [.ref f] I1.kIn rfl) (.cons rfl .nil) rfl fun hr' => ?_) fun r s2 hq => ?_)
  · obtain ⟨q1, q2, q3, q4, q5, q6, q7, q8, q9, q10, eb⟩ := Te.body
    rw [eb]
    generalize hXg : cxOf C8.CX0 X.prog X.w X.K X.mg X.base Ng x (defScope st) g cdv X.A X.stack s' H1 C8.E0 = Xg
    have ep : Xg.prog = X.prog := by rw [← hXg]; rfl
    have h0 : (L2.start Ng [V.ref f])[0]? = some (some (V.ref f)) := rfl
    have hsuite : ∀ (b : Addr) (oe : Obj) (cls : Value) (d : Option Addr) (pn : List (Addr × Obj)), L2N.Zn cls d oe → (∃ vs, oe.data = .fields vs) → PSs (Xg.suite b ((b, oe) :: pn)) [.Return (some (.Call (.Name tm q5) [.Name e q6] [] q7)) q8]
        (fun D σ' H' => (∃ σ0 : L2.St, σ' = σ0.set 1 (some (.ref b))) ∧ ∃ i, cls = .ref (C i) ∧ d = none ∧ KitC X.K C i ∧ ∀ v P' H'', Gr noH H' P' H'' → Dq P' v (termD i) → D.rt v H'') := fun b oe cls d pn hz hfd => by
      refine ⟨fun pins s σ' H' D I' ⟨⟨σ0, eσ⟩, i, e1, e2, Z, hQ⟩ => ?_⟩
      subst e1 e2
      have hs1 : σ'[1]? = some (some (.ref b)) := by
        have l1 : 1 < Ng.length := (List.getElem?_eq_some_iff.mp Te.ne).1
        have l2 : σ'.length = Ng.length := by
          have z := I'.len
          subst hXg
          exact z
        rw [eσ] at l2 ⊢
        rw [List.length_set] at l2
        exact List.getElem?_set_self (by omega)
      obtain ⟨vs, hvs⟩ := hfd
      have hot : L2H.Hot1 (Xg.suite b ((b, oe) :: pn)).A (b, oe) := ⟨rfl, vs, hvs, hz.2.2 vs hvs⟩
      have Fz := Te.tm i Z
      subst hXg
      exact (pss_one (ps_ret (pe_callZ (X := (cxOf C8.CX0 X.prog X.w X.K X.mg X.base Ng x (defScope st) g cdv X.A X.stack s' H1 C8.E0).suite b ((b, oe) :: pn)) (i := 1) (p := (b, oe)) Fz Te.lt ((room_h hr' _).mono (Nat.le_succ k)) hot List.mem_cons_self ⟨hz.1, hz.2.1⟩ Te.gt Te.mt Te.kt Te.bt Te.ne (.inl Te.le) Te.dt Te.de Te.ce))).run pins s σ' H' D I' ⟨hs1, hQ⟩
    subst hXg
    refine ⟨_, pss_one (L2N.ps_try_as (X := cxOf C8.CX0 X.prog X.w X.K X.mg X.base Ng x (defScope st) g cdv X.A X.stack s' H1 C8.E0) (c := .ref CP) (i := 1)
      (tb := fun W D σ' H' => ∃ Ech : XK, (∀ cls d σ'' H'', Ech cls d H'' → W cls d σ'' H'') ∧ σ'[0]? = some (some (.ref f)) ∧ H' c' = some (CodeO c' (X.env.qual ++ "<lambda>")) ∧ uLam X k scope body Ech σ H' D.rt) rfl rfl Te.sc.nd Te.ne Te.le ⟨Te.gp, Te.dp, .inl Te.mp⟩ takesN (fun W pn xe tk _ => ?_) hsuite), ?_⟩
    · refine ⟨fun pins s3 σ' H' D I' ⟨Ech, hW, h1, h2, h3⟩ => ?_⟩
      exact (pss_one (ps_ret (pos := q3) (pe_deed (i := 0) (p1 := q1) (p2 := q2) I1 L hf hfn hfr (hbind _ _ _ _ _) tk hW hr' Te.na (.inl Te.la) Te.da Te.ca))).run pins s3 σ' H' D I' ⟨h1, h2, h3⟩
    · refine ⟨wTerm X.K C Q, fun cls d σ'' H'' ⟨i, e1, e2, Z, hQ⟩ => ?_, h0, hco, hw⟩
      subst e1 e2
      exact ⟨true, Te.ex i Z, fun _ b hb => ⟨⟨σ'', rfl⟩, i, rfl, rfl, Z, hQ⟩, fun z => by cases z⟩
  · cases r with
    | error e => exact hq.elim
    | ok fl =>
      cases fl with
      | ret u => exact I1.after hq
      | next => exact False.elim hq
      | brk => exact False.elim hq
      | cont => exact False.elim hq
end
end Hz

/-! told over data; the loop over the dice -/
namespace Dw
open PySem PySem.Spec PyProof.Rows L2 LamX Hz
theorem Gr.join {P' H' P2 H2 : Hp} (e : Same P' H') (g : Gr noH H' P2 H2) : ∃ P3, Gr P' H' P3 H2 ∧ Same P2 P3 := by
  refine ⟨fun a => match P' a with
    | some o => some o
    | Option.none => P2 a, ⟨g.hh, fun a o h => ?_, fun a o h => ?_, fun a o h => ?_, fun a o h => ?_⟩, fun a o h => ?_⟩
  · show (match P' a with | some o => some o | Option.none => P2 a) = some o
    rw [h]
  · split at h
    · rename_i o' e'
      cases h
      exact g.hh a o (e a o e')
    · exact g.ph a o h
  · split at h
    · rename_i o' e'
      cases h
      exact .inl e'
    · rcases g.nw a o h with z | z
      · cases z
      · exact .inr z
  · split at h
    · rename_i o' e'
      cases h
      exact .inl e'
    · rcases g.nd a o h with z | z
      · cases z
      · exact .inr z
  · show (match P' a with | some o => some o | Option.none => P2 a) = some o
    split
    · rename_i o' e'
      have h1 := g.hh a o' (e a o' e')
      have h2 := g.ph a o h
      rw [h1] at h2
      exact h2
    · exact h
/-- what the tables' growth leaves -/
def okW (Tb : Addr) (q : Str) (r : Addr × Ob) : Prop := match r.2 with
  | .tab q' => r.1 = Tb ∧ q' = q
  | .raw o => ∀ ps, o ≠ .tbl ps
  | _ => True
def noT (H : Hp) : Prop := ∀ a ps, H a ≠ some (.tbl ps)
theorem Sat.tabs {B P0 H0 P H H1 : Hp} {W : List (Addr × Ob)} {ρ : List Sl} {σ : L2.St} {Tb : Addr} {q : Str} (S : Sat B P0 H0 W ρ σ P H) (x : ExtN H H1) (t : TabS H1 Tb q) (hW : ∀ r ∈ W, okW Tb q r) (nt : noT H0) : Sat B P0 H0 W ρ σ P H1 := by
  refine { S with gr := ⟨fun a o h => x a o (S.gr.hh a o h) fun ps z => nt a ps (by rw [h, z]), S.gr.pp, fun a o h => x a o (S.gr.ph a o h) fun ps z => ?_, S.gr.nw, S.gr.nd⟩, own := fun r hr => ⟨(S.own r hr).1, ?_⟩ }
  · have := S.pd a o h
    rw [z] at this
    cases this
  · have h2 := (S.own r hr).2
    have hk := hW r hr
    obtain ⟨a, ob⟩ := r
    cases ob with
    | lst ds =>
      obtain ⟨xs, y1, y2⟩ := h2
      exact ⟨xs, x a _ y1 (fun ps z => by cases z), y2⟩
    | raw o => exact x a o h2 hk
    | vol =>
      obtain ⟨c, k, y⟩ := h2
      exact ⟨c, k, x a _ y (fun ps z => by cases z)⟩
    | tab q' =>
      obtain ⟨e1, e2⟩ := hk
      dsimp only at e1 e2 ⊢
      subst e1 e2
      exact t
/-- a deed: what it gives or lets out -/
def DC (X : Cx) (B P0 H0 : Hp) (W : List (Addr × Ob)) (ρ : List Sl) (e : Expr) (o : Out) (E : XK) : Prop := ∀ σ P H, Sat B P0 H0 W ρ σ P H → ∀ Q : VK, QE P H Q E o → uE X e σ H Q
section
variable {X : Cx} {B P0 H0 : Hp} {W W' : List (Addr × Ob)} {ρ ρ' : List Sl} {m m1 m2 : Bool} {a b c e : Expr} {es : List Expr} {pos p1 p2 p3 p4 p5 : Pos} {d d1 d2 d3 : PyData} {ds es' : List PyData} {D : Ends} {rest body els : List Stmt} {x y z : Str} {o : Out} {E : XK}
theorem QE.grow {P H P1 H1 : Hp} {Q : VK} (h : QE P H Q E o) (g : Gr P H P1 H1) : QE P1 H1 Q E o := by
  cases o with
  | ret d => exact fun v P' H' g' k => h v P' H' (g.trans g') k
  | exc C => exact fun P' H' g' => h P' H' (g.trans g')
theorem dc_call {k j n : Nat} {R : List PyData → Out → Prop} (C : Cal X.prog X.w X.K X.mg X.base x k n R) (hr : Room j X.A) (hk : k ≤ j) (hp : Passes (L2N.CX X.prog X.w) X E) (ha : DA X B P0 H0 W ρ true (e :: es) ds) (hn : ds.length = n) (hR : R ds o) (hg : Gl X x := by rfl) (hdb : (x == ("__debug__" : Str)) = false := by decide)
    (he : starEach (e :: es) X.env = (false, eval e X.env) :: starEach es X.env := by rfl) (hpl : (backTo pos (starEach es X.env)).any (·.1) = false := by rfl) : DC X B P0 H0 W ρ (.Call (.Name x p1) (e :: es) [] pos) o E := fun σ P H S Q q => by
  obtain ⟨f, fd, ps, hm, hkp, hB, F⟩ := C.ex
  refine ⟨_, pe_call F (hr.mono hk) hg hm hkp hB .nil hp pa_u hdb he hpl, ha σ P H S _ fun vs P1 H1 g1 k1 => ?_⟩
  rw [List.append_nil]
  exact ⟨P1, ds, o, hn, (S.gr.trans g1).ph, (S.grow g1).pd, k1, hR, q.grow g1⟩
theorem dc_de (h : DE X B P0 H0 W ρ true e d) : DC X B P0 H0 W ρ e (.ret d) E := fun σ P H S Q q => h σ P H S Q q
/-- what is told of it -/
def toldD (C : Nat → Addr) (K : PySem.W.Frag) (o : Out) (d : PyData) : Prop := match o with
  | .ret d' => d = d'
  | .exc c => ∃ i, c = C i ∧ KitC K C i ∧ d = termD i
theorem lam_passes {A : Around} {outer : List Env} {s0 : Shared} {H : Hp} {E : XK} {scope : Scope} {f c' : Addr} : Passes (L2N.CX (lamN X A outer s0 H E scope f c').prog (lamN X A outer s0 H E scope f c').w) (lamN X A outer s0 H E scope f c') E := L2N.passes_call (L2N.takes_of rfl rfl rfl rfl) fun _ _ _ _ h => h
theorem dv_told {g cd Tb t CP : Addr} {k : Nat} {C : Nat → Addr} {st : Stmt} {Ng pst : List Str} {fd ft : FuncData} {params : Arguments} {body : Expr} {scope : Scope} {p lpos pos : Pos} {a' e' pe tm q : Str} {d : PyData}
    (Te : Tellers X x g st Ng a' e' pe tm C k fd ft t CP pst) (TB : TabB X.base X.mg cd Tb) (hcode : X.env.code = .ref cd) (hq : X.env.qual ++ "<lambda>" = q) (hr : Room (k + 2) X.A) (hd : toldD C X.K o d) (kw : Nat) (nt : noT H0) (hWo : ∀ r ∈ W, okW Tb q r)
    (hb : ∀ (A : Around) (outer : List Env) (s0 : Shared) (H : Hp) (E : XK) (f c' : Addr), Room k (A.deeper (lamEnv X scope s0.heap.objs.size f c')) → DC (lamN X A outer s0 H E scope f c') B P0 H0 W ρ body o E)
    (hW : W[kw]? = some (Tb, .tab q) := by rfl) (L : LamS X.env.scope scope := by first | exact lamS_by rfl | exact lamS_by (by with_unfolding_all rfl)) (hdef : defaultsOf params X.env = ([], []) := by rfl) (hbind : ∀ (q : Str) (cl : List (Str × Addr)) (pm cv ctv : Value), bindArgs (PySem.W.kla_fn "<lambda>" q params body scope cl pm cv ctv) ⟨[], []⟩ = pure [] := by intros; rfl) (hg : Gl X x := by rfl) (hdb : (x == ("__debug__" : Str)) = false := by decide) :
    DV X B P0 H0 W ρ (.Call (.Name x p) [.Lambda params body scope lpos] [] pos) (· = d) := fun σ P H S Q qq => by
  refine ⟨_, pe_told (T := [(Tb, q)]) Te hg TB hcode (by rw [hq]; exact List.mem_singleton.mpr rfl) (fun p hp _ => by rw [List.mem_singleton.mp hp, hq]) hr L hdef hbind hdb, fun p hp => ?_, fun H1 x1 T1 A outer s0 H00 f c' hr' => ?_⟩
  · rw [List.mem_singleton.mp hp]
    exact (S.own _ (List.mem_of_getElem? hW)).2
  · have t1 : TabS H1 Tb q := T1 (Tb, q) (List.mem_singleton.mpr rfl)
    have S1 := S.tabs x1 t1 hWo nt
    refine hb A outer s0 H00 (wTerm X.K C Q) f c' hr' σ P H1 S1 Q ?_
    cases o with
    | ret d' =>
      have hd : d = d' := hd
      subst hd
      exact fun v P' H' g k => qq v d P' H' (S1.grow g) g.pp rfl k
    | exc c =>
      obtain ⟨i, rfl, Z, rfl⟩ := hd
      refine fun P' H' g => ⟨i, rfl, rfl, Z, fun v P2 H2 g2 k2 => ?_⟩
      obtain ⟨P3, g3, s3⟩ := Gr.join ((S1.grow g).gr.ph) g2
      exact qq v _ P3 H2 ((S1.grow g).grow g3) (g.pp.trans g3.pp) rfl (dq_mono s3 _ _ k2)
/-! ### the loop over the dice -/
/-- all but a and the tables -/
def lessT (H : Hp) (p : Addr) : Hp := fun a => if a = p then Option.none else match H a with
  | some (.tbl _) => Option.none
  | r => r
theorem lessT_sub {H : Hp} {p a : Addr} {o : HO} (h : lessT H p a = some o) : H a = some o := by
  unfold lessT at h
  split at h
  · cases h
  · split at h
    · cases h
    · exact h
theorem lessT_noT (H : Hp) (p : Addr) : noT (lessT H p) := fun a ps h => by
  have h1 := lessT_sub h
  unfold lessT at h
  split at h
  · cases h
  · rw [h1] at h
    cases h
theorem lessT_at {H : Hp} {p a : Addr} {o : HO} (h : H a = some o) (ne : a ≠ p) (nt : ∀ ps, o ≠ .tbl ps) : lessT H p a = some o := by
  unfold lessT
  rw [if_neg ne]
  split
  · rename_i ps e
    rw [h] at e
    exact (nt ps (Option.some.inj e)).elim
  · exact h
theorem lessT_self (H : Hp) (p : Addr) : lessT H p p = Option.none := if_pos rfl
theorem lessT_tbl {H : Hp} {p a : Addr} {ps : Array Value} (h : H a = some (.tbl ps)) : lessT H p a = Option.none := by
  cases e : lessT H p a with
  | none => rfl
  | some o =>
    have := lessT_sub e
    rw [h] at this
    cases this
    exact (lessT_noT H p a ps e).elim
/-- between the turns -/
structure Dsk (Tb : Addr) (q : Str) (n : Nat) (l : Addr) (xs : List V) (σ : L2.St) (H : Hp) : Prop where
  len : σ.length = n
  lst : H l = some (.lst xs)
  all : ∀ x ∈ xs, ∃ (a : Addr) (c k : Int), x = .ref a ∧ H a = some (.lst [.int c, .int k])
  tab : TabS H Tb q
def noS (n : Nat) : List Sl := List.replicate n .no
theorem sat_turn {Tb l a : Addr} {q : Str} {n i : Nat} {xs : List V} {σ : L2.St} {H : Hp} (K : Dsk Tb q n l xs σ H) (ha : V.ref a ∈ xs) (hi : i < n) : Sat noH noH (lessT H a) [(a, .vol), (Tb, .tab q)] ((noS n).set i (.raw (.ref a))) (σ.set i (some (.ref a))) noH H := by
  obtain ⟨a', c, k, e, hH⟩ := K.all _ ha
  cases e
  obtain ⟨ps, t1, t2, t3⟩ := K.tab
  have ne : a ≠ Tb := fun z => by
    rw [z, t1] at hH
    cases hH
  refine ⟨Same.refl _, (fun _ _ h => by cases h), noH_same _, ⟨fun b o h => lessT_sub h, Same.refl _, noH_same _, (fun _ _ h => by cases h), (fun _ _ h => by cases h)⟩, fun r hr => ?_, fun r hr => ?_, by simpa using ne, by unfold noS; simp [K.len], fun j s hj => ?_⟩
  · rcases List.mem_cons.mp hr with z | z
    · subst z; exact ⟨rfl, c, k, hH⟩
    · have z := List.mem_singleton.mp z
      subst z; exact ⟨rfl, K.tab⟩
  · rcases List.mem_cons.mp hr with z | z
    · subst z; exact lessT_self H a
    · have z := List.mem_singleton.mp z
      subst z; exact lessT_tbl t1
  · by_cases e : i = j
    · subst e
      rw [List.getElem?_set_self (by unfold noS; simpa using hi)] at hj
      cases hj
      exact ⟨_, by rw [List.getElem?_set_self (by rw [K.len]; exact hi)], rfl⟩
    · rw [List.getElem?_set_ne e] at hj
      have hj' : (List.replicate n Sl.no)[j]? = some s := hj
      rw [List.getElem?_replicate] at hj'
      split at hj'
      · cases hj'
        have hjl : j < (σ.set i (some (V.ref a))).length := by rw [List.length_set, K.len]; assumption
        exact ⟨_, List.getElem?_eq_getElem hjl, trivial⟩
      · cases hj'
theorem turn_back {Tb l a : Addr} {q : Str} {n : Nat} {xs : List V} {σ σ' : L2.St} {H P' H' : Hp} {ρ' : List Sl} (K : Dsk Tb q n l xs σ H) (ha : V.ref a ∈ xs) (S : Sat noH noH (lessT H a) [(a, .vol), (Tb, .tab q)] ρ' σ' P' H') (hl : ρ'.length = n) : Dsk Tb q n l xs σ' H' := by
  have keep : ∀ b o, b ≠ a → H b = some o → (∀ ps, o ≠ .tbl ps) → H' b = some o := fun b o ne h nt => S.gr.hh b o (lessT_at h ne nt)
  obtain ⟨a', c, k, e, hH⟩ := K.all _ ha
  cases e
  have hla : l ≠ a := fun z => by
    have h := K.lst
    rw [z, hH] at h
    have e : xs = [.int c, .int k] := (HO.lst.inj (Option.some.inj h)).symm
    rw [e] at ha
    rcases List.mem_cons.mp ha with z | z
    · cases z
    · have := List.mem_singleton.mp z
      cases this
  obtain ⟨_, c2, k2, hv⟩ := S.own (a, .vol) (by simp)
  refine ⟨by rw [S.len, hl], keep l _ hla K.lst (fun ps z => by cases z), fun x hx => ?_, (S.own (Tb, .tab q) (by simp)).2⟩
  obtain ⟨b, c3, k3, e, hb⟩ := K.all x hx
  by_cases z : b = a
  · subst z
    exact ⟨b, c2, k2, e, hv⟩
  · exact ⟨b, c3, k3, e, keep b _ z hb (fun ps z => by cases z)⟩
/-- what a turn ends with -/
def endsT (N : L2.St → Hp → Prop) (bk : L2.St → Hp → Prop) (R : VK) : Ends := { nx := N, ct := N, bk := bk, rt := R }
/-- what a turn may come to -/
def TurnN (Tb : Addr) (q : Str) (H0 : Hp) (a : Addr) (n : Nat) (N : L2.St → Hp → Prop) : Prop := ∀ σ P H, Sat noH noH H0 [(a, .vol), (Tb, .tab q)] (noS n) σ P H → N σ H
theorem g_turn {Tb : Addr} {q : Str} {a : Addr} {n : Nat} {R : VK} {B H0 : Hp} {ρ : List Sl} {N bk : L2.St → Hp → Prop} (hN : TurnN Tb q H0 a n N) (hl : ρ.length = n) : G X B noH H0 [(a, .vol), (Tb, .tab q)] ρ [] (endsT N bk R) := g_nil fun σ P H S => hN σ P H ((S.forget (ρ' := noS n) (by unfold noS; rw [List.length_replicate, hl]) fun i s h => by
  unfold noS at h
  rw [List.getElem?_replicate] at h
  split at h
  · cases h; exact .inl rfl
  · cases h).mark (noH_same _))
theorem dice_all {P : Hp} : ∀ {xs : List V} {rs : List Int}, DqAll P xs (rs.map fun c => .list [.int c, .int 0]) → ∀ x ∈ xs, ∃ (a : Addr) (c k : Int), x = .ref a ∧ P a = some (.lst [.int c, .int k])
  | [], [], _ => fun _ h => by cases h
  | x :: xs, r :: rs, h => by
    cases h with
    | cons h1 h2 =>
      intro y hy
      rcases List.mem_cons.mp hy with z | z
      · subst z
        cases h1 with
        | lst hs ha =>
          have ha' : DqAll P _ ([r, 0].map PyData.int) := ha
          have e := ha'.ints
          subst e
          exact ⟨_, r, 0, rfl, hs⟩
      · exact dice_all h2 y z
theorem g_dice {iter : Expr} {Tb : Addr} {q : Str} {rs : List Int} (i kw : Nat) (hp : PassesOwn (model X.prog X.w) X.A X.env X.xe) (hc : X.calm = true) (hN : X.N.Nodup) (he : DE X B P0 H0 W ρ true iter (.list (rs.map fun c => .list [.int c, .int 0]))) (hρ : ρ.length = X.N.length)
    (hturn : ∀ (a : Addr) (H0' : Hp) (N bk : L2.St → Hp → Prop), noT H0' → TurnN Tb q H0' a X.N.length N → G X noH noH H0' [(a, .vol), (Tb, .tab q)] ((noS X.N.length).set i (.raw (.ref a))) body (endsT N bk D.rt)) (hrest : ∀ σ H, uSs X rest D σ H)
    (hW : W[kw]? = some (Tb, .tab q) := by rfl) (hi : X.N[i]? = some x := by rfl) (hx : Loc X.env.scope x := by first | exact Or.inl rfl | exact Or.inr rfl) (hf : X.fn x = true ∨ X.env.scope.names.lookup x = some .local := by first | exact .inl rfl | exact .inr rfl)
    (hss : ∀ x, foldedSetIterable iter X.env x = pure x := by intro _; rfl) : G X B P0 H0 W ρ (.For (.Name x p1) iter body [] pos :: rest) D := fun σ P H S => by
  refine ⟨_, pss_cons (ps_for hp hc (pi_list pe_u) (pg_name hN hi hx hf) pss_u hss) pss_u, he σ P H S _ fun v P1 H1 g1 k1 => ?_⟩
  have S1 := S.grow g1
  cases k1 with
  | @lst l xs _ hl ha =>
    have K0 : Dsk Tb q X.N.length l xs σ H1 := ⟨by rw [S.len, hρ], S1.gr.ph _ _ hl, fun x hx => by
      obtain ⟨a, c, k, e, h⟩ := dice_all ha x hx
      exact ⟨a, c, k, e, S1.gr.ph _ _ h⟩, (S1.own _ (List.mem_of_getElem? hW)).2⟩
    refine ⟨l, rfl, ⟨xs, SqL.of (S1.gr.ph _ _ hl)⟩, ?_⟩
    refine for_it walk_list (fun i σ H => Dsk Tb q X.N.length l xs σ H) K0 (fun i σ H _ K => SqL.of K.lst) ?_ fun σ2 H2 _ => hrest σ2 H2
    rintro j x2 σ2 H2 H3 hj K ⟨rfl, hx2⟩
    have hm := List.mem_of_getElem? hx2
    obtain ⟨a, c, k, rfl, hH⟩ := K.all _ hm
    have hil : i < X.N.length := (List.getElem?_eq_some_iff.mp hi).1
    have St := sat_turn K hm hil
    exact hturn a (lessT H3 a) _ _ (lessT_noT H3 a) (fun σ P H S => turn_back K hm S (by unfold noS; rw [List.length_replicate])) _ noH H3 St
end
end Dw

/-! the script: a list of ints that is not ours -/
namespace Dw
open PySem PySem.Spec PyProof.Rows L2
theorem sqL_grow {K : PySem.W.Frag} {H H' : Hp} {a : Addr} {xs : List V} (h : SqL K H a xs) (e : Same H H') : SqL K H' a xs := by
  rcases h with h | h
  · rcases h with h | ⟨o, h⟩
    · exact .inl (.inl (e _ _ h))
    · exact .inl (.inr ⟨o, e _ _ h⟩)
  · exact .inr h
theorem dp_ints {K : PySem.W.Frag} {H : Hp} : ∀ cs : List Int, DpAll K H (cs.map V.int) (cs.map PyData.int)
  | [] => .nil
  | c :: cs => .cons (.int c) (dp_ints cs)
/-- the promise of a def that gets the script and an int -/
def spS (K : PySem.W.Frag) (R : List Int → Int → PyData → Prop) : Sp := fun vs H Q _ => ∃ (a : Addr) (cs : List Int) (i : Int) (o : PyData), vs = [.ref a, .int i] ∧ SqL K H a (cs.map V.int) ∧ R cs i o ∧ ∀ v P' H', Gr noH H P' H' → Dq P' v o → Q v H'
structure CalS (P : Program) (w : World) (K : PySem.W.Frag) (mg : Str → Option Value) (base : Heap) (x : Str) (k : Nat) (R : List Int → Int → PyData → Prop) : Prop where
  ex : ∃ (f : Addr) (fd : FuncData) (ps : List Str), mg x = some (.ref f) ∧ PySem.W.keepIn K (.ref f) = true ∧ Binds K fd ps [] ∧ FnOk P w K mg base (L2N.CX P w) k f fd ps (spS K R)
section
variable {P : Program} {w : World} {K : PySem.W.Frag} {mg : Str → Option Value} {base : Heap} {x : Str} {st : Stmt} {ps N : List Str} {k n : Nat} {R : List Int → Int → PyData → Prop}
theorem Def.calS (F : Def K mg x st ps) (S : FnScope N ps (defScope st)) (hn : ps.length = 2)
    (hbody : ∀ (f : Addr) (cdv : Value) (A : Around) (outer : List Env) (s : Shared) (H : Hp) (a : Addr) (cs : List Int) (i : Int) (o : PyData) (Q : VK) (E : XK), Room k (A.deeper (envOfC x (defScope st) s.heap.objs.size f cdv)) →
      PassesOwn (model P w) (A.deeper (envOfC x (defScope st) s.heap.objs.size f cdv)) (envOfC x (defScope st) s.heap.objs.size f cdv) (cxOf (L2N.CX P w) P w K mg base N x (defScope st) f cdv A outer s H E).xe → SqL K H a (cs.map V.int) → R cs i o →
      (∀ v P' H', Gr noH H P' H' → Dq P' v o → Q v H') →
      G (cxOf (L2N.CX P w) P w K mg base N x (defScope st) f cdv A outer s H E) noH noH H [] (.raw (.ref a) :: .dat (.int i) :: List.replicate (N.length - 2) .no) (defBody st) (endsD Q)) : CalS P w K mg base x (k + 1) R := by
  obtain ⟨f, fd, hm, hF, hB⟩ := F.ex
  refine ⟨f, fd, ps, hm, hF.kp, hB, ?_⟩
  refine hF.okN S (fun vs H Q E h => ?_) (fun cdv A outer s H vs Q E hr h => ?_)
  · obtain ⟨a, cs, i, o, e, _⟩ := h
    rw [e, hn]
    rfl
  · obtain ⟨a, cs, i, o, rfl, hS, hR, hQ⟩ := h
    have hpl : 2 ≤ N.length := by have := congrArg List.length S.pre; rw [List.length_take] at this; omega
    refine ⟨_, pss_u, hbody f cdv A outer s H a cs i o Q E hr (passes_of rfl) hS hR hQ _ noH H ?_⟩
    refine ⟨Same.refl _, (fun _ _ h => by cases h), noH_same _, Gr.refl (noH_same _), (fun _ h => by cases h), (fun _ h => by cases h), List.nodup_nil, by unfold L2.start; simp, fun j s hs => ?_⟩
    unfold L2.start
    match j, hs with
    | 0, hs => cases hs; exact ⟨_, rfl, rfl⟩
    | 1, hs => cases hs; exact ⟨_, rfl, _, rfl, .int i⟩
    | j + 2, hs =>
      have hs : (List.replicate (N.length - 2) Sl.no)[j]? = some s := hs
      rw [List.getElem?_replicate] at hs
      split at hs
      · cases hs
        refine ⟨none, ?_, trivial⟩
        show (List.replicate _ _)[j]? = _
        rw [List.getElem?_replicate, if_pos]
        simpa using by assumption
      · cases hs
end
section
variable {X : Cx} {B P0 H0 : Hp} {W : List (Addr × Ob)} {ρ : List Sl} {m : Bool} {b c e : Expr} {pos p1 p2 p3 : Pos} {d : PyData} {D : Ends} {rest : List Stmt} {x n : Str} {a : Addr} {cs : List Int}
/-- the script's name -/
def DScr (X : Cx) (B P0 H0 : Hp) (W : List (Addr × Ob)) (ρ : List Sl) (e : Expr) (a : Addr) : Prop := ∀ σ P H, Sat B P0 H0 W ρ σ P H → ∀ Q : VK, Q (.ref a) H → uE X e σ H Q
theorem ds_v (i : Nat) (hρ : ρ[i]? = some (.raw (.ref a)) := by rfl) (hN : X.N[i]? = some x := by rfl) (hv : Vis X.env.scope x := by first | exact Or.inl rfl | exact Or.inr (Or.inl rfl) | exact Or.inr (Or.inr rfl)) (hd : (x == ("__debug__" : Str)) = false := by decide)
    (hcd : (x == ("__classdict__" : Str)) = false := by decide) : DScr X B P0 H0 W ρ (.Name x pos) a := fun σ P H S Q q => by
  obtain ⟨x', e1, e2⟩ := S.sl i _ hρ
  obtain rfl : x' = some (.ref a) := e2
  exact ⟨_, pe_var hN hv hd hcd, _, e1, q⟩
theorem de_lenS (hm : X.mg "len" = Option.none) (hS : SqL X.K H0 a (cs.map V.int)) (ha : DScr X B P0 H0 W ρ e a) (hg : Gl X "len" := by rfl)
    (he1 : starEach [e] X.env = (false, eval e X.env) :: starEach [] X.env := by rfl) (hpl : (backTo pos (starEach [] X.env)).any (·.1) = false := by rfl) :
    DE X B P0 H0 W ρ m (.Call (.Name "len" p1) [e] [] pos) (.int cs.length) := fun σ P H S Q q =>
  ⟨_, pe_callB call_len_seq hg hm (by decide +kernel) (pa_cons pe_u pa_nil he1) (by decide) (by decide) he1 hpl, ha σ P H S _ ⟨a, _, rfl, .inl (sqL_grow hS S.gr.hh), by rw [List.length_map]; exact q _ P H (gr_refl S) (.int _)⟩⟩
theorem de_ixS {i : Int} {z : Int} (hS : SqL X.K H0 a (cs.map V.int)) (ha : DScr X B P0 H0 W ρ e a) (hb : DE X B P0 H0 W ρ false b (.int i)) (hi : atI (cs.map V.int) i = some (.int z)) (hs : PlainIx b := by exact fun _ _ => rfl) : DE X B P0 H0 W ρ m (.Subscript e b pos) (.int z) := fun σ P H S Q q =>
  ⟨_, pe_ix ix_list pe_u pe_u hs, ha σ P H S _ (hb σ P H S _ fun w P2 H2 g2 k2 => by
    cases k2
    exact ⟨a, _, i, _, rfl, rfl, sqL_grow hS (S.gr.trans g2).hh, hi, q _ P2 H2 g2 (.int z)⟩)⟩
theorem dt_eqS (hu : X.A.units + 64 < cLine) (hS : SqL X.K H0 a (cs.map V.int)) (ha : DScr X B P0 H0 W ρ e a) (hb : DE X B P0 H0 W ρ false b d) (s2 : SeqAt.shaped d = true) : DT X B P0 H0 W ρ (.Compare e [.Eq] [b] pos) (PyData.eqv (.list (cs.map .int)) d) := fun σ P H S Q q =>
  ⟨_, pt_cmpR (op_eqD hu) pe_u pe_u (nomark _), ha σ P H S _ (hb σ P H S _ fun w P2 H2 g2 k2 =>
    ⟨_, d, .lst (sqL_grow hS (S.gr.trans g2).hh) (dp_ints cs), Dq.dp _ _ (SeqAt.canLay_of_shaped s2) (dq_mono (vw_hp S.e0 (S.gr.trans g2)) _ _ k2), (sh_ints (n := 0) cs).ok, s2, _, rfl, q P2 H2 g2⟩)⟩
theorem de_callS {k j : Nat} {R : List Int → Int → PyData → Prop} {i : Int} (C : CalS X.prog X.w X.K X.mg X.base x k R) (hr : Room j X.A) (hk : k ≤ j) (hS : SqL X.K H0 a (cs.map V.int)) (ha : DScr X B P0 H0 W ρ e a) (hb : DE X B P0 H0 W ρ false b (.int i)) (hR : R cs i d) (hg : Gl X x := by rfl) (hdb : (x == ("__debug__" : Str)) = false := by decide)
    (he1 : starEach [e, b] X.env = (false, eval e X.env) :: starEach [b] X.env := by rfl) (he2 : starEach [b] X.env = (false, eval b X.env) :: starEach [] X.env := by rfl) (hpl : (backTo pos (starEach [b] X.env)).any (·.1) = false := by rfl) : DE X B P0 H0 W ρ m (.Call (.Name x p1) [e, b] [] pos) d := fun σ P H S Q q => by
  obtain ⟨f, fd, ps, hm, hkp, hB, F⟩ := C.ex
  refine ⟨_, pe_call F (hr.mono hk) hg hm hkp hB .nil (E := E0) passN (pa_cons pe_u (pa_cons pe_u pa_nil he2) he1) hdb he1 hpl, ha σ P H S _ (hb σ P H S _ fun w P1 H1 g1 k1 => ?_)⟩
  cases k1
  show spS X.K R ([V.ref a, V.int i] ++ []) H1 Q E0
  rw [List.append_nil]
  refine ⟨a, cs, i, d, rfl, sqL_grow hS (S.gr.trans g1).hh, hR, fun v P2 H2 g2 k2 => ?_⟩
  obtain ⟨P3, g3, s3⟩ := Gr.join (S.grow g1).gr.ph g2
  exact q v P3 H2 (g1.trans g3) (dq_mono (vw_up S.e0 (S.gr.trans (g1.trans g3))) _ _ (dq_mono s3 _ _ k2))
/-- return, the answer new since the entry -/
theorem g_retN {H : Hp} {Q : VK} (he : DE X B noH H W ρ false e d) (k : ∀ v P' H', Gr noH H P' H' → Dq P' v d → Q v H') (hD : D.rt = Q := by rfl) : G X B noH H W ρ (.Return (some e) pos :: rest) D := g_ret he fun v P' H' g kq => by
  rw [hD]
  exact k v P' H' g kq
end
end Dw

/-! the law's own def, and the end -/
namespace Dw
open PySem PySem.Spec PyProof.Rows L2 LamX Hz
theorem FnZ.mono {P : Program} {w : World} {K : PySem.W.Frag} {mg : Str → Option Value} {base : Heap} {j k : Nat} {f D : Addr} {fd : FuncData} {ps : List Str} {d : PyData} (F : FnZ P w K mg base j f fd ps D d) (h : j ≤ k) : FnZ P w K mg base k f fd ps D d :=
  ⟨fun A outer s H args Q p hr => F.run A outer s H args Q p (hr.mono h)⟩
/-- the law: the script, the law's own table of code objects; it must end in True -/
def spLaw (K : PySem.W.Frag) (Tb : Addr) (q : Str) : Sp := fun vs H Q _ => ∃ (a : Addr) (cs : List Int), vs = [.ref a] ∧ SqL K H a (cs.map V.int) ∧ cs.length ≤ 63 ∧ TabS H Tb q ∧ ∀ H', Q (.bl true) H'
theorem sqL_less {K : PySem.W.Frag} {H : Hp} {a p : Addr} {xs : List V} {ps : Array Value} (h : SqL K H a xs) (hp : H p = some (.tbl ps)) : SqL K (lessT H p) a xs := by
  have ne : ∀ o, H a = some o → (∀ ps, o ≠ .tbl ps) → a ≠ p := fun o e n z => by
    rw [z, hp] at e
    exact n ps (Option.some.inj e).symm
  rcases h with (h | ⟨o, h⟩) | h
  · exact .inl (.inl (lessT_at h (ne _ h fun ps z => by cases z) fun ps z => by cases z))
  · exact .inl (.inr ⟨o, lessT_at h (ne _ h fun ps z => by cases z) fun ps z => by cases z⟩)
  · exact .inr h
section
variable {P : Program} {w : World} {K : PySem.W.Frag} {mg : Str → Option Value} {base : Heap} {st : Stmt} {N : List Str} {k : Nat} {f cd Tb : Addr} {q : Str} {kV doc pm ct oc : Value} {an od : Option Addr} {osl : Array (Option Value)}
theorem law_of (lk : K.lookup f = some ⟨oc, od, .func (PySem.W.fnOf "law" "law" (defArgs st) (defBody st) (defScope st) .none kV doc pm an (.ref cd) ct), osl⟩) (hcd : PySem.W.codeIn K (.ref cd) "law" = true) (S : FnScope N ["_law_script"] (defScope st))
    (hbody : ∀ (A : Around) (outer : List Env) (s : Shared) (H : Hp) (a : Addr) (cs : List Int) (Q : VK) (E : XK), Room k (A.deeper (envOfC "law" (defScope st) s.heap.objs.size f (.ref cd))) →
      PassesOwn (model P w) (A.deeper (envOfC "law" (defScope st) s.heap.objs.size f (.ref cd))) (envOfC "law" (defScope st) s.heap.objs.size f (.ref cd)) (cxOf (L2N.CX P w) P w K mg base N "law" (defScope st) f (.ref cd) A outer s H E).xe → SqL K (lessT H Tb) a (cs.map V.int) → cs.length ≤ 63 →
      (∀ H', Q (.bl true) H') → noT (lessT H Tb) →
      G (cxOf (L2N.CX P w) P w K mg base N "law" (defScope st) f (.ref cd) A outer s H E) noH noH (lessT H Tb) [(Tb, .tab q)] (.raw (.ref a) :: List.replicate (N.length - 1) .no) (defBody st) (endsD Q)) :
    FnOk P w K mg base (L2N.CX P w) (k + 1) f (PySem.W.fnOf "law" "law" (defArgs st) (defBody st) (defScope st) .none kV doc pm an (.ref cd) ct) ["_law_script"] (spLaw K Tb q) := by
  refine fn_of lk hcd S (fun vs H Q E h => ?_) fun A outer s H vs Q E hr h => ?_
  · obtain ⟨a, cs, e, _⟩ := h
    rw [e]
    rfl
  · obtain ⟨a, cs, rfl, hS, hl, hT, hQ⟩ := h
    have hpl : 1 ≤ N.length := by have := congrArg List.length S.pre; rw [List.length_take] at this; simp at this; omega
    obtain ⟨ps, t1, t2, t3⟩ := id hT
    refine ⟨_, pss_u, hbody A outer s H a cs Q E hr (passes_of rfl) (sqL_less hS t1) hl hQ (lessT_noT H Tb) _ noH H ?_⟩
    refine ⟨Same.refl _, (fun _ _ h => by cases h), noH_same _, ⟨fun b o h => lessT_sub h, Same.refl _, noH_same _, (fun _ _ h => by cases h), (fun _ _ h => by cases h)⟩, fun r hr => ?_, fun r hr => ?_, by simp, by unfold L2.start; simp, fun j s hs => ?_⟩
    · have z := List.mem_singleton.mp hr
      subst z
      exact ⟨rfl, hT⟩
    · have z := List.mem_singleton.mp hr
      subst z
      exact lessT_self H Tb
    · unfold L2.start
      cases j with
      | zero => cases hs; exact ⟨_, rfl, rfl⟩
      | succ j =>
        have hs : (List.replicate (N.length - 1) Sl.no)[j]? = some s := hs
        rw [List.getElem?_replicate] at hs
        split at hs
        · cases hs
          refine ⟨none, ?_, trivial⟩
          show (List.replicate _ _)[j]? = _
          rw [List.getElem?_replicate, if_pos]
          simpa using by assumption
        · cases hs
end
/-- what the head asks -/
theorem law_at {l : PySem.W.OpenLaw} {w : World} {K : PySem.W.Frag} {mg : Str → Option Value} {h : Heap} {fa cd Tb : Addr} {k : Nat} {q : Str} {st : Stmt} {kV doc pm ct oc : Value} {an od : Option Addr} {osl : Array (Option Value)} (KX : K.In h) (ow : OwnTab K fa h)
    (lk : K.lookup fa = some ⟨oc, od, .func (PySem.W.fnOf "law" "law" (defArgs st) (defBody st) (defScope st) .none kV doc pm an (.ref cd) ct), osl⟩) (hh : PySem.W.codeHdIn K cd Tb = true) (nT : K.lookup Tb = none)
    (hb : ∀ us : List Value, us.length = 1 → bindArgs (PySem.W.fnOf "law" "law" (defArgs st) (defBody st) (defScope st) .none kV doc pm an (.ref cd) ct) ⟨us, []⟩ = pure ((["_law_script"] : List Str).zip us))
    (F : ∀ base : Heap, K.In base → base.Ns mainGlobals mg → TabB base mg cd Tb → FnOk l.prog w K mg base (L2N.CX l.prog w) k fa (PySem.W.fnOf "law" "law" (defArgs st) (defBody st) (defScope st) .none kV doc pm an (.ref cd) ct) ["_law_script"] (spLaw K Tb q)) : LawAtS l w K (L2N.CX l.prog w) k 63 "_law_script" mg fa h := by
  refine ⟨_, [(cd, Tb)], spLaw K Tb q, fun p hp => ?_, fun p hp => ?_, fun p hp => ?_, fun s u => .of_eq (hb [u] rfl), fun H a ns hl _ hT hS => ⟨a, ns, rfl, hS, hl, TabS.nil (hT (cd, Tb) (List.mem_singleton.mpr rfl)), fun _ => rfl⟩, fun base b1 b2 b3 => F base b1 b2 (b3 (cd, Tb) (List.mem_singleton.mpr rfl))⟩
  · rw [List.mem_singleton.mp hp]
    obtain ⟨o, vs, _, _, _, _, _, _, _, e1, e2, e3, e4, _⟩ := PySem.W.codeHd_of_K KX hh
    unfold PySem.W.codeHdIn at hh
    split at hh
    · rename_i vs' _ hk
      have := KX _ _ hk
      rw [e1] at this
      cases this
      cases e3
      exact ow cd Tb _ _ _ _ vs _ lk rfl rfl hk e4
    · cases hh
  · rw [List.mem_singleton.mp hp]
    exact nT
  · rw [List.mem_singleton.mp hp]
    exact PySem.W.codeHd_of_K KX hh
/-- a code object's record -/
def hdVs (vs : Array Value) : Bool := (match vs.getD 18 .none with | .str _ _ => true | _ => false) && (match vs.getD 7 .none with | .int _ _ => true | _ => false) && (match vs.getD 9 .none with | .bool _ => true | _ => false) && (match vs.getD 10 .none with | .int _ _ => true | _ => false)
theorem codeHd_mk {K : PySem.W.Frag} {c T : Addr} {dd : Option Addr} {vs : Array Value} {sl : Array (Option Value)} (lC : K.lookup c = some ⟨.type "code", dd, .fields vs, sl⟩) (h11 : vs[11]? = some (.ref T)) (hv : hdVs vs = true) (ne : (c != T) = true) : PySem.W.codeHdIn K c T = true := by
  unfold hdVs at hv
  simp only [Bool.and_eq_true] at hv
  obtain ⟨⟨⟨v1, v2⟩, v3⟩, v4⟩ := hv
  unfold PySem.W.codeHdIn
  rw [lC]
  simp only [Bool.and_eq_true]
  refine ⟨⟨⟨⟨⟨?_, v1⟩, v2⟩, v3⟩, v4⟩, ne⟩
  rw [h11]
  exact beq_self_eq_true T
theorem kit_own {K : PySem.W.Frag} {t : Value} {C : Addr} {b : Bool} (ne : (t == .ref C) = false) (h2 : PySem.W.isClsIn K C = true) (h3 : PySem.W.typeIn K (.ref C) = some (.type "type")) (h4 : PySem.W.subIn K t (.ref C) = some b) : PySem.W.kitOne K t (.ref C) = some b := by
  unfold PySem.W.kitOne PySem.W.kitCls
  rw [ne, if_neg Bool.false_ne_true]
  have h2' : (PySem.W.clsIn K C).isSome = true := h2
  dsimp only
  rw [h2', h3, if_pos (show (true && some (Value.type "type") == some (Value.type "type")) = true by decide +kernel)]
  exact h4
theorem kit_self {K : PySem.W.Frag} {t : Value} : PySem.W.kitOne K t t = some true := by
  unfold PySem.W.kitOne
  rw [if_pos (beq_self_eq_true t)]
theorem kit_blt {K : PySem.W.Frag} {C : Addr} {T : String} {b : Bool} (hm : PySem.W.kitMeta T = true) (h4 : PySem.W.subIn K (.ref C) (.type T) = some b) : PySem.W.kitOne K (.ref C) (.type T) = some b := by
  unfold PySem.W.kitOne PySem.W.kitCls
  rw [show (Value.ref C == Value.type T) = false from rfl, if_neg Bool.false_ne_true]
  dsimp only
  rw [if_pos hm]
  exact h4
/-- return True behind the loop -/
theorem u_true {X : Cx} {D : Ends} {j : Nat} {p1 p2 : Pos} (h : ∀ H, D.rt (.bl true) H) : ∀ σ H, uSs X [.Return (some (.Constant (.bool true) j p1)) p2] D σ H := fun σ H => ⟨_, pss_one (ps_ret pe_bl), h H⟩
end Dw

namespace Dw
open PySem PySem.Spec PyProof.Rows L2
section
variable {X : Cx} {B P0 H0 : Hp} {W : List (Addr × Ob)} {ρ : List Sl} {c : Expr} {pos : Pos} {D : Ends} {rest body els : List Stmt}
/-- if, both ways joined behind it -/
theorem g_ifJ {k : Bool} (ρf : List Sl) (hc : DT X B P0 H0 W ρ c k) (h1 : (∀ {ρ' : List Sl}, Fg ρf ρ' → G X B P0 H0 W ρ' [] (Ends.to D X rest)) → k = true → G X B P0 H0 W ρ body (Ends.to D X rest)) (h2 : (∀ {ρ' : List Sl}, Fg ρf ρ' → G X B P0 H0 W ρ' [] (Ends.to D X rest)) → k = false → G X B P0 H0 W ρ els (Ends.to D X rest)) (kr : G X B P0 H0 W ρf rest D) : G X B P0 H0 W ρ (.If c body els pos :: rest) D :=
  g_if hc (h1 fun hf => g_to (g_fg hf kr)) (h2 fun hf => g_to (g_fg hf kr))
theorem g_ifJV {Ψ : Bool → Prop} (ρf : List Sl) (hc : DVT X B P0 H0 W ρ c Ψ) (h1 : (∀ {ρ' : List Sl}, Fg ρf ρ' → G X B P0 H0 W ρ' [] (Ends.to D X rest)) → Ψ true → G X B P0 H0 W ρ body (Ends.to D X rest)) (h2 : (∀ {ρ' : List Sl}, Fg ρf ρ' → G X B P0 H0 W ρ' [] (Ends.to D X rest)) → Ψ false → G X B P0 H0 W ρ els (Ends.to D X rest)) (kr : G X B P0 H0 W ρf rest D) : G X B P0 H0 W ρ (.If c body els pos :: rest) D :=
  g_ifV hc (h1 fun hf => g_to (g_fg hf kr)) (h2 fun hf => g_to (g_fg hf kr))
end
section
variable {X : Cx} {B P0 H0 : Hp} {W : List (Addr × Ob)} {ρ ρ' : List Sl} {e tg : Expr} {pos p1 p2 p3 : Pos} {D : Ends} {rest : List Stmt} {x y z : Str} {d : PyData}
/-- target = e, the target a tuple of names -/
theorem g_asgT {up : List Sl → PyData → List Sl → Prop} (ht : GT X tg up) (he : DE X B P0 H0 W ρ true e d) (hu : up ρ d ρ') (k : G X B P0 H0 W ρ' rest D)
    (hs : swapsWithSole [tg] e pos.line X.env = pure false := by rfl) (hw : swappedStores [tg] e X.env = pure none := by rfl) (h1 : (assignEach [tg] X.env).map (·.2) = [assign tg X.env] := by rfl) : G X B P0 H0 W ρ (.Assign [tg] e pos :: rest) D := fun σ P H S => by
  obtain ⟨g, hg, hgt⟩ := ht
  exact ⟨_, pss_cons (ps_asg pe_u hg hs hw h1) pss_u, he σ P H S _ fun v P1 H1 g1 k1 => hgt B P0 H0 W ρ σ P1 H1 v d ρ' _ (S.grow g1) k1 hu fun σ' S' => k σ' P1 H1 S'⟩
theorem g_asgTV {up : List Sl → PyData → List Sl → Prop} {Φ : PyData → Prop} (ht : GT X tg up) (he : DV X B P0 H0 W ρ e Φ) (k : ∀ d, Φ d → ∃ ρ', up ρ d ρ' ∧ G X B P0 H0 W ρ' rest D)
    (hs : swapsWithSole [tg] e pos.line X.env = pure false := by rfl) (hw : swappedStores [tg] e X.env = pure none := by rfl) (h1 : (assignEach [tg] X.env).map (·.2) = [assign tg X.env] := by rfl) : G X B P0 H0 W ρ (.Assign [tg] e pos :: rest) D := fun σ P H S => by
  obtain ⟨g, hg, hgt⟩ := ht
  refine ⟨_, pss_cons (ps_asg pe_u hg hs hw h1) pss_u, he σ P H S _ fun v d P1 H1 S1 s1 f1 k1 => ?_⟩
  obtain ⟨ρ', hu, hk⟩ := k d f1
  exact hgt B P0 H0 W ρ σ P1 H1 v d ρ' _ S1 k1 hu fun σ' S' => hk σ' P1 H1 S'
theorem gt_tri (i j l : Nat) {k2 : Nat} (hc : X.calm = true := by assumption) (hN : X.N.Nodup := by assumption) (hi : X.N[i]? = some x := by rfl) (hx : Loc X.env.scope x := by first | exact Or.inl rfl | exact Or.inr rfl) (hf : X.fn x = true ∨ X.env.scope.names.lookup x = some .local := by first | exact .inl rfl | exact .inr rfl)
    (hj : X.N[j]? = some y := by rfl) (hy : Loc X.env.scope y := by first | exact Or.inl rfl | exact Or.inr rfl) (hg : X.fn y = true ∨ X.env.scope.names.lookup y = some .local := by first | exact .inl rfl | exact .inr rfl)
    (hl : X.N[l]? = some z := by rfl) (hz : Loc X.env.scope z := by first | exact Or.inl rfl | exact Or.inr rfl) (hk : X.fn z = true ∨ X.env.scope.names.lookup z = some .local := by first | exact .inl rfl | exact .inr rfl) :
    GT X (.Tuple [.Name x p1, .Name y p2, .Name z p3] k2 pos) (fun ρ d ρ' => ∃ d1 d2 d3, d = .tuple [d1, d2, d3] ∧ ρ' = ((ρ.set i (.dat d1)).set j (.dat d2)).set l (.dat d3)) := ⟨_, pg_tup hc (pgs_cons (pg_name hN hi hx hf) (pgs_cons (pg_name hN hj hy hg) (pgs_cons (pg_name hN hl hz hk) pgs_nil))), fun B P0 H0 W ρ σ P H v d ρ' Q S k u q => by
  obtain ⟨d1, d2, d3, rfl, rfl⟩ := u
  cases k with
  | tup h ha =>
    cases ha with
    | cons r1 ha =>
      cases ha with
      | cons r2 ha =>
        cases ha with
        | cons r3 ha =>
          cases ha
          exact ⟨_, _, rfl, SqT.of (S.gr.ph _ _ h), rfl, _, _, rfl, _, _, rfl, _, _, rfl, rfl, q _ (((S.put i (s := .dat d1) ⟨_, rfl, r1⟩).put j (s := .dat d2) ⟨_, rfl, r2⟩).put l (s := .dat d3) ⟨_, rfl, r3⟩)⟩⟩
end
end Dw

/-! a dict of ints, each told True -/
namespace Dw
open PySem PySem.Spec PyProof.Rows L2
def setK (l : List Int) : List (Key × V) := l.map fun i => (Sum.inl i, V.bl true)
theorem setK_find : ∀ (l : List Int) (x : Int), valV (setK l) (Sum.inl x : Key) = if x ∈ l then some (V.bl true) else none
  | [], x => by simp [setK, valV]
  | y :: l, x => by
    have ih := setK_find l x
    unfold valV setK at ih ⊢
    rw [List.map_cons, List.find?_cons]
    by_cases h : y = x
    · subst h; simp
    · have h' : ¬ x = y := fun z => h z.symm
      have : decide ((Sum.inl y : Key) = Sum.inl x) = false := decide_eq_false fun z => h (Sum.inl.inj z)
      rw [this]
      dsimp only
      rw [ih]
      simp [h']
theorem setK_put (l : List Int) (x : Int) : putK (setK l) (Sum.inl x : Key) (V.bl true) = setK (if x ∈ l then l else l ++ [x]) := by
  have hany : ((setK l).any fun kv => decide (kv.1 = (Sum.inl x : Key))) = decide (x ∈ l) := by
    unfold setK
    rw [List.any_map]
    induction l with
    | nil => rfl
    | cons y l ih =>
      rw [List.any_cons, ih]
      by_cases h : y = x
      · subst h; simp
      · have h' : ¬ x = y := fun z => h z.symm
        simp [h, h']
  unfold putK
  rw [hany]
  by_cases h : x ∈ l
  · rw [if_pos (decide_eq_true h), if_pos h]
    unfold setK
    rw [List.map_map]
    refine List.map_congr_left fun y _ => ?_
    show (if (Sum.inl y : Key) = Sum.inl x then _ else _) = _
    split <;> rfl
  · rw [if_neg (by simpa using h), if_neg h]
    unfold setK
    rw [List.map_append]
    rfl
section
variable {X : Cx} {B P0 H0 : Hp} {W : List (Addr × Ob)} {ρ ρ' : List Sl} {a b e : Expr} {pos p1 p2 p3 tp : Pos} {D : Ends} {rest : List Stmt} {x y z : Str} {d : PyData} {l : List Int} {p : Addr}
/-- a in d -/
theorem dt_inS (i k : Nat) {v : Int} (hu : X.A.units + 1 < cLine) (ha : DE X B P0 H0 W ρ false a (.int v)) (hρ : ρ[i]? = some (.raw (.ref p)) := by rfl) (hW : W[k]? = some (p, .raw (.dK (setK l))) := by rfl) (hN : X.N[i]? = some x := by rfl)
    (hv : Vis X.env.scope x := by first | exact Or.inl rfl | exact Or.inr (Or.inl rfl) | exact Or.inr (Or.inr rfl)) (hd : (x == ("__debug__" : Str)) = false := by decide) (hcd : (x == ("__classdict__" : Str)) = false := by decide) : DT X B P0 H0 W ρ (.Compare a [.In] [.Name x p1] pos) (decide (v ∈ l)) := fun σ P H S Q q =>
  ⟨_, pt_cmp (pc_din hu pe_u (pe_var hN hv hd hcd)), ha σ P H S _ fun u P1 H1 g1 k1 => by
    cases k1
    have S1 := S.grow g1
    obtain ⟨x', e1, e2⟩ := S1.sl i _ hρ
    obtain rfl : x' = some (.ref p) := e2
    obtain ⟨_, hO⟩ := S1.own _ (List.mem_of_getElem? hW)
    have hO : H1 p = some (.dK (setK l)) := hO
    refine ⟨_, e1, p, _, rfl, DGet.k (k := Sum.inl v) hO, ?_⟩
    rw [setK_find]
    refine ⟨_, rfl, ?_⟩
    have e : (if v ∈ l then some (V.bl true) else none).isSome = decide (v ∈ l) := by by_cases h : v ∈ l <;> simp [h]
    rw [e]
    exact q P1 H1 g1⟩
/-- d[a] = True -/
theorem g_putS (i k : Nat) {v : Int} {j : Nat} {p4 : Pos} (hu : X.A.units + 1 < cLine) (ha : DE X B P0 H0 W ρ false a (.int v)) (kk : G X B P0 H0 (W.set k (p, .raw (.dK (setK (if v ∈ l then l else l ++ [v]))))) ρ rest D) (hl : l.length < sizeLine) (hρ : ρ[i]? = some (.raw (.ref p)) := by rfl) (hW : W[k]? = some (p, .raw (.dK (setK l))) := by rfl) (hN : X.N[i]? = some x := by rfl)
    (hv : Vis X.env.scope x := by first | exact Or.inl rfl | exact Or.inr (Or.inl rfl) | exact Or.inr (Or.inr rfl)) (hd : (x == ("__debug__" : Str)) = false := by decide) (hcd : (x == ("__classdict__" : Str)) = false := by decide)
    (hs : swapsWith (.Constant (.bool true) j p4) (some (.Subscript (.Name x p1) a tp)) pos.line X.env = pure false := by rfl) : G X B P0 H0 W ρ (.Assign [.Subscript (.Name x p1) a tp] (.Constant (.bool true) j p4) pos :: rest) D := fun σ P H S => by
  obtain ⟨x', e1, e2⟩ := S.sl i _ hρ
  obtain rfl : x' = some (.ref p) := e2
  refine ⟨_, pss_cons (ps_dput hu (pe_var hN hv hd hcd) pe_u pe_bl hs) pss_u, _, e1, ha σ P H S _ fun u P1 H1 g1 k1 => ?_⟩
  cases k1
  have S1 := S.grow g1
  obtain ⟨_, hO⟩ := S1.own _ (List.mem_of_getElem? hW)
  have hO : H1 p = some (.dK (setK l)) := hO
  refine ⟨p, _, rfl, DPut.k (k := Sum.inl v) hO (by unfold setK; rw [List.length_map]; exact hl), ?_⟩
  rw [setK_put]
  exact kk σ P1 _ (S1.write k hW (show upd _ _ _ _ = _ from upd_same) fun c q => by rw [hO]; exact code_dK)
/-- {a: True} -/
theorem dk_disp1 {v : Int} {j : Nat} {p4 : Pos} (ha : DE X B P0 H0 W ρ false a (.int v)) : DK X B P0 H0 W ρ (.Dict [some a] [.Constant (.bool true) j p4] pos) (.own (.raw (.dK (setK [v])))) := fun σ P H S Q q =>
  ⟨_, pe_disp (pps_cons pe_u pe_bl pps_nil) rfl rfl (by simp) (by simp), fun p hp => by
    have hP : P p = Option.none := S.gr.ph.free hp
    have gt : Gr P H P (upd H p (.dK [])) := Gr.tmp S.gr.ph hp
    have S1 := S.grow gt
    refine ha σ P _ S1 _ fun u P1 H1 g1 k1 => ?_
    cases k1
    have h1 : H1 p = some (.dK []) := g1.hh _ _ upd_same
    have hP1 : P1 p = Option.none := g1.stay hP upd_same
    refine ⟨h1, [(Sum.inl v, V.bl true)], rfl, by simp, ?_⟩
    have g2 : Gr P H P1 (upd H1 p (.dK (setK [v]))) := (gt.trans g1).poke hp hP1
    refine q _ P1 _ [(p, .raw (.dK (setK [v])))] _ g2 (.own hP1 (S.gr.hh.free hp) (show upd _ _ _ _ = _ from upd_same)) fun r hr => ?_
    have e : r = (p, .raw (.dK (setK [v]))) := by simpa using hr
    subst e
    exact hp⟩
end
end Dw

/-! plain mathematics: the mirrors -/
namespace Mi
/-- strip all p from n -/
def stripF : Nat → Nat → Nat → Nat → Nat × Nat
  | 0, _, n, k => (n, k)
  | f + 1, p, n, k => if n % p = 0 then stripF f p (n / p) (k + 1) else (n, k)
def tailF (n : Nat) : List (Nat × Nat) := if 1 < n then [(n, 1)] else []
def facF : Nat → Nat → Nat → List (Nat × Nat)
  | 0, n, _ => tailF n
  | f + 1, n, p => if p * p ≤ n then (if 0 < (stripF n p n 0).2 then [(p, (stripF n p n 0).2)] else []) ++ facF f (stripF n p n 0).1 (p + 1) else tailF n
/-- the pairs of a prime and an exponent -/
def fac (n : Nat) : List (Nat × Nat) := facF n n 2
theorem stripF_no {f p n k : Nat} (h : ¬ n % p = 0) : stripF f p n k = (n, k) := by
  cases f with
  | zero => rfl
  | succ f => rw [stripF, if_neg h]
theorem stripF_yes {f p n k : Nat} (h : n % p = 0) : stripF (f + 1) p n k = stripF f p (n / p) (k + 1) := by rw [stripF, if_pos h]
theorem div_lt' {n p : Nat} (hn : 0 < n) (hp : 2 ≤ p) : n / p < n := Nat.div_lt_self hn hp
theorem strip_spec : ∀ (f p n k : Nat), 2 ≤ p → 0 < n → n ≤ f → 0 < (stripF f p n k).1 ∧ (stripF f p n k).1 ≤ n ∧ ¬ (stripF f p n k).1 % p = 0 ∧ k ≤ (stripF f p n k).2 ∧ n = (stripF f p n k).1 * p ^ ((stripF f p n k).2 - k)
  | 0, p, n, k, _, hn, hf => by omega
  | f + 1, p, n, k, hp, hn, hf => by
    by_cases h : n % p = 0
    · rw [stripF_yes h]
      have hd : p * (n / p) = n := Nat.mul_div_cancel' (Nat.dvd_of_mod_eq_zero h)
      have h0 : 0 < n / p := by
        rcases Nat.eq_zero_or_pos (n / p) with z | z
        · rw [z] at hd; omega
        · exact z
      have hlt := div_lt' hn hp
      obtain ⟨a1, a2, a3, a4, a5⟩ := strip_spec f p (n / p) (k + 1) hp h0 (by omega)
      refine ⟨a1, by omega, a3, by omega, ?_⟩
      have e : (stripF f p (n / p) (k + 1)).2 - k = (stripF f p (n / p) (k + 1)).2 - (k + 1) + 1 := by omega
      rw [e, Nat.pow_succ, ← Nat.mul_assoc, ← a5, Nat.mul_comm]
      exact hd.symm
    · rw [stripF_no h]
      exact ⟨hn, Nat.le_refl _, h, Nat.le_refl _, by simp⟩
end Mi

/-! divisors, factors, sums: plain -/
namespace Mi
def Prime (p : Nat) : Prop := 2 ≤ p ∧ ∀ d, d ∣ p → d = 1 ∨ d = p
theorem Prime.cop {p d : Nat} (h : Prime p) (hd : ¬ p ∣ d) : Nat.Coprime d p := by
  have h1 : Nat.gcd d p ∣ p := Nat.gcd_dvd_right d p
  rcases h.2 _ h1 with z | z
  · exact z
  · exact absurd (z ▸ Nat.gcd_dvd_left d p) hd
theorem Prime.dvd_mul {p a b : Nat} (h : Prime p) (hd : p ∣ a * b) : p ∣ a ∨ p ∣ b := by
  by_cases ha : p ∣ a
  · exact .inl ha
  · have c := h.cop ha
    exact .inr (Nat.Coprime.dvd_of_dvd_mul_left (Nat.Coprime.symm c) hd)
theorem Prime.dvd_pow {p a : Nat} (h : Prime p) : ∀ k, p ∣ a ^ k → p ∣ a
  | 0, hd => by
    rw [Nat.pow_zero] at hd
    have := Nat.le_of_dvd (by decide) hd
    have := h.1
    omega
  | k + 1, hd => by
    rw [Nat.pow_succ] at hd
    rcases h.dvd_mul hd with z | z
    · exact h.dvd_pow k z
    · exact z
theorem Prime.eq_of_dvd {p q : Nat} (hp : Prime p) (hq : Prime q) (h : p ∣ q) : p = q := by
  rcases hq.2 p h with z | z
  · have := hp.1; omega
  · exact z
/-- a divisor of m * p ^ k -/
theorem dvd_mul_pow {p m : Nat} (hp : Prime p) : ∀ (k d : Nat), d ∣ m * p ^ k → ∃ j e, j ≤ k ∧ e ∣ m ∧ d = e * p ^ j
  | 0, d, h => ⟨0, d, Nat.le_refl _, by simpa using h, by simp⟩
  | k + 1, d, h => by
    by_cases hd : p ∣ d
    · obtain ⟨d', rfl⟩ := hd
      have hp0 : 0 < p := by have := hp.1; omega
      have h' : d' ∣ m * p ^ k := by
        have e : m * p ^ (k + 1) = p * (m * p ^ k) := by rw [Nat.pow_succ]; ac_rfl
        rw [e] at h
        exact Nat.dvd_of_mul_dvd_mul_left hp0 h
      obtain ⟨j, e, h1, h2, h3⟩ := dvd_mul_pow hp k d' h'
      exact ⟨j + 1, e, by omega, h2, by rw [h3, Nat.pow_succ]; ac_rfl⟩
    · have c := hp.cop hd
      have h' : d ∣ m * p ^ k := by
        rw [Nat.pow_succ, ← Nat.mul_assoc] at h
        exact Nat.Coprime.dvd_of_dvd_mul_right c h
      obtain ⟨j, e, h1, h2, h3⟩ := dvd_mul_pow hp k d h'
      exact ⟨j, e, by omega, h2, h3⟩
/-! ### factors -/
def IsFac : Nat → List (Nat × Nat) → Nat → Prop
  | _, [], n => n = 1
  | p, (q, k) :: l, n => p ≤ q ∧ Prime q ∧ 1 ≤ k ∧ ∃ m, n = m * q ^ k ∧ ¬ q ∣ m ∧ IsFac (q + 1) l m
theorem IsFac.weak : ∀ {l : List (Nat × Nat)} {p p' n : Nat}, p' ≤ p → IsFac p l n → IsFac p' l n
  | [], _, _, _, _, h => h
  | (q, k) :: l, _, _, _, hp, h => ⟨Nat.le_trans hp h.1, h.2⟩
/-- n has no divisor between 2 and p -/
def Rough (p n : Nat) : Prop := ∀ d, 2 ≤ d → d < p → ¬ d ∣ n
theorem prime_of_rough {p n : Nat} (h2 : 2 ≤ p) (h : Rough p n) (hd : p ∣ n) : Prime p := by
  refine ⟨h2, fun d hdp => ?_⟩
  have h0 : 0 < p := by omega
  have hle := Nat.le_of_dvd h0 hdp
  rcases Nat.eq_zero_or_pos d with z | z
  · subst z
    have := Nat.eq_zero_of_zero_dvd hdp
    omega
  · by_cases h1 : d = 1
    · exact .inl h1
    · by_cases h3 : d = p
      · exact .inr h3
      · exact absurd (Nat.dvd_trans hdp hd) (h d (by omega) (by omega))
theorem tail_fac {p n : Nat} (hn : 1 ≤ n) (h2 : 2 ≤ p) (h : Rough p n) (hp : n < p * p) : IsFac p (tailF n) n := by
  unfold tailF
  by_cases h1 : 1 < n
  · rw [if_pos h1]
    have hpn : p ≤ n := by
      by_cases z : p ≤ n
      · exact z
      · exact absurd (Nat.dvd_refl n) (h n h1 (by omega))
    have pr : Prime n := by
      refine ⟨h1, fun d hd => ?_⟩
      have hle := Nat.le_of_dvd (by omega) hd
      obtain ⟨e, he⟩ := hd
      rcases Nat.eq_zero_or_pos d with z | z
      · subst z; omega
      · by_cases d1 : d = 1
        · exact .inl d1
        · by_cases dn : d = n
          · exact .inr dn
          · have a1 : p ≤ d := by
              by_cases z : p ≤ d
              · exact z
              · exact absurd ⟨e, he⟩ (h d (by omega) (by omega))
            have e0 : e ≠ 0 := fun z => by subst z; omega
            have e1 : e ≠ 1 := fun z => by subst z; omega
            have a2 : p ≤ e := by
              by_cases z : p ≤ e
              · exact z
              · exact absurd ⟨d, by rw [Nat.mul_comm]; exact he⟩ (h e (by omega) (by omega))
            have := Nat.mul_le_mul a1 a2
            omega
    exact ⟨hpn, pr, Nat.le_refl _, 1, by simp, fun z => by have := Nat.le_of_dvd (by decide) z; omega, rfl⟩
  · rw [if_neg h1]
    show n = 1
    omega
theorem facF_fac : ∀ (f n p : Nat), 1 ≤ n → 2 ≤ p → Rough p n → n + 2 ≤ f + p → IsFac p (facF f n p) n
  | 0, n, p, hn, h2, h, hf => by
    refine tail_fac hn h2 h ?_
    have := Nat.le_mul_self p
    omega
  | f + 1, n, p, hn, h2, h, hf => by
    by_cases hpp : p * p ≤ n
    · rw [facF, if_pos hpp]
      obtain ⟨a1, a2, a3, a4, a5⟩ := strip_spec n p n 0 h2 hn (Nat.le_refl _)
      generalize hr : stripF n p n 0 = r at a1 a2 a3 a4 a5
      rw [Nat.sub_zero] at a5
      have hdv : r.1 ∣ n := ⟨p ^ r.2, a5⟩
      have rough' : Rough (p + 1) r.1 := fun d d2 dp hd => by
        by_cases e : d = p
        · subst e
          exact a3 (Nat.mod_eq_zero_of_dvd hd)
        · exact h d d2 (by omega) (Nat.dvd_trans hd hdv)
      have ih := facF_fac f r.1 (p + 1) a1 (by omega) rough' (by omega)
      by_cases hk : 0 < r.2
      · rw [if_pos hk]
        have hpn : p ∣ n := ⟨r.1 * p ^ (r.2 - 1), by
          rw [a5, Nat.mul_left_comm]
          congr 1
          have e : r.2 = r.2 - 1 + 1 := by omega
          rw [e, Nat.pow_succ, Nat.mul_comm]
          simp⟩
        exact ⟨Nat.le_refl _, prime_of_rough h2 h hpn, hk, r.1, a5, fun z => a3 (Nat.mod_eq_zero_of_dvd z), ih⟩
      · rw [if_neg hk]
        have e : r.2 = 0 := by omega
        rw [e, Nat.pow_zero, Nat.mul_one] at a5
        rw [List.nil_append, a5] 
        exact ih.weak (by omega)
    · rw [facF, if_neg hpp]
      exact tail_fac hn h2 h (by omega)
theorem fac_isFac {n : Nat} (hn : 1 ≤ n) : IsFac 2 (fac n) n := facF_fac n n 2 hn (Nat.le_refl _) (fun d a b => by omega) (by omega)
/-! ### divisors -/
/-- all divisors, ascending -/
def divN (n : Nat) : List Nat := (List.range' 1 n).filter fun d => n % d == 0
theorem mem_divN {n d : Nat} (hn : 1 ≤ n) : d ∈ divN n ↔ d ∣ n := by
  unfold divN
  rw [List.mem_filter, List.mem_range'_1]
  simp only [beq_iff_eq]
  constructor
  · rintro ⟨_, h⟩
    exact Nat.dvd_of_mod_eq_zero h
  · intro h
    have h1 := Nat.le_of_dvd hn h
    have h2 := Nat.pos_of_dvd_of_pos h hn
    exact ⟨⟨h2, by omega⟩, Nat.mod_eq_zero_of_dvd h⟩
theorem divN_lt (n : Nat) : (divN n).Pairwise (· < ·) := (List.pairwise_lt_range' (step := 1)).filter _
theorem divN_nodup (n : Nat) : (divN n).Nodup := (divN_lt n).imp fun h => Nat.ne_of_lt h
/-- turns of the inner loop -/
def layer (p : Nat) : Nat → List Nat → List Nat → List Nat
  | 0, _, found => found
  | k + 1, level, found => layer p k (level.map (· * p)) (found ++ level.map (· * p))
def divsOf (l : List (Nat × Nat)) (found : List Nat) : List Nat := l.foldl (fun found q => layer q.1 q.2 found found) found
theorem mem_layer {p d : Nat} : ∀ (k : Nat) (L F : List Nat), d ∈ layer p k L F ↔ d ∈ F ∨ ∃ j e, 1 ≤ j ∧ j ≤ k ∧ e ∈ L ∧ d = e * p ^ j
  | 0, L, F => by
    unfold layer
    constructor
    · exact .inl
    · rintro (h | ⟨j, e, h1, h2, _⟩)
      · exact h
      · omega
  | k + 1, L, F => by
    unfold layer
    rw [mem_layer k, List.mem_append, List.mem_map]
    constructor
    · rintro ((h | ⟨e, he, rfl⟩) | ⟨j, e, h1, h2, he, rfl⟩)
      · exact .inl h
      · exact .inr ⟨1, e, Nat.le_refl _, by omega, he, by simp⟩
      · obtain ⟨e', he', rfl⟩ := List.mem_map.mp he
        exact .inr ⟨j + 1, e', by omega, by omega, he', by rw [Nat.pow_succ, Nat.mul_assoc, Nat.mul_comm p]⟩
    · rintro (h | ⟨j, e, h1, h2, he, rfl⟩)
      · exact .inl (.inl h)
      · by_cases hj : j = 1
        · subst hj
          exact .inl (.inr ⟨e, he, by simp⟩)
        · refine .inr ⟨j - 1, e * p, by omega, by omega, List.mem_map.mpr ⟨e, he, rfl⟩, ?_⟩
          have e' : j = j - 1 + 1 := by omega
          rw [e', Nat.pow_succ, Nat.mul_assoc, Nat.mul_comm p]
          simp
theorem nodup_map_mul {p : Nat} (hp : 0 < p) {L : List Nat} (h : L.Nodup) : (L.map (· * p)).Nodup := by
  unfold List.Nodup at *
  rw [List.pairwise_map]
  exact h.imp fun {a b} hab z => hab (Nat.eq_of_mul_eq_mul_right hp z)
theorem nodup_layer {p : Nat} (hp : 0 < p) : ∀ (k : Nat) (L F : List Nat), F.Nodup → L.Nodup → (∀ d ∈ F, ∀ e ∈ L, ∀ j, 1 ≤ j → d ≠ e * p ^ j) → (∀ d ∈ L, ∀ e ∈ L, ∀ j, 1 ≤ j → d ≠ e * p ^ j) → (layer p k L F).Nodup
  | 0, _, _, hF, _, _, _ => hF
  | k + 1, L, F, hF, hL, h1, h2 => by
    unfold layer
    refine nodup_layer hp k _ _ (List.nodup_append.mpr ⟨hF, nodup_map_mul hp hL, fun d hd e he z => ?_⟩) (nodup_map_mul hp hL) (fun d hd e he j hj z => ?_) fun d hd e he j hj z => ?_
    · obtain ⟨e', he', rfl⟩ := List.mem_map.mp he
      exact h1 d hd e' he' 1 (Nat.le_refl _) (by rw [z]; simp)
    · obtain ⟨e', he', rfl⟩ := List.mem_map.mp he
      rcases List.mem_append.mp hd with q | q
      · exact h1 d q e' he' (j + 1) (by omega) (by rw [z, Nat.pow_succ, Nat.mul_assoc, Nat.mul_comm p])
      · obtain ⟨d', hd', rfl⟩ := List.mem_map.mp q
        refine h2 d' hd' e' he' j hj (Nat.eq_of_mul_eq_mul_right hp ?_)
        rw [z, Nat.mul_assoc, Nat.mul_assoc, Nat.mul_comm p]
    · obtain ⟨e', he', rfl⟩ := List.mem_map.mp he
      obtain ⟨d', hd', rfl⟩ := List.mem_map.mp hd
      refine h2 d' hd' e' he' j hj (Nat.eq_of_mul_eq_mul_right hp ?_)
      rw [z, Nat.mul_assoc, Nat.mul_assoc, Nat.mul_comm p]
/-- found holds just the divisors of M -/
structure DivL (found : List Nat) (M : Nat) : Prop where
  nd : found.Nodup
  mem : ∀ d, d ∈ found ↔ d ∣ M
theorem divL_step {found : List Nat} {M p : Nat} (h : DivL found M) (hp : Prime p) (hd : ¬ p ∣ M) (k : Nat) : DivL (layer p k found found) (M * p ^ k) := by
  have hp0 : 0 < p := by have := hp.1; omega
  have key : ∀ d ∈ found, ∀ e ∈ found, ∀ j, 1 ≤ j → d ≠ e * p ^ j := fun d hdm e he j hj z => by
    have a : p ∣ d := by
      rw [z]
      have e' : j = j - 1 + 1 := by omega
      rw [e', Nat.pow_succ]
      exact ⟨e * p ^ (j - 1), by rw [← Nat.mul_assoc, Nat.mul_comm]⟩
    exact hd (Nat.dvd_trans a ((h.mem d).mp hdm))
  refine ⟨nodup_layer hp0 k _ _ h.nd h.nd key key, fun d => ?_⟩
  rw [mem_layer]
  constructor
  · rintro (q | ⟨j, e, h1, h2, he, rfl⟩)
    · exact Nat.dvd_trans ((h.mem d).mp q) (Nat.dvd_mul_right _ _)
    · exact Nat.mul_dvd_mul ((h.mem e).mp he) (Nat.pow_dvd_pow p h2)
  · intro q
    obtain ⟨j, e, h1, h2, rfl⟩ := dvd_mul_pow hp k d q
    by_cases hj : j = 0
    · subst hj
      exact .inl (by simpa using (h.mem e).mpr h2)
    · exact .inr ⟨j, e, by omega, h1, (h.mem e).mpr h2, rfl⟩
theorem divL_all : ∀ (l : List (Nat × Nat)) (p n M : Nat) (found : List Nat), IsFac p l n → DivL found M → (∀ r, Prime r → p ≤ r → ¬ r ∣ M) → DivL (divsOf l found) (M * n)
  | [], p, n, M, found, h, hf, _ => by
    have e : n = 1 := h
    subst e
    rw [Nat.mul_one]
    exact hf
  | (q, k) :: l, p, n, M, found, ⟨h1, h2, h3, m, h4, h5, h6⟩, hf, hr => by
    have st := divL_step hf h2 (hr q h2 h1) k
    have := divL_all l (q + 1) m (M * q ^ k) _ h6 st (fun r pr hle hd => by
      rcases pr.dvd_mul hd with z | z
      · exact hr r pr (by omega) z
      · have := pr.eq_of_dvd h2 (pr.dvd_pow k z)
        omega)
    have e : M * n = M * q ^ k * m := by rw [h4]; ac_rfl
    rw [e]
    exact this
/-! ### sums -/
def geo (p : Nat) : Nat → Nat → Nat
  | 0, own => own
  | k + 1, own => geo p k (own * p + 1)
/-- the sum of all divisors by the factors -/
def sigF (l : List (Nat × Nat)) (total : Nat) : Nat := l.foldl (fun total q => total * geo q.1 q.2 1) total
/-- 1 + p + .. + p ^ k -/
def gs (p : Nat) : Nat → Nat
  | 0 => 1
  | k + 1 => gs p k + p ^ (k + 1)
theorem gs_succ (p : Nat) : ∀ k, gs p (k + 1) = gs p k * p + 1
  | 0 => by simp [gs]; omega
  | k + 1 => by
    have ih := gs_succ p k
    show gs p (k + 1) + p ^ (k + 2) = (gs p k + p ^ (k + 1)) * p + 1
    rw [Nat.add_mul, ih, Nat.pow_succ p (k + 1)]
    omega
theorem geo_gs (p : Nat) : ∀ (k j : Nat), geo p k (gs p j) = gs p (j + k)
  | 0, j => rfl
  | k + 1, j => by
    unfold geo
    rw [← gs_succ, geo_gs p k (j + 1)]
    congr 1
    omega
theorem geo_eq (p k : Nat) : geo p k 1 = gs p k := by
  have := geo_gs p k 0
  simpa [gs] using this
theorem sum_map_mul (p : Nat) : ∀ L : List Nat, (L.map (· * p)).sum = L.sum * p
  | [] => by simp
  | a :: L => by
    rw [List.map_cons, List.sum_cons, List.sum_cons, sum_map_mul p L, Nat.add_mul]
theorem sum_layer (p : Nat) : ∀ (k : Nat) (L F : List Nat), (layer p k L F).sum + L.sum = F.sum + L.sum * gs p k
  | 0, L, F => by simp [layer, gs]
  | k + 1, L, F => by
    unfold layer
    have ih := sum_layer p k (L.map (· * p)) (F ++ L.map (· * p))
    rw [List.sum_append_nat, sum_map_mul] at ih
    rw [gs_succ, Nat.mul_add, ← Nat.mul_assoc]
    have e : L.sum * p * gs p k = L.sum * gs p k * p := by ac_rfl
    omega
theorem sum_divsOf : ∀ (l : List (Nat × Nat)) (found : List Nat), (divsOf l found).sum = sigF l found.sum
  | [], _ => rfl
  | (q, k) :: l, found => by
    show (divsOf l (layer q k found found)).sum = sigF l (found.sum * geo q k 1)
    rw [sum_divsOf l, geo_eq]
    congr 1
    have := sum_layer q k found found
    omega
/-- the sum of all divisors -/
def sigma (n : Nat) : Nat := (divN n).sum
theorem divsOf_divN {n : Nat} (hn : 1 ≤ n) : (divsOf (fac n) [1]).Perm (divN n) := by
  have h := divL_all (fac n) 2 n 1 [1] (fac_isFac hn) ⟨by simp, fun d => by simp [Nat.dvd_one]⟩ fun r pr _ hd => by
    have := Nat.le_of_dvd (by decide) hd
    have := pr.1
    omega
  rw [Nat.one_mul] at h
  exact (List.perm_ext_iff_of_nodup h.nd (divN_nodup n)).mpr fun d => by rw [h.mem, mem_divN hn]
theorem sigF_sigma {n : Nat} (hn : 1 ≤ n) : sigF (fac n) 1 = sigma n := by
  have h := sum_divsOf (fac n) [1]
  rw [(divsOf_divN hn).sum_nat] at h
  simpa [sigma] using h.symm
theorem sorted_unique {l l' : List Nat} (h : l.Perm l') (h1 : l.Pairwise (· ≤ ·)) (h2 : l'.Pairwise (· ≤ ·)) : l = l' :=
  List.Perm.eq_of_pairwise (le := (· ≤ ·)) (fun a b _ _ x y => Nat.le_antisymm x y) h1 h2 h
/-- the sum of the parts -/
def s (n : Nat) : Nat := sigma n - n
theorem divN_last {n : Nat} (hn : 1 ≤ n) : divN n = (divN n).dropLast ++ [n] := by
  obtain ⟨k, rfl⟩ : ∃ k, n = k + 1 := ⟨n - 1, by omega⟩
  have e : divN (k + 1) = (List.range' 1 k).filter (fun d => (k + 1) % d == 0) ++ [k + 1] := by
    unfold divN
    rw [List.range'_concat, List.filter_append]
    congr 1
    have : 1 + 1 * k = k + 1 := by omega
    rw [this, List.filter_cons, if_pos (by simp)]
    rfl
  rw [e]
  simp
theorem sigma_eq {n : Nat} (hn : 1 ≤ n) : sigma n = (divN n).dropLast.sum + n := by
  have h := divN_last hn
  unfold sigma
  rw [h, List.sum_append_nat]
  simp
theorem s_eq {n : Nat} (hn : 1 ≤ n) : s n = (divN n).dropLast.sum := by
  unfold s
  rw [sigma_eq hn]
  omega
/-- the parts -/
def parts (n : Nat) : List Nat := (divN n).dropLast
theorem mem_parts {n d : Nat} (hn : 1 ≤ n) : d ∈ parts n ↔ d ∣ n ∧ d < n := by
  have h := divN_last hn
  have hlt := divN_lt n
  rw [h, List.pairwise_append] at hlt
  have key : d ∈ divN n ↔ d ∈ parts n ∨ d = n := by
    rw [h]
    simp [parts]
  constructor
  · intro hd
    exact ⟨(mem_divN hn).mp (key.mpr (.inl hd)), hlt.2.2 d hd n (by simp)⟩
  · rintro ⟨h1, h2⟩
    rcases key.mp ((mem_divN hn).mpr h1) with z | z
    · exact z
    · omega
theorem parts_lt (n : Nat) : (parts n).Pairwise (· < ·) := (divN_lt n).sublist (List.dropLast_sublist _)
end Mi

/-! bounds of the factors -/
namespace Mi
theorem isFac_mem : ∀ {l : List (Nat × Nat)} {p n : Nat}, IsFac p l n → 1 ≤ n → ∀ q ∈ l, Prime q.1 ∧ 1 ≤ q.2 ∧ q.1 ^ q.2 ≤ n ∧ p ≤ q.1
  | [], _, _, _, _, _, h => by cases h
  | (r, k) :: l, p, n, ⟨h1, h2, h3, m, h4, h5, h6⟩, hn, q, hq => by
    have hm : 1 ≤ m := by
      rcases Nat.eq_zero_or_pos m with z | z
      · subst z; omega
      · exact z
    have hr : 1 ≤ r ^ k := Nat.pow_pos (by have := h2.1; omega)
    rcases List.mem_cons.mp hq with e | e
    · subst e
      refine ⟨h2, h3, ?_, h1⟩
      rw [h4]
      exact Nat.le_mul_of_pos_left _ hm
    · obtain ⟨a, b, c, d⟩ := isFac_mem h6 hm q e
      refine ⟨a, b, Nat.le_trans c ?_, by omega⟩
      rw [h4]
      exact Nat.le_mul_of_pos_right _ hr
theorem pow_ge {p : Nat} (hp : 2 ≤ p) : ∀ k, k < p ^ k
  | 0 => by simp
  | k + 1 => by
    have := pow_ge hp k
    rw [Nat.pow_succ]
    have h2 := Nat.mul_le_mul_left (p ^ k) hp
    omega
theorem fac_mem {n : Nat} (hn : 1 ≤ n) {q : Nat × Nat} (hq : q ∈ fac n) : Prime q.1 ∧ 1 ≤ q.2 ∧ q.1 ^ q.2 ≤ n ∧ q.1 ≤ n ∧ q.2 ≤ n := by
  obtain ⟨a, b, c, _⟩ := isFac_mem (fac_isFac hn) hn q hq
  have h2 := a.1
  refine ⟨a, b, c, ?_, ?_⟩
  · have : q.1 ^ 1 ≤ q.1 ^ q.2 := Nat.pow_le_pow_right (by omega) b
    rw [Nat.pow_one] at this
    omega
  · have := pow_ge h2 q.2
    omega
theorem layer_len (p : Nat) : ∀ (k : Nat) (L F : List Nat), (layer p k L F).length = F.length + k * L.length
  | 0, L, F => by simp [layer]
  | k + 1, L, F => by
    unfold layer
    rw [layer_len p k]
    simp only [List.length_append, List.length_map]
    rw [Nat.add_mul]
    omega
theorem divsOf_len : ∀ (l : List (Nat × Nat)) (F : List Nat), F.length ≤ (divsOf l F).length
  | [], _ => Nat.le_refl _
  | (q, k) :: l, F => by
    show F.length ≤ (divsOf l (layer q k F F)).length
    have := divsOf_len l (layer q k F F)
    rw [layer_len] at this
    omega
theorem divN_len (n : Nat) : (divN n).length ≤ n := by
  unfold divN
  have := List.length_filter_le (fun d => n % d == 0) (List.range' 1 n)
  rwa [List.length_range'] at this
/-- ahead of a factor: what has been made so far, and the next layer, are short -/
theorem pre_len {n : Nat} (hn : 1 ≤ n) {i : Nat} {q : Nat × Nat} (hq : (fac n)[i]? = some q) :
    (divsOf ((fac n).take i) [1]).length * (q.2 + 1) ≤ n := by
  have hi : i < (fac n).length := (List.getElem?_eq_some_iff.mp hq).1
  have e : fac n = (fac n).take i ++ q :: (fac n).drop (i + 1) := by
    conv => lhs; rw [← List.take_append_drop i (fac n)]
    congr 1
    rw [List.drop_eq_getElem_cons hi]
    congr 1
    exact (List.getElem?_eq_some_iff.mp hq).2
  have h1 : (divsOf (fac n) [1]).length ≤ n := by
    rw [(divsOf_divN hn).length_eq]
    exact divN_len n
  rw [e] at h1
  have h2 : divsOf ((fac n).take i ++ q :: (fac n).drop (i + 1)) [1] = divsOf ((fac n).drop (i + 1)) (layer q.1 q.2 (divsOf ((fac n).take i) [1]) (divsOf ((fac n).take i) [1])) := by
    unfold divsOf
    rw [List.foldl_append]
    rfl
  rw [h2] at h1
  have h3 := divsOf_len ((fac n).drop (i + 1)) (layer q.1 q.2 (divsOf ((fac n).take i) [1]) (divsOf ((fac n).take i) [1]))
  rw [layer_len] at h3
  rw [Nat.mul_succ, Nat.mul_comm]
  omega
theorem take_snoc {α β : Type} (f : β → α → β) (b : β) {l : List α} {i : Nat} {q : α} (h : l[i]? = some q) : (l.take (i + 1)).foldl f b = f ((l.take i).foldl f b) q := by
  rw [List.take_add_one, h]
  simp
theorem divsOf_snoc {l : List (Nat × Nat)} {i : Nat} {q : Nat × Nat} (h : l[i]? = some q) (F : List Nat) : divsOf (l.take (i + 1)) F = layer q.1 q.2 (divsOf (l.take i) F) (divsOf (l.take i) F) := take_snoc _ _ h
theorem sigF_snoc {l : List (Nat × Nat)} {i : Nat} {q : Nat × Nat} (h : l[i]? = some q) (t : Nat) : sigF (l.take (i + 1)) t = sigF (l.take i) t * geo q.1 q.2 1 := take_snoc _ _ h
/-- one more turn of the inner loop -/
theorem geo_snoc (p : Nat) : ∀ (k own : Nat), geo p (k + 1) own = geo p k own * p + 1
  | 0, _ => rfl
  | k + 1, own => by
    show geo p (k + 1) (own * p + 1) = geo p k (own * p + 1) * p + 1
    exact geo_snoc p k _
theorem gs_le {p : Nat} (hp : 1 ≤ p) : ∀ k, gs p k ≤ (k + 1) * p ^ k
  | 0 => by simp [gs]
  | k + 1 => by
    have ih := gs_le hp k
    have h : p ^ k ≤ p ^ (k + 1) := Nat.pow_le_pow_right hp (by omega)
    show gs p k + p ^ (k + 1) ≤ (k + 1 + 1) * p ^ (k + 1)
    have h2 := Nat.mul_le_mul_left (k + 1) h
    rw [Nat.add_mul (k + 1) 1]
    omega
theorem gs_mono (p : Nat) {j k : Nat} (h : j ≤ k) : gs p j ≤ gs p k := by
  induction h with
  | refl => exact Nat.le_refl _
  | step _ ih => exact Nat.le_trans ih (Nat.le_add_right _ _)
theorem geo_le {n : Nat} (hn : 1 ≤ n) {q : Nat × Nat} (hq : q ∈ fac n) {j : Nat} (hj : j ≤ q.2) : geo q.1 j 1 ≤ (n + 1) * n := by
  obtain ⟨a, b, c, d, e⟩ := fac_mem hn hq
  rw [geo_eq]
  have h1 := gs_mono q.1 hj
  have h2 := gs_le (p := q.1) (by have := a.1; omega) q.2
  have h3 := Nat.mul_le_mul (show q.2 + 1 ≤ n + 1 by omega) c
  omega
/-- layer, the other end -/
def levelN (p : Nat) (j : Nat) (L : List Nat) : List Nat := L.map (· * p ^ j)
theorem layer_snoc (p : Nat) : ∀ (k : Nat) (L F : List Nat), layer p (k + 1) L F = layer p k L F ++ levelN p (k + 1) L
  | 0, L, F => by
    unfold levelN
    simp [layer]
  | k + 1, L, F => by
    show layer p (k + 1) (L.map (· * p)) (F ++ L.map (· * p)) = layer p k (L.map (· * p)) (F ++ L.map (· * p)) ++ levelN p (k + 2) L
    rw [layer_snoc p k]
    congr 1
    unfold levelN
    rw [List.map_map]
    refine List.map_congr_left fun a _ => ?_
    show a * p * p ^ (k + 1) = a * p ^ (k + 2)
    rw [Nat.pow_succ p (k + 1)]
    ac_rfl
theorem levelN_succ (p j : Nat) (L : List Nat) : (levelN p j L).map (· * p) = levelN p (j + 1) L := by
  unfold levelN
  rw [List.map_map]
  refine List.map_congr_left fun a _ => ?_
  show a * p ^ j * p = a * p ^ (j + 1)
  rw [Nat.pow_succ]
  ac_rfl
theorem levelN_zero (p : Nat) (L : List Nat) : levelN p 0 L = L := by
  unfold levelN
  simp
end Mi

namespace Mi
/-- the law's own parts: divisors from both ends -/
structure LH (n k : Nat) (low high : List Nat) : Prop where
  k1 : 1 ≤ k
  k2 : (k - 1) * (k - 1) ≤ n
  sl : low.Pairwise (· < ·)
  sh : high.Pairwise (· < ·)
  ml : ∀ d, d ∈ low ↔ d ∣ n ∧ d < k
  mh : ∀ e, e ∈ high ↔ ∃ d, d * e = n ∧ d < k ∧ d ≠ e
  lh : ∀ d ∈ low, ∀ e ∈ high, d < e
theorem LH.start {n : Nat} (hn : 1 ≤ n) : LH n 1 [] [] where
  k1 := Nat.le_refl _
  k2 := by simp
  sl := .nil
  sh := .nil
  ml := fun d => by
    constructor
    · intro h; cases h
    · rintro ⟨h1, h2⟩
      have : d = 0 := by omega
      subst this
      have := Nat.eq_zero_of_zero_dvd h1
      omega
  mh := fun e => by
    constructor
    · intro h; cases h
    · rintro ⟨d, h1, h2, _⟩
      have : d = 0 := by omega
      subst this
      omega
  lh := fun _ h => by cases h
theorem LH.skip {n k : Nat} {low high : List Nat} (h : LH n k low high) (hk : k * k ≤ n) (hd : ¬ k ∣ n) : LH n (k + 1) low high where
  k1 := by omega
  k2 := by simpa using hk
  sl := h.sl
  sh := h.sh
  ml := fun d => by
    rw [h.ml]
    constructor
    · rintro ⟨a, b⟩; exact ⟨a, by omega⟩
    · rintro ⟨a, b⟩
      refine ⟨a, ?_⟩
      have : d ≠ k := fun z => hd (z ▸ a)
      omega
  mh := fun e => by
    rw [h.mh]
    constructor
    · rintro ⟨d, a, b, c⟩; exact ⟨d, a, by omega, c⟩
    · rintro ⟨d, a, b, c⟩
      refine ⟨d, a, ?_, c⟩
      have : d ≠ k := fun z => hd ⟨e, by rw [← a, z]⟩
      omega
  lh := h.lh
theorem LH.hit {n k : Nat} {low high : List Nat} (h : LH n k low high) (hk : k * k ≤ n) (hd : k ∣ n) : LH n (k + 1) (low ++ [k]) ((if k * k = n then [] else [n / k]) ++ high) := by
  have k1 := h.k1
  obtain ⟨e, rfl⟩ := hd
  have ediv : k * e / k = e := Nat.mul_div_cancel_left e k1
  have hke : k ≤ e := Nat.le_of_mul_le_mul_left hk k1
  have hhigh : ∀ e' ∈ high, e < e' ∧ k < e' := fun e' he' => by
    obtain ⟨d, a, b, c⟩ := (h.mh e').mp he'
    have lt : e < e' := by
      rcases Nat.lt_or_ge e e' with z | z
      · exact z
      · exfalso
        have x1 : d * e' ≤ d * e := Nat.mul_le_mul_left d z
        have x2 : d * e < k * e := Nat.mul_lt_mul_of_pos_right b (by omega)
        omega
    exact ⟨lt, by omega⟩
  have hlow : ∀ d ∈ low, d < k := fun d hd => ((h.ml d).mp hd).2
  refine ⟨by omega, by simpa using hk, ?_, ?_, fun d => ?_, fun e' => ?_, fun d hd e' he' => ?_⟩
  · rw [List.pairwise_append]
    exact ⟨h.sl, by simp, fun a ha b hb => by
      have : b = k := by simpa using hb
      rw [this]; exact hlow a ha⟩
  · rw [List.pairwise_append]
    refine ⟨by split <;> simp, h.sh, fun a ha b hb => ?_⟩
    split at ha
    · cases ha
    · rw [ediv] at ha
      have : a = e := by simpa using ha
      rw [this]; exact (hhigh b hb).1
  · rw [List.mem_append, h.ml, List.mem_singleton]
    constructor
    · rintro (⟨a, b⟩ | rfl)
      · exact ⟨a, by omega⟩
      · exact ⟨Nat.dvd_mul_right _ _, by omega⟩
    · rintro ⟨a, b⟩
      by_cases z : d = k
      · exact .inr z
      · exact .inl ⟨a, by omega⟩
  · rw [List.mem_append, h.mh]
    constructor
    · rintro (z | ⟨d, a, b, c⟩)
      · split at z
        · cases z
        · rename_i hne
          rw [ediv] at z
          have : e' = e := by simpa using z
          subst this
          exact ⟨k, rfl, by omega, fun q => hne (by rw [← q])⟩
      · exact ⟨d, a, by omega, c⟩
    · rintro ⟨d, a, b, c⟩
      by_cases z : d = k
      · subst z
        have : e' = e := Nat.eq_of_mul_eq_mul_left k1 a
        subst this
        refine .inl ?_
        rw [if_neg (fun q => c (Nat.eq_of_mul_eq_mul_left k1 q)), ediv]
        exact List.mem_singleton.mpr rfl
      · exact .inr ⟨d, a, by omega, c⟩
  · rw [List.mem_append] at hd he'
    rcases he' with z | z
    · split at z
      · cases z
      · rename_i hne
        rw [ediv] at z
        have : e' = e := by simpa using z
        subst this
        have : k ≠ e' := fun q => hne (by rw [← q])
        rcases hd with y | y
        · have := hlow d y; omega
        · have : d = k := by simpa using y
          omega
    · rcases hd with y | y
      · exact h.lh d y e' z
      · have : d = k := by simpa using y
        have := (hhigh e' z).2
        omega
theorem LH.fin {n k : Nat} {low high : List Nat} (hn : 1 ≤ n) (h : LH n k low high) (hk : ¬ k * k ≤ n) : low ++ high = divN n := by
  have hs : (low ++ high).Pairwise (· < ·) := List.pairwise_append.mpr ⟨h.sl, h.sh, h.lh⟩
  refine sorted_unique ((List.perm_ext_iff_of_nodup (hs.imp fun h => Nat.ne_of_lt h) (divN_nodup n)).mpr fun d => ?_) (hs.imp fun h => Nat.le_of_lt h) ((divN_lt n).imp fun h => Nat.le_of_lt h)
  rw [mem_divN hn, List.mem_append, h.ml, h.mh]
  constructor
  · rintro (⟨a, _⟩ | ⟨e, a, _, _⟩)
    · exact a
    · exact ⟨e, by rw [← a, Nat.mul_comm]⟩
  · rintro ⟨e, rfl⟩
    by_cases z : d < k
    · exact .inl ⟨Nat.dvd_mul_right _ _, z⟩
    · have : e < k := by
        rcases Nat.lt_or_ge e k with q | q
        · exact q
        · exact (hk (Nat.mul_le_mul (by omega) q)).elim
      exact .inr ⟨e, Nat.mul_comm _ _, this, by omega⟩
theorem LH.len {n k : Nat} {low high : List Nat} (h : LH n k low high) (hn : 1 ≤ n) : low.length ≤ n ∧ high.length ≤ n := by
  have f : ∀ l : List Nat, l.Pairwise (· < ·) → (∀ d ∈ l, d ∣ n) → l.length ≤ n := fun l hl hm => by
    have sub : l ⊆ divN n := fun d hd => (mem_divN hn).mpr (hm d hd)
    have := List.Nodup.length_le_of_subset (hl.imp fun h => Nat.ne_of_lt h) sub
    exact Nat.le_trans this (divN_len n)
  refine ⟨f _ h.sl fun d hd => ((h.ml d).mp hd).1, f _ h.sh fun e he => ?_⟩
  obtain ⟨d, a, _⟩ := (h.mh e).mp he
  exact ⟨d, by rw [← a, Nat.mul_comm]⟩
theorem LH.kle {n k : Nat} {low high : List Nat} (h : LH n k low high) (hn : 1 ≤ n) : k ≤ n + 1 := by
  have := h.k2
  rcases Nat.lt_or_ge 1 (k - 1) with z | z
  · have : k - 1 ≤ (k - 1) * (k - 1) := Nat.le_mul_of_pos_left _ (by omega)
    omega
  · omega
end Mi

/-! kinds -/
namespace Mi
theorem sum_sub : ∀ {l l' : List Nat}, l.Nodup → l'.Nodup → l ⊆ l' → l.sum ≤ l'.sum := fun {l l'} h h' hs => by
  have hp : (l'.filter fun x => decide (x ∈ l)).Perm l := (List.perm_ext_iff_of_nodup (h'.filter _) h).mpr fun a => by
    rw [List.mem_filter, decide_eq_true_eq]
    exact ⟨fun z => z.2, fun z => ⟨hs z, z⟩⟩
  have hle : ∀ (p : Nat → Bool) (l' : List Nat), (l'.filter p).sum ≤ l'.sum := fun p l' => by
    induction l' with
    | nil => simp
    | cons a l' ih =>
      rw [List.filter_cons]
      split
      · simp; omega
      · simp; omega
  rw [← hp.sum_nat]
  exact hle _ l'
theorem sigma_mul {n b : Nat} (hn : 1 ≤ n) (hb : 2 ≤ b) : sigma n * b + 1 ≤ sigma (n * b) := by
  have hnb : 1 ≤ n * b := Nat.mul_pos hn (by omega)
  have hd : ((divN n).map (· * b) ++ [1]).Nodup := by
    rw [List.nodup_append]
    refine ⟨nodup_map_mul (by omega) (divN_nodup n), by simp, fun x hx y hy => ?_⟩
    have : y = 1 := by simpa using hy
    subst this
    obtain ⟨d, hd, rfl⟩ := List.mem_map.mp hx
    intro e
    have h2 : b ∣ 1 := ⟨d, by rw [← e, Nat.mul_comm]⟩
    have := Nat.le_of_dvd (by decide) h2
    omega
  have hs : ((divN n).map (· * b) ++ [1]) ⊆ divN (n * b) := fun x hx => by
    rcases List.mem_append.mp hx with z | z
    · obtain ⟨d, hd, rfl⟩ := List.mem_map.mp z
      exact (mem_divN hnb).mpr (Nat.mul_dvd_mul_right ((mem_divN hn).mp hd) b)
    · have : x = 1 := by simpa using z
      subst this
      exact (mem_divN hnb).mpr (Nat.one_dvd _)
  have := sum_sub hd (divN_nodup _) hs
  rw [List.sum_append, sum_map_mul] at this
  simpa [sigma] using this
theorem sigma_s {n : Nat} (hn : 1 ≤ n) : sigma n = s n + n := by
  have := sigma_eq hn
  rw [s_eq hn]
  exact this
/-- proper multiples of numbers that are not poor are rich -/
theorem rich_mul {n b : Nat} (hn : 1 ≤ n) (hb : 2 ≤ b) (h : n ≤ s n) : n * b < s (n * b) := by
  have h1 := sigma_mul hn hb
  have hnb : 1 ≤ n * b := Nat.mul_pos hn (by omega)
  rw [sigma_s hn, sigma_s hnb, Nat.add_mul] at h1
  have h2 : n * b ≤ s n * b := Nat.mul_le_mul_right b h
  omega
/-- parts of numbers that are not rich are poor -/
theorem part_poor {n d : Nat} (hn : 1 ≤ n) (h : s n ≤ n) (hd : d ∈ parts n) : s d < d := by
  obtain ⟨h1, h2⟩ := (mem_parts hn).mp hd
  obtain ⟨b, rfl⟩ := h1
  have hd1 : 1 ≤ d := by
    rcases Nat.eq_zero_or_pos d with z | z
    · subst z; omega
    · exact z
  rcases Nat.lt_or_ge (s d) d with z | z
  · exact z
  · have hb : 2 ≤ b := by
      rcases Nat.lt_or_ge b 2 with q | q
      · have : b = 0 ∨ b = 1 := by omega
        rcases this with rfl | rfl <;> omega
      · exact q
    have := rich_mul hd1 hb z
    omega
theorem gs_lt {p : Nat} (hp : 2 ≤ p) : ∀ k, gs p k + 1 ≤ 2 * p ^ k
  | 0 => by simp [gs]
  | k + 1 => by
    have ih := gs_lt hp k
    rw [gs_succ, Nat.pow_succ]
    have h1 : (gs p k + 1) * p ≤ 2 * p ^ k * p := Nat.mul_le_mul_right p ih
    rw [Nat.add_mul] at h1
    have : 2 * (p ^ k * p) = 2 * p ^ k * p := by rw [Nat.mul_assoc]
    omega
/-- powers of primes are poor -/
theorem power_poor {n : Nat} (hn : 1 ≤ n) (h : (fac n).length ≤ 1) : s n < n := by
  have hf := fac_isFac hn
  have hs := sigF_sigma hn
  match hl : fac n, h with
  | [], _ =>
    rw [hl] at hf hs
    have h1 : n = 1 := hf
    subst h1
    decide
  | [(p, k)], _ =>
    rw [hl] at hf hs
    have hm := isFac_mem hf hn (p, k) (by simp)
    have hn2 : n = p ^ k := by
      simp only [IsFac] at hf
      obtain ⟨_, _, _, m, x4, _, x6⟩ := hf
      rw [x4, x6, Nat.one_mul]
    have e : sigF [(p, k)] 1 = gs p k := by simp [sigF, geo_eq]
    have h1 : sigma n = gs p k := by rw [← hs, e]
    have h2 : gs p k + 1 ≤ 2 * p ^ k := gs_lt hm.1.1 k
    have h3 : sigma n = s n + n := sigma_s hn
    have h4 : gs p k + 1 ≤ 2 * n := by rw [hn2]; exact h2
    omega
end Mi

/-! factors -/
namespace Mi
theorem isFac_asc : ∀ {l : List (Nat × Nat)} {p n : Nat}, IsFac p l n → l.Pairwise (fun a b => a.1 < b.1) ∧ ∀ q ∈ l, p ≤ q.1
  | [], _, _, _ => ⟨.nil, fun _ h => by cases h⟩
  | (q, k) :: l, p, n, h => by
    obtain ⟨h1, _, _, m, _, _, h6⟩ := h
    obtain ⟨a, b⟩ := isFac_asc h6
    refine ⟨.cons (fun r hr => b r hr) a, fun r hr => ?_⟩
    rcases List.mem_cons.mp hr with z | z
    · subst z; exact h1
    · have := b r z; omega
def prodF (l : List (Nat × Nat)) (t : Nat) : Nat := l.foldl (fun t q => t * q.1 ^ q.2) t
theorem prodF_fac : ∀ {l : List (Nat × Nat)} {p n : Nat} (t : Nat), IsFac p l n → prodF l t = t * n
  | [], _, _, t, h => by
    have h : _ = 1 := h
    rw [h]; simp [prodF]
  | (q, k) :: l, p, n, t, h => by
    obtain ⟨_, _, _, m, h4, _, h6⟩ := h
    show prodF l (t * q ^ k) = t * n
    rw [prodF_fac _ h6, h4, Nat.mul_comm m, Nat.mul_assoc]
theorem prodF_snoc {l : List (Nat × Nat)} {i : Nat} {q : Nat × Nat} (h : l[i]? = some q) (t : Nat) : prodF (l.take (i + 1)) t = prodF (l.take i) t * q.1 ^ q.2 := take_snoc _ _ h
theorem prodF_le {l : List (Nat × Nat)} {p n : Nat} (hl : IsFac p l n) (hn : 1 ≤ n) (i : Nat) : prodF (l.take i) 1 ≤ n := by
  have key : ∀ (l : List (Nat × Nat)) (t i : Nat), (∀ q ∈ l, 1 ≤ q.1) → prodF (l.take i) t ≤ prodF l t := fun l => by
    induction l with
    | nil => intro t i _; simp
    | cons q l ih =>
      intro t i hq
      cases i with
      | zero =>
        have : ∀ (l : List (Nat × Nat)) (t : Nat), (∀ q ∈ l, 1 ≤ q.1) → t ≤ prodF l t := fun l => by
          induction l with
          | nil => intro t _; exact Nat.le_refl _
          | cons q l ih =>
            intro t hq
            refine Nat.le_trans ?_ (ih (t * q.1 ^ q.2) fun r hr => hq r (by simp [hr]))
            exact Nat.le_mul_of_pos_right _ (Nat.pow_pos (hq q (by simp)))
        exact this (q :: l) t hq
      | succ i => exact ih (t * q.1 ^ q.2) i fun r hr => hq r (by simp [hr])
  have := key l 1 i fun q hq => by
    have := (isFac_mem hl hn q hq).1.1
    omega
  rw [prodF_fac 1 hl, Nat.one_mul] at this
  exact this
/-- the parts of a prime -/
theorem parts_prime {p : Nat} (h : Prime p) : parts p = [1] := by
  have hp := h.1
  have hm : ∀ d, d ∈ parts p ↔ d = 1 := fun d => by
    rw [mem_parts (by omega)]
    constructor
    · rintro ⟨a, b⟩
      rcases h.2 d a with z | z
      · exact z
      · omega
    · rintro rfl
      exact ⟨Nat.one_dvd _, by omega⟩
  have hl := parts_lt p
  cases e : parts p with
  | nil =>
    have := (hm 1).mpr rfl
    rw [e] at this
    cases this
  | cons a l =>
    rw [e] at hl hm
    have ha : a = 1 := (hm a).mp (by simp)
    cases l with
    | nil => rw [ha]
    | cons b l =>
      have hb : b = 1 := (hm b).mp (by simp)
      have := (List.pairwise_cons.mp hl).1 b (by simp)
      omega
theorem fac_nil {n : Nat} (hn : 1 ≤ n) : fac n = [] ↔ n = 1 := by
  constructor
  · intro h
    have := fac_isFac hn
    rw [h] at this
    exact this
  · rintro rfl
    decide
theorem isFac_one : ∀ {l : List (Nat × Nat)} {p : Nat}, IsFac p l 1 → l = []
  | [], _, _ => rfl
  | (q, k) :: l, p, h => by
    obtain ⟨_, h2, h3, m, h4, _, _⟩ := h
    have hq := h2.1
    have : q ∣ 1 := by
      rw [h4]
      exact Nat.dvd_trans (Nat.dvd_of_pow_dvd h3 (Nat.dvd_refl _)) (Nat.dvd_mul_left _ _)
    have := Nat.le_of_dvd (by decide) this
    omega
theorem fac_prime {n : Nat} (hn : Prime n) : fac n = [(n, 1)] := by
  have h1 := hn.1
  have hf := fac_isFac (n := n) (by omega)
  match e : fac n with
  | [] =>
    have := (fac_nil (n := n) (by omega)).mp e
    omega
  | (q, k) :: l =>
    rw [e] at hf
    obtain ⟨_, h2, h3, m, h4, h5, h6⟩ := hf
    have hqn : q ∣ n := by
      rw [h4]
      exact Nat.dvd_trans (Nat.dvd_of_pow_dvd h3 (Nat.dvd_refl _)) (Nat.dvd_mul_left _ _)
    have hq : q = n := by
      rcases hn.2 q hqn with z | z
      · have := h2.1; omega
      · exact z
    subst hq
    have hm : m * q ^ k = q := h4.symm
    obtain ⟨j, rfl⟩ : ∃ j, k = j + 1 := ⟨k - 1, by omega⟩
    have h7 : m * q ^ j = 1 := by
      have : (m * q ^ j) * q = 1 * q := by rw [Nat.one_mul, Nat.mul_assoc, ← Nat.pow_succ]; exact hm
      exact Nat.eq_of_mul_eq_mul_right (by omega) this
    have hm1 : m = 1 := Nat.eq_one_of_mul_eq_one_right h7
    subst hm1
    rw [Nat.one_mul] at h7
    have hj : j = 0 := by
      rcases Nat.eq_zero_or_pos j with z | z
      · exact z
      · have := pow_ge h1 j
        omega
    subst hj
    rw [isFac_one h6]
theorem prime_s {n : Nat} (hn : 1 < n) : s n = 1 ↔ Prime n := by
  constructor
  · intro h
    rw [s_eq (by omega)] at h
    have h : (parts n).sum = 1 := h
    refine ⟨hn, fun d hd => ?_⟩
    rcases Nat.lt_or_ge d n with z | z
    · left
      have h1 : 1 ∈ parts n := (mem_parts (by omega)).mpr ⟨Nat.one_dvd n, hn⟩
      have h2 : d ∈ parts n := (mem_parts (by omega)).mpr ⟨hd, z⟩
      have hd0 : 1 ≤ d := Nat.pos_of_dvd_of_pos hd (by omega)
      have hle : ∀ (l : List Nat), d ∈ l → d ≤ l.sum := fun l hl => by
        induction l with
        | nil => cases hl
        | cons a l ih =>
          rcases List.mem_cons.mp hl with q | q
          · subst q; simp
          · have := ih q; simp; omega
      have := hle _ h2
      omega
    · right
      have := Nat.le_of_dvd (by omega) hd
      omega
  · intro h
    rw [s_eq (by omega)]
    show (parts n).sum = 1
    rw [parts_prime h]
    rfl
theorem fac_single {n : Nat} (hn : 1 ≤ n) : fac n = [(n, 1)] ↔ 1 < n ∧ s n = 1 := by
  constructor
  · intro h
    have hm := fac_mem hn (q := (n, 1)) (by rw [h]; simp)
    have h2 : Prime n := hm.1
    have h1 : 1 < n := h2.1
    exact ⟨h1, (prime_s h1).mpr h2⟩
  · rintro ⟨h1, h2⟩
    exact fac_prime ((prime_s h1).mp h2)
end Mi

/-! products -/
namespace Mi
theorem sumf_sub {α : Type} [DecidableEq α] (f : α → Nat) {l l' : List α} (h : l.Nodup) (h' : l'.Nodup) (hs : l ⊆ l') : (l.map f).sum ≤ (l'.map f).sum := by
  have hp : (l'.filter fun x => decide (x ∈ l)).Perm l := (List.perm_ext_iff_of_nodup (h'.filter _) h).mpr fun a => by
    rw [List.mem_filter, decide_eq_true_eq]
    exact ⟨fun z => z.2, fun z => ⟨hs z, z⟩⟩
  have hle : ∀ (p : α → Bool) (l' : List α), ((l'.filter p).map f).sum ≤ (l'.map f).sum := fun p l' => by
    induction l' with
    | nil => simp
    | cons a l' ih =>
      rw [List.filter_cons]
      split
      · simp; omega
      · simp; omega
  rw [← (hp.map f).sum_nat]
  exact hle _ l'
def pairs (l l' : List Nat) : List (Nat × Nat) := l.flatMap fun d => l'.map fun e => (d, e)
theorem mem_pairs {l l' : List Nat} {q : Nat × Nat} : q ∈ pairs l l' ↔ q.1 ∈ l ∧ q.2 ∈ l' := by
  obtain ⟨d, e⟩ := q
  unfold pairs
  rw [List.mem_flatMap]
  constructor
  · rintro ⟨x, hx, hy⟩
    obtain ⟨y, hy, e1⟩ := List.mem_map.mp hy
    cases e1
    exact ⟨hx, hy⟩
  · rintro ⟨h1, h2⟩
    exact ⟨d, h1, List.mem_map.mpr ⟨e, h2, rfl⟩⟩
theorem nodup_pairs {l' : List Nat} (h' : l'.Nodup) : ∀ {l : List Nat}, l.Nodup → (pairs l l').Nodup
  | [], _ => List.nodup_nil
  | d :: l, h => by
    have h := List.nodup_cons.mp h
    show ((l'.map fun e => (d, e)) ++ pairs l l').Nodup
    rw [List.nodup_append]
    refine ⟨List.pairwise_map.mpr (h'.imp fun {a b} ne z => ne (Prod.mk.inj z).2), nodup_pairs h' h.2, fun x hx y hy e => ?_⟩
    obtain ⟨z, _, rfl⟩ := List.mem_map.mp hx
    subst e
    exact h.1 (mem_pairs.mp hy).1
theorem len_pairs (l' : List Nat) : ∀ l : List Nat, (pairs l l').length = l.length * l'.length
  | [] => by simp [pairs]
  | d :: l => by
    show ((l'.map fun e => (d, e)) ++ pairs l l').length = _
    rw [List.length_append, List.length_map, len_pairs l' l, List.length_cons, Nat.add_mul, Nat.one_mul, Nat.add_comm]
theorem sum_mulL (d : Nat) : ∀ l : List Nat, (l.map fun e => d * e).sum = d * l.sum
  | [] => by simp
  | e :: l => by simp [sum_mulL d l, Nat.mul_add]
theorem sum_pairs (l' : List Nat) : ∀ l : List Nat, ((pairs l l').map fun q => q.1 * q.2).sum = l.sum * l'.sum
  | [] => by simp [pairs]
  | d :: l => by
    show (((l'.map fun e => (d, e)) ++ pairs l l').map fun q => q.1 * q.2).sum = _
    rw [List.map_append, List.sum_append, sum_pairs l' l, List.map_map, List.sum_cons, Nat.add_mul]
    congr 1
    exact sum_mulL d l'
/-- where a divisor of a product comes from -/
def sec (a : Nat) (x : Nat) : Nat × Nat := (Nat.gcd x a, x / Nat.gcd x a)
theorem sec_mul {a x : Nat} : (sec a x).1 * (sec a x).2 = x := Nat.mul_div_cancel' (Nat.gcd_dvd_left x a)
theorem sec_mem {a b x : Nat} (ha : 1 ≤ a) (hb : 1 ≤ b) (hx : x ∣ a * b) : sec a x ∈ pairs (divN a) (divN b) := by
  rw [mem_pairs, mem_divN ha, mem_divN hb]
  refine ⟨Nat.gcd_dvd_right x a, ?_⟩
  have hx0 : 0 < x := Nat.pos_of_dvd_of_pos hx (Nat.mul_pos ha hb)
  have hg : 0 < Nat.gcd x a := Nat.gcd_pos_of_pos_left _ hx0
  have hc : Nat.Coprime (x / Nat.gcd x a) (a / Nat.gcd x a) := Nat.coprime_div_gcd_div_gcd hg
  refine hc.dvd_of_dvd_mul_left ?_
  have e1 : Nat.gcd x a * (x / Nat.gcd x a) = x := Nat.mul_div_cancel' (Nat.gcd_dvd_left x a)
  have e2 : Nat.gcd x a * (a / Nat.gcd x a) = a := Nat.mul_div_cancel' (Nat.gcd_dvd_right x a)
  have : Nat.gcd x a * (x / Nat.gcd x a) ∣ Nat.gcd x a * (a / Nat.gcd x a * b) := by
    rw [e1, ← Nat.mul_assoc, e2]
    exact hx
  exact Nat.dvd_of_mul_dvd_mul_left hg this
theorem nodup_sec (a n : Nat) : ((divN n).map (sec a)).Nodup := List.pairwise_map.mpr ((divN_nodup n).imp fun {x y} ne z => ne (by rw [← sec_mul (a := a) (x := x), z, sec_mul]))
theorem sum_sec (a n : Nat) : (((divN n).map (sec a)).map fun q => q.1 * q.2).sum = sigma n := by
  rw [List.map_map]
  have : ((fun q : Nat × Nat => q.1 * q.2) ∘ sec a) = id := funext fun x => sec_mul
  rw [this, List.map_id]
  rfl
theorem sec_sub {a b : Nat} (ha : 1 ≤ a) (hb : 1 ≤ b) : (divN (a * b)).map (sec a) ⊆ pairs (divN a) (divN b) := fun q hq => by
  obtain ⟨x, hx, rfl⟩ := List.mem_map.mp hq
  exact sec_mem ha hb ((mem_divN (Nat.mul_pos ha hb)).mp hx)
theorem sigma_le {a b : Nat} (ha : 1 ≤ a) (hb : 1 ≤ b) : sigma (a * b) ≤ sigma a * sigma b := by
  have := sumf_sub (fun q => q.1 * q.2) (nodup_sec a (a * b)) (nodup_pairs (divN_nodup b) (divN_nodup a)) (sec_sub ha hb)
  rw [sum_sec, sum_pairs] at this
  exact this
theorem sec_perm {a b : Nat} (ha : 1 ≤ a) (hb : 1 ≤ b) (hc : Nat.Coprime a b) : ((divN (a * b)).map (sec a)).Perm (pairs (divN a) (divN b)) :=
  (List.perm_ext_iff_of_nodup (nodup_sec a (a * b)) (nodup_pairs (divN_nodup b) (divN_nodup a))).mpr fun q => by
    refine ⟨fun h => sec_sub ha hb h, fun h => ?_⟩
    obtain ⟨d, e⟩ := q
    rw [mem_pairs, mem_divN ha, mem_divN hb] at h
    obtain ⟨h1, h2⟩ := h
    dsimp only at h1 h2
    refine List.mem_map.mpr ⟨d * e, (mem_divN (Nat.mul_pos ha hb)).mpr (Nat.mul_dvd_mul h1 h2), ?_⟩
    have he : Nat.Coprime e a := Nat.Coprime.coprime_dvd_left h2 hc.symm
    have hd : 0 < d := Nat.pos_of_dvd_of_pos h1 ha
    have e1 : Nat.gcd (d * e) a = d := by rw [he.gcd_mul_right_cancel d]; exact Nat.gcd_eq_left h1
    unfold sec
    rw [e1, Nat.mul_div_cancel_left e hd]
theorem sigma_cop {a b : Nat} (ha : 1 ≤ a) (hb : 1 ≤ b) (hc : Nat.Coprime a b) : sigma (a * b) = sigma a * sigma b := by
  have := ((sec_perm ha hb hc).map fun q => q.1 * q.2).sum_nat
  rw [sum_sec, sum_pairs] at this
  exact this
theorem len_cop {a b : Nat} (ha : 1 ≤ a) (hb : 1 ≤ b) (hc : Nat.Coprime a b) : (divN (a * b)).length = (divN a).length * (divN b).length := by
  have := (sec_perm ha hb hc).length_eq
  rw [List.length_map, len_pairs] at this
  exact this
theorem sigma_lt {a b : Nat} (ha : 1 ≤ a) (hb : 1 ≤ b) (hc : ¬ Nat.Coprime a b) : sigma (a * b) < sigma a * sigma b := by
  generalize hg : Nat.gcd a b = g
  have g1 : g ≠ 1 := fun z => hc (by rw [← hg] at z; exact z)
  have gp : 0 < g := by rw [← hg]; exact Nat.gcd_pos_of_pos_left _ ha
  have ga : g ∣ a := by rw [← hg]; exact Nat.gcd_dvd_left a b
  have gb : g ∣ b := by rw [← hg]; exact Nat.gcd_dvd_right a b
  have hn : ((divN (a * b)).map (sec a) ++ [(1, g)]).Nodup := by
    rw [List.nodup_append]
    refine ⟨nodup_sec a (a * b), by simp, fun q hq r hr e => ?_⟩
    have hr : r = (1, g) := by simpa using hr
    subst hr
    obtain ⟨x, hx, rfl⟩ := List.mem_map.mp hq
    have e1 : x = g := by rw [← sec_mul (a := a) (x := x), e, Nat.one_mul]
    subst e1
    have e2 : (sec a x).1 = x := Nat.gcd_eq_left ga
    rw [e] at e2
    exact g1 e2.symm
  have hs : (divN (a * b)).map (sec a) ++ [(1, g)] ⊆ pairs (divN a) (divN b) := fun q hq => by
    rcases List.mem_append.mp hq with z | z
    · exact sec_sub ha hb z
    · have z : q = (1, g) := by simpa using z
      subst z
      rw [mem_pairs, mem_divN ha, mem_divN hb]
      exact ⟨Nat.one_dvd _, gb⟩
  have := sumf_sub (fun q => q.1 * q.2) hn (nodup_pairs (divN_nodup b) (divN_nodup a)) hs
  rw [List.map_append, List.sum_append, sum_sec, sum_pairs] at this
  have e : (([(1, g)] : List (Nat × Nat)).map fun q => q.1 * q.2).sum = g := by simp
  rw [e] at this
  have this : sigma (a * b) + g ≤ sigma a * sigma b := this
  omega
theorem len_divN {n : Nat} (hn : 1 ≤ n) : (parts n).length + 1 = (divN n).length := by
  have := congrArg List.length (divN_last hn)
  rw [List.length_append] at this
  simp at this
  unfold parts
  rw [List.length_dropLast]
  omega
end Mi

/-! courses -/
namespace Mi
/-- the course from x on, behind found -/
def courseF : Nat → List Nat → Nat → List Nat × Option Nat
  | 0, found, _ => (found, none)
  | f + 1, found, x => if 0 < x ∧ x ≤ 20000 then (if s x ∈ found then (found, some (s x)) else courseF f (found ++ [s x]) (s x)) else (found, none)
def course (n : Nat) : List Nat × Option Nat := courseF 20002 [n] n
/-- what holds at each turn -/
structure CI (n : Nat) (found : List Nat) (x : Nat) : Prop where
  nd : found.Nodup
  last : found.getLast? = some x
  bd : ∀ y ∈ found, y ≠ x → 1 ≤ y ∧ y ≤ 20000
  fuel : ∃ f, found.length + f = 20003 ∧ courseF f found x = course n
theorem CI.start (n : Nat) : CI n [n] n := ⟨by simp, rfl, fun y hy h => by
  have : y = n := by simpa using hy
  exact (h this).elim, 20002, (by simp), (by unfold course; rfl)⟩
theorem bound_len {l : List Nat} {m : Nat} (h : l.Nodup) (hb : ∀ y ∈ l, 1 ≤ y ∧ y ≤ m) : l.length ≤ m := by
  have hs : l ⊆ List.range' 1 m := fun y hy => by
    rw [List.mem_range'_1]
    have := hb y hy
    omega
  have := List.Nodup.length_le_of_subset h hs
  rwa [List.length_range'] at this
theorem CI.len {n x : Nat} {found : List Nat} (h : CI n found x) (hx : 0 < x ∧ x ≤ 20000) : found.length ≤ 20000 := bound_len h.nd fun y hy => by
  by_cases e : y = x
  · subst e; omega
  · exact h.bd y hy e
theorem CI.len' {n x : Nat} {found : List Nat} (h : CI n found x) : found.length ≤ 20001 := by
  have hm : x ∈ found := List.mem_of_getLast? h.last
  have h1 : (found.erase x).length ≤ 20000 := bound_len (h.nd.erase x) fun y hy => h.bd y (List.mem_of_mem_erase hy) fun e => by
    subst e
    exact h.nd.not_mem_erase hy
  rw [List.length_erase_of_mem hm] at h1
  omega
theorem CI.hit {n x : Nat} {found : List Nat} (h : CI n found x) (hx : 0 < x ∧ x ≤ 20000) (hs : s x ∈ found) : course n = (found, some (s x)) := by
  obtain ⟨f, h1, h2⟩ := h.fuel
  have := h.len hx
  obtain ⟨f', rfl⟩ : ∃ f', f = f' + 1 := ⟨f - 1, by omega⟩
  rw [← h2, courseF, if_pos hx, if_pos hs]
theorem CI.stop {n x : Nat} {found : List Nat} (h : CI n found x) (hx : ¬ (0 < x ∧ x ≤ 20000)) : course n = (found, none) := by
  obtain ⟨f, h1, h2⟩ := h.fuel
  rw [← h2]
  cases f with
  | zero => rfl
  | succ f => rw [courseF, if_neg hx]
theorem CI.next {n x : Nat} {found : List Nat} (h : CI n found x) (hx : 0 < x ∧ x ≤ 20000) (hs : ¬ s x ∈ found) : CI n (found ++ [s x]) (s x) := by
  obtain ⟨f, h1, h2⟩ := h.fuel
  have hl := h.len hx
  obtain ⟨f', rfl⟩ : ∃ f', f = f' + 1 := ⟨f - 1, by omega⟩
  refine ⟨?_, by simp, fun y hy hne => ?_, f', by simp; omega, ?_⟩
  · rw [List.nodup_append]
    exact ⟨h.nd, by simp, fun a ha b hb e => hs (by have : b = s x := by simpa using hb
                                                    rw [← this, ← e]; exact ha)⟩
  · rcases List.mem_append.mp hy with z | z
    · by_cases e : y = x
      · subst e; omega
      · exact h.bd y z e
    · exact (hne (by simpa using z)).elim
  · rw [← h2, courseF, if_pos hx, if_neg hs]
/-- what a course is, told at its end -/
structure CE (n : Nat) (c : List Nat × Option Nat) : Prop where
  len : c.1.length ≤ 20001
  ne : c.1 ≠ []
  mem : ∀ y, c.2 = some y → y ∈ c.1
theorem courseF_ce : ∀ (f : Nat) (found : List Nat) (x : Nat), found ≠ [] → (found.length + f ≤ 20003) → found <+: (courseF f found x).1 ∧ ∀ y, (courseF f found x).2 = some y → y ∈ (courseF f found x).1
  | 0, found, x, _, _ => ⟨List.prefix_refl _, fun y h => by cases h⟩
  | f + 1, found, x, h, hl => by
    rw [courseF]
    split
    · split
      · rename_i hm
        exact ⟨List.prefix_refl _, fun y hy => by cases hy; exact hm⟩
      · obtain ⟨a, b⟩ := courseF_ce f (found ++ [s x]) (s x) (by simp) (by simp; omega)
        exact ⟨List.IsPrefix.trans (List.prefix_append _ _) a, b⟩
    · exact ⟨List.prefix_refl _, fun y h => by cases h⟩
end Mi

namespace Mi
/-- each but the last leads to the next -/
def Ch (l : List Nat) : Prop := ∀ (i x y : Nat), l[i]? = some x → l[i + 1]? = some y → 1 ≤ x ∧ x ≤ 20000 ∧ y = s x
theorem Ch.snoc {l : List Nat} {x : Nat} (h : Ch l) (hl : l.getLast? = some x) (hx : 0 < x ∧ x ≤ 20000) : Ch (l ++ [s x]) := fun i a b ha hb => by
  have hb' : i + 1 < l.length + 1 := by
    have := (List.getElem?_eq_some_iff.mp hb).1
    simpa using this
  rw [List.getElem?_append_left (by omega)] at ha
  by_cases e : i + 1 < l.length
  · rw [List.getElem?_append_left e] at hb
    exact h i a b ha hb
  · have e1 : i + 1 = l.length := by omega
    rw [List.getElem?_append_right (by omega)] at hb
    have : b = s x := by
      rw [e1] at hb
      simpa using hb.symm
    rw [List.getLast?_eq_getElem?] at hl
    have e2 : l.length - 1 = i := by omega
    rw [e2, ha] at hl
    have : a = x := Option.some.inj hl
    subst this
    exact ⟨hx.1, hx.2, by assumption⟩
structure Spec (n : Nat) (found : List Nat) (x : Nat) : Prop where
  ci : CI n found x
  ch : Ch found
  fin : (¬ (0 < x ∧ x ≤ 20000) ∧ course n = (found, none)) ∨ ((0 < x ∧ x ≤ 20000) ∧ s x ∈ found ∧ course n = (found, some (s x)))
theorem spec_from : ∀ (k n : Nat) (found : List Nat) (x : Nat), CI n found x → Ch found → 20002 - found.length = k → ∃ f y, Spec n f y
  | k, n, found, x, h, hc, hk => by
    by_cases hx : 0 < x ∧ x ≤ 20000
    · by_cases hs : s x ∈ found
      · exact ⟨found, x, h, hc, .inr ⟨hx, hs, h.hit hx hs⟩⟩
      · have hl := h.len hx
        obtain ⟨j, rfl⟩ : ∃ j, k = j + 1 := ⟨k - 1, by omega⟩
        exact spec_from j n (found ++ [s x]) (s x) (h.next hx hs) (hc.snoc h.last hx) (by rw [List.length_append]; simp; omega)
    · exact ⟨found, x, h, hc, .inl ⟨hx, h.stop hx⟩⟩
theorem course_spec (n : Nat) : ∃ x, Spec n (course n).1 x := by
  obtain ⟨f, y, h⟩ := spec_from _ n [n] n (CI.start n) (fun i x y hx hy => by simp at hy) rfl
  refine ⟨y, ?_⟩
  have e : (course n).1 = f := by rcases h.fin with ⟨_, z⟩ | ⟨_, _, z⟩ <;> rw [z]
  rw [e]
  exact h
end Mi

/-! circles -/
namespace Mi
def idxN : List Nat → Nat → Nat
  | [], _ => 0
  | a :: l, y => if a = y then 0 else idxN l y + 1
theorem idxN_at : ∀ {l : List Nat} {y : Nat}, y ∈ l → l[idxN l y]? = some y
  | [], _, h => by cases h
  | a :: l, y, h => by
    unfold idxN
    by_cases e : a = y
    · rw [if_pos e, e]; rfl
    · rw [if_neg e]
      have : y ∈ l := by
        rcases List.mem_cons.mp h with z | z
        · exact (e z.symm).elim
        · exact z
      simpa using idxN_at this
theorem idxN_ne : ∀ {l : List Nat} {y k z : Nat}, k < idxN l y → l[k]? = some z → z ≠ y
  | [], _, _, _, h, _ => by simp [idxN] at h
  | a :: l, y, k, z, h, hz => by
    unfold idxN at h
    by_cases e : a = y
    · rw [if_pos e] at h; omega
    · rw [if_neg e] at h
      cases k with
      | zero =>
        simp at hz
        rw [← hz]; exact e
      | succ k =>
        simp at hz
        exact idxN_ne (by omega) hz
theorem idxN_lt {l : List Nat} {y : Nat} (h : y ∈ l) : idxN l y < l.length := (List.getElem?_eq_some_iff.mp (idxN_at h)).1
theorem idxN_app : ∀ {a b : List Nat} {x : Nat}, ¬ x ∈ a → idxN (a ++ x :: b) x = a.length
  | [], _, _, _ => by simp [idxN]
  | y :: a, b, x, h => by
    have h1 : ¬ y = x := fun z => h (by simp [z])
    show idxN (y :: (a ++ x :: b)) x = _
    unfold idxN
    rw [if_neg h1, idxN_app (fun z => h (by simp [z]))]
    rfl
/-- the list turned so that x stands first -/
def rotTo (c : List Nat) (x : Nat) : List Nat := c.drop (idxN c x) ++ c.take (idxN c x)
theorem rotTo_eq {a b : List Nat} {x : Nat} (h : ¬ x ∈ a) : rotTo (a ++ x :: b) x = x :: b ++ a := by
  unfold rotTo
  rw [idxN_app h, List.drop_left, List.take_left]
theorem rotTo_perm (c : List Nat) (x : Nat) : (rotTo c x).Perm c := by
  unfold rotTo
  exact (List.perm_append_comm).trans (by rw [List.take_append_drop])
theorem rot_rot {c : List Nat} (hn : c.Nodup) {z x : Nat} (hz : z ∈ c) (hx : x ∈ c) : rotTo (rotTo c z) x = rotTo c x := by
  obtain ⟨a, b, rfl, ha⟩ := List.eq_append_cons_of_mem hz
  have hnd := List.nodup_append.mp hn
  rw [rotTo_eq ha]
  by_cases e : x = z
  · subst e
    rw [rotTo_eq ha]
    have := rotTo_eq (a := []) (b := b ++ a) (x := x) (by simp)
    simpa using this
  · rcases List.mem_append.mp hx with h | h
    · obtain ⟨a1, a2, rfl, ha1⟩ := List.eq_append_cons_of_mem h
      have hxb : ¬ x ∈ z :: b := fun q => hnd.2.2 x h x q rfl
      have e1 : z :: b ++ (a1 ++ x :: a2) = (z :: b ++ a1) ++ x :: a2 := by simp
      have e2 : (a1 ++ x :: a2) ++ z :: b = a1 ++ x :: (a2 ++ z :: b) := by simp
      rw [e1, e2, rotTo_eq (by rw [List.mem_append]; exact fun q => q.elim hxb ha1), rotTo_eq ha1]
      simp
    · have hb : x ∈ b := by
        rcases List.mem_cons.mp h with q | q
        · exact (e q).elim
        · exact q
      obtain ⟨b1, b2, rfl, hb1⟩ := List.eq_append_cons_of_mem hb
      have hxa : ¬ x ∈ a := fun q => hnd.2.2 x q x (by simp) rfl
      have e1 : z :: (b1 ++ x :: b2) ++ a = (z :: b1) ++ x :: (b2 ++ a) := by simp
      have e2 : a ++ z :: (b1 ++ x :: b2) = (a ++ z :: b1) ++ x :: b2 := by simp
      rw [e1, e2, rotTo_eq (by simp [e, hb1]), rotTo_eq (by simp [hxa, e, hb1])]
      simp
def minN : List Nat → Nat
  | [] => 0
  | [a] => a
  | a :: b :: l => min a (minN (b :: l))
theorem minN_le : ∀ {l : List Nat} {y : Nat}, y ∈ l → minN l ≤ y
  | [a], y, h => by simp [minN] at *; omega
  | a :: b :: l, y, h => by
    unfold minN
    rcases List.mem_cons.mp h with z | z
    · subst z; exact Nat.min_le_left _ _
    · exact Nat.le_trans (Nat.min_le_right _ _) (minN_le z)
theorem minN_mem : ∀ {l : List Nat}, l ≠ [] → minN l ∈ l
  | [], h => (h rfl).elim
  | [a], _ => by simp [minN]
  | a :: b :: l, _ => by
    unfold minN
    have := minN_mem (l := b :: l) (by simp)
    rcases Nat.le_total a (minN (b :: l)) with z | z
    · rw [Nat.min_eq_left z]; simp
    · rw [Nat.min_eq_right z]; exact List.mem_cons_of_mem _ this
theorem minN_perm {l l' : List Nat} (h : l.Perm l') (hne : l ≠ []) : minN l = minN l' := by
  have hne' : l' ≠ [] := fun z => hne (by rw [z] at h; exact h.eq_nil)
  exact Nat.le_antisymm (minN_le (h.mem_iff.mpr (minN_mem hne'))) (minN_le (h.mem_iff.mp (minN_mem hne)))
/-- a round from its least number on -/
def turnedN (c : List Nat) : List Nat := rotTo c (minN c)
theorem turned_rot {c : List Nat} (hn : c.Nodup) {z : Nat} (hz : z ∈ c) : turnedN (rotTo c z) = turnedN c := by
  have hne : c ≠ [] := fun q => by rw [q] at hz; cases hz
  have hp := rotTo_perm c z
  have hne' : rotTo c z ≠ [] := fun q => hne (by rw [q] at hp; exact hp.symm.eq_nil)
  unfold turnedN
  rw [minN_perm hp hne', rot_rot hn hz (minN_mem hne)]
def Good (x y : Nat) : Prop := 1 ≤ x ∧ x ≤ 20000 ∧ y = s x
structure Circ (c : List Nat) : Prop where
  ne : 0 < c.length
  nd : c.Nodup
  go : ∀ (i x y : Nat), c[i]? = some x → c[(i + 1) % c.length]? = some y → Good x y
theorem rot_at {c : List Nat} {k i : Nat} (hk : k < c.length) (hi : i < c.length) : (c.drop k ++ c.take k)[i]? = c[(i + k) % c.length]? := by
  by_cases h : i < c.length - k
  · rw [List.getElem?_append_left (by rw [List.length_drop]; exact h), List.getElem?_drop, Nat.mod_eq_of_lt (by omega), Nat.add_comm]
  · rw [List.getElem?_append_right (by rw [List.length_drop]; omega), List.length_drop, List.getElem?_take_of_lt (by omega)]
    have e : (i + k) % c.length = i - (c.length - k) := by
      rw [Nat.mod_eq_sub_mod (by omega), Nat.mod_eq_of_lt (by omega)]
      omega
    rw [e]
theorem Circ.rot {c : List Nat} (h : Circ c) {z : Nat} (hz : z ∈ c) : Circ (rotTo c z) := by
  have hk := idxN_lt hz
  have hp := rotTo_perm c z
  have hl := hp.length_eq
  refine ⟨by rw [hl]; exact h.ne, hp.nodup_iff.mpr h.nd, fun i x y hx hy => ?_⟩
  have hi : i < c.length := by
    have := (List.getElem?_eq_some_iff.mp hx).1
    rw [hl] at this; exact this
  rw [hl] at hy
  unfold rotTo at hx hy
  rw [rot_at hk hi] at hx
  rw [rot_at hk (Nat.mod_lt _ h.ne)] at hy
  refine h.go _ x y hx ?_
  have e : ((i + idxN c z) % c.length + 1) % c.length = ((i + 1) % c.length + idxN c z) % c.length := by
    rw [Nat.mod_add_mod, Nat.mod_add_mod]
    congr 1
    omega
  rw [e]
  exact hy
theorem course_chain {z w : Nat} {L : List Nat} (hn : L.Nodup) (hc : Ch L) (hw : L.getLast? = some w) (hg : 0 < w ∧ w ≤ 20000) (hs : s w ∈ L) : ∀ (rest found : List Nat) (x : Nat), L = found ++ rest → CI z found x → course z = (L, some (s w))
  | [], found, x, e, h => by
    rw [List.append_nil] at e
    subst e
    have : x = w := by
      have := h.last
      rw [hw] at this
      exact (Option.some.inj this).symm
    subst this
    exact h.hit hg hs
  | y :: rest, found, x, e, h => by
    have hlast := h.last
    rw [List.getLast?_eq_getElem?] at hlast
    have hl : 0 < found.length := by
      rcases Nat.eq_zero_or_pos found.length with q | q
      · have := List.length_eq_zero_iff.mp q
        rw [this] at hlast; cases hlast
      · exact q
    have h1 : L[found.length - 1]? = some x := by rw [e, List.getElem?_append_left (by omega)]; exact hlast
    have h2 : L[found.length - 1 + 1]? = some y := by
      have e1 : found.length - 1 + 1 = found.length := by omega
      rw [e1, e, List.getElem?_append_right (Nat.le_refl _)]
      simp
    obtain ⟨g1, g2, g3⟩ := hc _ x y h1 h2
    have hy : ¬ s x ∈ found := fun q => by
      rw [e] at hn
      have := (List.nodup_append.mp hn).2.2 (s x) q y (by simp)
      exact this g3.symm
    have hcn := h.next ⟨g1, g2⟩ hy
    rw [← g3] at hcn
    exact course_chain hn hc hw hg hs rest (found ++ [y]) y (by rw [e]; simp) hcn
theorem Circ.ch {c : List Nat} (h : Circ c) : Ch c := fun i x y hx hy => by
  have hi := (List.getElem?_eq_some_iff.mp hy).1
  exact h.go i x y hx (by rw [Nat.mod_eq_of_lt hi]; exact hy)
/-- the course of a round's number -/
theorem Circ.course {c : List Nat} (h : Circ c) {z : Nat} {l : List Nat} (e : c = z :: l) : Mi.course z = (c, some z) := by
  have hne := h.ne
  obtain ⟨w, hw⟩ : ∃ w, c.getLast? = some w := ⟨c.getLast (by intro q; rw [q] at hne; exact Nat.lt_irrefl _ hne), List.getLast?_eq_some_getLast _⟩
  have hw2 : c[c.length - 1]? = some w := by rw [← List.getLast?_eq_getElem?]; exact hw
  have hz : c[0]? = some z := by rw [e]; rfl
  have g := h.go (c.length - 1) w z hw2 (by
    have : (c.length - 1 + 1) % c.length = 0 := by
      have e1 : c.length - 1 + 1 = c.length := by omega
      rw [e1, Nat.mod_self]
    rw [this]; exact hz)
  have hs : s w = z := g.2.2.symm
  have := course_chain (z := z) h.nd h.ch hw ⟨g.1, g.2.1⟩ (by rw [hs, e]; simp) l [z] z (by rw [e]; rfl) (CI.start z)
  rw [hs] at this
  exact this
theorem Circ.course_at {c : List Nat} (h : Circ c) {z : Nat} (hz : z ∈ c) : Mi.course z = (rotTo c z, some z) := by
  obtain ⟨a, b, rfl, ha⟩ := List.eq_append_cons_of_mem hz
  exact (h.rot hz).course (l := b ++ a) (by rw [rotTo_eq ha]; simp)
/-- the round of a course -/
def circN (n y : Nat) : List Nat := (course n).1.drop (idxN (course n).1 y)
theorem circ_of {n y : Nat} (e : (course n).2 = some y) : Circ (circN n y) := by
  obtain ⟨x, SP⟩ := course_spec n
  rcases SP.fin with ⟨_, h⟩ | ⟨hx, hs, h⟩
  · rw [h] at e; cases e
  · have hy : y = s x := by rw [h] at e; exact (Option.some.inj e).symm
    have hm : y ∈ (course n).1 := by rw [hy]; exact hs
    have hk := idxN_lt hm
    have hl : (circN n y).length = (course n).1.length - idxN (course n).1 y := by unfold circN; rw [List.length_drop]
    refine ⟨by rw [hl]; omega, SP.ci.nd.sublist (List.drop_sublist _ _), fun i a b ha hb => ?_⟩
    have hi : i < (circN n y).length := (List.getElem?_eq_some_iff.mp ha).1
    rw [hl] at hi hb
    unfold circN at ha hb
    rw [List.getElem?_drop] at ha hb
    by_cases hlt : i + 1 < (course n).1.length - idxN (course n).1 y
    · rw [Nat.mod_eq_of_lt hlt] at hb
      exact SP.ch _ a b ha (by rw [Nat.add_assoc]; exact hb)
    · have e1 : i + 1 = (course n).1.length - idxN (course n).1 y := by omega
      rw [← e1, Nat.mod_self, Nat.add_zero, idxN_at hm] at hb
      have hlast := SP.ci.last
      rw [List.getLast?_eq_getElem?] at hlast
      have e2 : idxN (course n).1 y + i = (course n).1.length - 1 := by omega
      rw [e2, hlast] at ha
      have hax : x = a := Option.some.inj ha
      have hby : y = b := Option.some.inj hb
      rw [← hax, ← hby]
      exact ⟨hx.1, hx.2, hy⟩
end Mi

/-! meetings -/
namespace Mi
theorem course_head (n : Nat) : (course n).1[0]? = some n := by
  have h := (courseF_ce 20002 [n] n (by simp) (by simp)).1
  obtain ⟨t, ht⟩ := h
  have e : (course n).1 = [n] ++ t := ht.symm
  rw [e]; rfl
theorem s_zero {u : Nat} (h1 : 1 ≤ u) (h : s u = 0) : u = 1 := by
  rcases Nat.lt_or_ge 1 u with z | z
  · have hm : 1 ∈ parts u := (mem_parts (by omega)).mpr ⟨Nat.one_dvd u, z⟩
    rw [s_eq (by omega)] at h
    have hle : ∀ (l : List Nat), 1 ∈ l → 1 ≤ l.sum := fun l hl => by
      induction l with
      | nil => cases hl
      | cons a l ih =>
        rcases List.mem_cons.mp hl with q | q
        · subst q; simp
        · have := ih q; simp; omega
    have := hle _ hm
    unfold parts at this
    omega
  · omega
/-- kinds of courses -/
def Ends (n : Nat) : Prop := (course n).2 = none ∧ (course n).1.getLast? = some 0
theorem ends_one {n : Nat} (hn : 1 ≤ n) (h : Ends n) : 1 ∈ (course n).1 := by
  obtain ⟨x, SP⟩ := course_spec n
  have hl := h.2
  rw [List.getLast?_eq_getElem?] at hl
  have h0 := course_head n
  have hlen : 2 ≤ (course n).1.length := by
    rcases Nat.lt_or_ge (course n).1.length 2 with z | z
    · have e : (course n).1.length - 1 = 0 := by omega
      rw [e, h0] at hl
      have := Option.some.inj hl
      omega
    · exact z
  obtain ⟨u, hu⟩ : ∃ u, (course n).1[(course n).1.length - 2]? = some u := ⟨_, List.getElem?_eq_getElem (by omega)⟩
  have e : (course n).1.length - 2 + 1 = (course n).1.length - 1 := by omega
  obtain ⟨g1, g2, g3⟩ := SP.ch _ u 0 hu (by rw [e]; exact hl)
  have := s_zero g1 g3.symm
  subst this
  exact List.mem_of_getElem? hu
/-- a round's course is closed -/
theorem round_closed {n y z : Nat} (e : (course n).2 = some y) (hz : z ∈ (course n).1) : 1 ≤ z ∧ s z ∈ (course n).1 := by
  obtain ⟨x, SP⟩ := course_spec n
  rcases SP.fin with ⟨_, h⟩ | ⟨hx, hs, h⟩
  · rw [h] at e; cases e
  · obtain ⟨i, hi⟩ := List.mem_iff_getElem?.mp hz
    have hlt := (List.getElem?_eq_some_iff.mp hi).1
    by_cases hl : i + 1 < (course n).1.length
    · obtain ⟨v, hv⟩ : ∃ v, (course n).1[i + 1]? = some v := ⟨_, List.getElem?_eq_getElem hl⟩
      obtain ⟨g1, g2, g3⟩ := SP.ch i z v hi hv
      exact ⟨g1, by rw [← g3]; exact List.mem_of_getElem? hv⟩
    · have hlast := SP.ci.last
      rw [List.getLast?_eq_getElem?] at hlast
      have e2 : (course n).1.length - 1 = i := by omega
      rw [e2, hi] at hlast
      have : z = x := Option.some.inj hlast
      subst this
      exact ⟨hx.1, hs⟩
theorem round_ends {a b y z : Nat} (e : (course a).2 = some y) (h : Ends b) (h1 : z ∈ (course a).1) (h2 : z ∈ (course b).1) : False := by
  obtain ⟨x, SP⟩ := course_spec b
  obtain ⟨i, hi⟩ := List.mem_iff_getElem?.mp h2
  have hl := h.2
  rw [List.getLast?_eq_getElem?] at hl
  have key : ∀ (k i z : Nat), (course b).1[i]? = some z → z ∈ (course a).1 → (course b).1.length - 1 - i = k → False := fun k => by
    induction k with
    | zero =>
      intro i z hi hz hk
      have hlt := (List.getElem?_eq_some_iff.mp hi).1
      have e2 : (course b).1.length - 1 = i := by omega
      rw [e2, hi] at hl
      have : z = 0 := Option.some.inj hl
      have := (round_closed e hz).1
      omega
    | succ k ih =>
      intro i z hi hz hk
      obtain ⟨v, hv⟩ : ∃ v, (course b).1[i + 1]? = some v := ⟨_, List.getElem?_eq_getElem (by omega)⟩
      obtain ⟨_, _, g3⟩ := SP.ch i z v hi hv
      exact ih (i + 1) v hv (by rw [g3]; exact (round_closed e hz).2) (by omega)
  exact key _ i z hi h1 rfl
theorem circ_closed {c : List Nat} (h : Circ c) {z : Nat} (hz : z ∈ c) : s z ∈ c := by
  obtain ⟨i, hi⟩ := List.mem_iff_getElem?.mp hz
  obtain ⟨v, hv⟩ : ∃ v, c[(i + 1) % c.length]? = some v := ⟨_, List.getElem?_eq_getElem (Nat.mod_lt _ h.ne)⟩
  obtain ⟨_, _, g3⟩ := h.go i z v hi hv
  rw [← g3]
  exact List.mem_of_getElem? hv
def it : Nat → Nat → Nat
  | 0, z => z
  | k + 1, z => it k (s z)
theorem it_circ {c : List Nat} (h : Circ c) : ∀ (k z : Nat), z ∈ c → it k z ∈ c
  | 0, _, hz => hz
  | k + 1, z, hz => it_circ h k (s z) (circ_closed h hz)
theorem last_circ {n y x : Nat} (e : (course n).2 = some y) (hl : (course n).1.getLast? = some x) : x ∈ circN n y := by
  have hm := (course_spec n).choose_spec
  have hy : y ∈ (course n).1 := (courseF_ce 20002 [n] n (by simp) (by simp)).2 y e
  have hk := idxN_lt hy
  unfold circN
  rw [List.getLast?_eq_getElem?] at hl
  have : ((course n).1.drop (idxN (course n).1 y))[(course n).1.length - 1 - idxN (course n).1 y]? = some x := by
    rw [List.getElem?_drop]
    have e2 : idxN (course n).1 y + ((course n).1.length - 1 - idxN (course n).1 y) = (course n).1.length - 1 := by omega
    rw [e2]; exact hl
  exact List.mem_of_getElem? this
theorem it_reach {n y : Nat} (e : (course n).2 = some y) : ∀ (d i z k : Nat), (course n).1[i]? = some z → (course n).1.length - 1 - i = d → d ≤ k → it k z ∈ circN n y
  | 0, i, z, k, hi, hd, _ => by
    have hlt := (List.getElem?_eq_some_iff.mp hi).1
    have e2 : (course n).1.length - 1 = i := by omega
    exact it_circ (circ_of e) k z (last_circ e (by rw [List.getLast?_eq_getElem?, e2]; exact hi))
  | d + 1, i, z, k, hi, hd, hk => by
    obtain ⟨x, SP⟩ := course_spec n
    obtain ⟨v, hv⟩ : ∃ v, (course n).1[i + 1]? = some v := ⟨_, List.getElem?_eq_getElem (by omega)⟩
    obtain ⟨_, _, g3⟩ := SP.ch i z v hi hv
    obtain ⟨j, rfl⟩ : ∃ j, k = j + 1 := ⟨k - 1, by omega⟩
    show it j (s z) ∈ _
    rw [← g3]
    exact it_reach e d (i + 1) v j hv (by omega) (by omega)
theorem circ_sub {n y z : Nat} (h : z ∈ circN n y) : z ∈ (course n).1 := List.mem_of_mem_drop h
theorem rounds_meet {a b u v : Nat} (ea : (course a).2 = some u) (eb : (course b).2 = some v) : turnedN (circN a u) = turnedN (circN b v) ↔ ∃ z, 0 < z ∧ z ∈ (course a).1 ∧ z ∈ (course b).1 := by
  have ca := circ_of ea
  have cb := circ_of eb
  constructor
  · intro h
    have hp : (circN a u).Perm (circN b v) := (rotTo_perm (circN a u) _).symm.trans (by
      show (turnedN (circN a u)).Perm _
      rw [h]
      exact rotTo_perm _ _)
    obtain ⟨z, hz⟩ : ∃ z, z ∈ circN a u := ⟨_, List.getElem_mem ca.ne⟩
    exact ⟨z, (round_closed ea (circ_sub hz)).1, circ_sub hz, circ_sub (hp.mem_iff.mp hz)⟩
  · rintro ⟨z, _, h1, h2⟩
    obtain ⟨i, hi⟩ := List.mem_iff_getElem?.mp h1
    obtain ⟨j, hj⟩ := List.mem_iff_getElem?.mp h2
    have w1 := it_reach ea _ i z ((course a).1.length + (course b).1.length) hi rfl (by omega)
    have w2 := it_reach eb _ j z ((course a).1.length + (course b).1.length) hj rfl (by omega)
    have e1 := ca.course_at w1
    have e2 := cb.course_at w2
    rw [e1] at e2
    have e3 := (Prod.mk.inj e2).1
    rw [← turned_rot ca.nd w1, ← turned_rot cb.nd w2, e3]
/-- the first common number -/
def meetP (b z : Nat) : Bool := decide (0 < z) && decide (z ∈ (course b).1)
def meetN (a b : Nat) : Option Nat := (course a).1.find? (meetP b)
theorem meet_some {a b : Nat} : (meetN a b).isSome = true ↔ ∃ z, 0 < z ∧ z ∈ (course a).1 ∧ z ∈ (course b).1 := by
  unfold meetN
  rw [List.find?_isSome]
  constructor
  · rintro ⟨z, hz, h⟩
    unfold meetP at h
    rw [Bool.and_eq_true, decide_eq_true_eq, decide_eq_true_eq] at h
    exact ⟨z, h.1, hz, h.2⟩
  · rintro ⟨z, h1, h2, h3⟩
    exact ⟨z, h2, by unfold meetP; rw [Bool.and_eq_true, decide_eq_true_eq, decide_eq_true_eq]; exact ⟨h1, h3⟩⟩
theorem meet_comm (a b : Nat) : (meetN a b).isSome = (meetN b a).isSome := by
  rw [Bool.eq_iff_iff, meet_some, meet_some]
  exact ⟨fun ⟨z, a, b, c⟩ => ⟨z, a, c, b⟩, fun ⟨z, a, b, c⟩ => ⟨z, a, c, b⟩⟩
theorem meet_self {a : Nat} (h : 1 ≤ a) : meetN a a = some a := by
  unfold meetN
  have h0 := course_head a
  cases e : (course a).1 with
  | nil => rw [e] at h0; cases h0
  | cons x l =>
    rw [e] at h0
    have : x = a := by simpa using h0
    subst this
    rw [List.find?_cons]
    have : meetP x x = true := by
      unfold meetP
      rw [e, Bool.and_eq_true, decide_eq_true_eq, decide_eq_true_eq]
      exact ⟨h, by simp⟩
    rw [this]
end Mi

/-! xs[i] += e -/
namespace Dw
open PySem PySem.Spec PyProof.Rows L2
def rGetN (K : PySem.W.Frag) : V → V → Hp → VK → Prop := fun o i H Q => ∃ (p : Addr) (xs : List V) (j : Nat) (z : V), o = .ref p ∧ i = .int (j : Int) ∧ SqL K H p xs ∧ xs[j]? = some z ∧ Q z H
theorem get_list {X : Cx} : PGet X (rGetN X.K) := fun pins s σ H o i ov iv Q I ro ri h => by
  obtain ⟨p, xs, j, z, rfl, rfl, hq, he, q⟩ := h
  cases ro
  obtain ⟨t, rfl⟩ := ri
  obtain ⟨its, r, pl, hz⟩ := I.list hq
  obtain ⟨w, ew, rw'⟩ := r.get he
  have hl := r.length
  have hj : j < its.length := (List.getElem?_eq_some_iff.mp ew).1
  have hn : its.length ≤ sizeLine := by rw [← hl]; exact hz
  exact wpAny_getItem_list pl.isList (by omega) (by have := line63; omega) (by simpa using ew) ⟨z, H, I, rw', q⟩
section
variable {X : Cx} {B P0 H0 : Hp} {W : List (Addr × Ob)} {ρ : List Sl} {b e : Expr} {pos p1 tp : Pos} {D : Ends} {rest : List Stmt} {x : Str} {ds : List PyData} {p : Addr}
theorem g_augI (i k : Nat) {j : Nat} {u v : Int} (hb : DE X B P0 H0 W ρ false b (.int (j : Int))) (he : DE X B P0 H0 W ρ false e (.int v)) (hj : ds[j]? = some (.int u)) (kk : G X B P0 H0 (W.set k (p, .lst (ds.set j (.int (u + v))))) ρ rest D) (hρ : ρ[i]? = some (.raw (.ref p)) := by rfl) (hW : W[k]? = some (p, .lst ds) := by rfl) (hN : X.N[i]? = some x := by rfl)
    (hv : Vis X.env.scope x := by first | exact Or.inl rfl | exact Or.inr (Or.inl rfl) | exact Or.inr (Or.inr rfl)) (hd : (x == ("__debug__" : Str)) = false := by decide) (hcd : (x == ("__classdict__" : Str)) = false := by decide)
    (ha : ∀ ov iv new, augStore b ov iv new = (do holding [new, ov, iv] (setItem ov iv new); release [new, ov, iv] []; pure .next) := by intros; rfl) : G X B P0 H0 W ρ (.AugAssign (.Subscript (.Name x p1) b tp) .Add e pos :: rest) D := fun σ P H S => by
  obtain ⟨x', e1, e2⟩ := S.sl i _ hρ
  obtain rfl : x' = some (.ref p) := e2
  refine ⟨_, pss_cons (ps_augS (pe_var hN hv hd hcd) pe_u get_list pe_u ip_add set_list ha) pss_u, _, e1, hb σ P H S _ fun w P1 H1 g1 k1 => ?_⟩
  cases k1
  have S1 := S.grow g1
  obtain ⟨_, xs, x1, x2⟩ := S1.own _ (List.mem_of_getElem? hW)
  obtain ⟨z, z1, z2⟩ := x2.get hj
  cases z2
  refine ⟨p, xs, j, _, rfl, rfl, SqL.of x1, z1, he σ P1 H1 S1 _ fun w2 P2 H2 g2 k2 => ?_⟩
  cases k2
  have S2 := S1.grow g2
  obtain ⟨_, ys, y1, y2⟩ := S2.own _ (List.mem_of_getElem? hW)
  have hjl : j < ys.length := by
    rw [y2.len]
    exact (List.getElem?_eq_some_iff.mp hj).1
  refine ⟨u, v, rfl, rfl, p, ys, _, j, rfl, rfl, y1, ixN_nat hjl, ?_⟩
  exact kk σ P2 _ (S2.write k hW ⟨_, upd_same, y2.set (.int (u + v)) j⟩ fun c q => by rw [y1]; exact code_lst)
end
end Dw

/-! enumerate(tuple) -/
namespace Dw
open PySem PySem.Spec PyProof.Rows L2
theorem meets_enum_newB {v : Value} {o : Obj} {H : Heap → Prop} (B : Begins v o H) :
    Meets (Builtin.«enumerate.__new__» ⟨[.type "enumerate", v], []⟩) (fun _ R s => H s.heap ∧
      R (.ok (.ret (.ref (s.heap.push o).objs.size)))
        { s with heap := (s.heap.push o).push { cls := .type "enumerate", data := .fields #[.none, .bool false, .ref s.heap.objs.size, rawInt 0, .none, .none] } }) :=
  .of_wp fun prog w A R s h => by
    obtain ⟨hp, g, d, tk, os⟩ := s; obtain ⟨hl, h⟩ := h
    have hsub := sub_enumerate
    have q1 : ∀ {A' : Around} {E : Value → Shared → Prop} {Q : Value → Shared → Prop}, Q (.ref hp.objs.size) ⟨(hp.push o), g, d, tk, os⟩ → wpAny (model prog w) A' (pyIter v) Q E ⟨hp, g, d, tk, os⟩ :=
      fun q => B.iter prog w _ _ ⟨hp, g, d, tk, os⟩ _ hl q
    wp_walk using q1
    refine wpAny_stack_any fun st => wpAny_pure ?_
    split
    · rename_i c _ _ _ _ _
      cases (c == Value.type "enumerate")
      · wp_walk using q1
        exact ⟨_, rfl, h⟩
      · wp_walk using q1
        exact ⟨_, rfl, h⟩
    · wp_walk using q1
      exact ⟨_, rfl, h⟩
theorem call_enumB {prog : Program} {w : World} {A : Around} {E : Value → Shared → Prop} {s : Shared} {v : Value} {o : Obj} {H : Heap → Prop} {Q : Value → Shared → Prop} (B : Begins v o H) (hL : H s.heap)
    (h : ∀ h', IsEnum h' (s.heap.objs.size + 1) s.heap.objs.size 0 .none → h'.get? s.heap.objs.size = some o → h'.objs.size = s.heap.objs.size + 2 →
      (∀ b o, s.heap.get? b = some o → h'.get? b = some o) → Q (.ref (s.heap.objs.size + 1)) { s with heap := h' }) :
    wpAny (model prog w) A (call (.type "enumerate") [v]) Q E s := by
  refine callType_new F.called_enumerate (by decide) (F.typeCall_enumerate_1 _) (F.newCall_enumerate_1 _) (fun obj => F.args_object_init_2 obj _) F.entry_enumerate_new
    (meets_enum_newB B) ⟨hL, ?_⟩
  have hz : (s.heap.push o).objs.size = s.heap.objs.size + 1 := Heap.size_push ..
  show _ ∧ _
  rw [hz]
  have he : IsEnum ((s.heap.push o).push
      { cls := .type "enumerate", data := .fields #[.none, .bool false, .ref s.heap.objs.size, rawInt 0, .none, .none] }) (s.heap.objs.size + 1) s.heap.objs.size 0 .none := by
    have := Heap.get?_push_size (s.heap.push o)
      (o := { cls := .type "enumerate", data := .fields #[.none, .bool false, .ref s.heap.objs.size, rawInt 0, .none, .none] }) rfl
    rw [hz] at this; exact this
  refine ⟨⟨_, he, rfl⟩, h _ he (Heap.get?_push_of_some _ (Heap.get?_push_size _ B.free)) (by rw [Heap.size_push, hz]) fun b o x => Heap.get?_push_of_some _ (Heap.get?_push_of_some _ x)⟩
/-- the tuple at a, each item in a new pair -/
def IteT (K : PySem.W.Frag) (a : Addr) : It :=
  ⟨fun i H => ∃ (xs : List V) (x : V), SqT K H a xs ∧ xs[i]? = some x, fun i H v H' => ∃ T x, v = .ref T ∧ H T = none ∧ H' = upd H T (.tup [.int (i : Nat), x]) ∧ ∀ xs, SqT K H a xs → xs[i]? = some x, fun i H => ∃ xs : List V, SqT K H a xs ∧ xs.length = i⟩
theorem turn_enumT {P : Program} {w : World} {K : PySem.W.Frag} {elts : List Expr} {kk : Nat} {tpos : Pos} (a e it : Addr) (hne : e ≠ it) (hea : a ≠ e) (hia : a ≠ it) :
    Turn P w K (.Tuple elts kk tpos) (IteT K a) [e, it] e (fun i h => (∃ old, IsEnum h e it ((i : Nat) : Int) old) ∧ h.IsTupleIter it a i) where
  mem := by simp
  obj := fun i h st b hb => by
    obtain ⟨⟨old, he⟩, ⟨o, ho, hc, hd⟩⟩ := st
    have e' : b = e ∨ b = it := by simpa using hb
    rcases e' with z | z
    · rw [z]; exact ⟨_, he, fun v q => nomatch q⟩
    · rw [z]; exact ⟨o, ho, fun v q => by rw [hd] at q; cases q⟩
  keep := fun i h h' st k => let ⟨⟨old, he⟩, hi⟩ := st; ⟨⟨old, k e (by simp) _ he⟩, hi.at fun o q => k it (by simp) o q⟩
  item := by
    intro X hP hw hK hc i pins s σ H E I hf st hg
    subst hP hw hK
    obtain ⟨⟨old, he⟩, hit⟩ := st
    obtain ⟨xs, x, hq, hx⟩ := hg
    obtain ⟨its, rv, p, hz⟩ := I.tuple hq
    obtain ⟨u, hu, ru⟩ := rv.get hx
    have hel : e < s.heap.objs.size := Heap.lt_size he
    have hil : it < s.heap.objs.size := by obtain ⟨_, q, _⟩ := hit; exact Heap.lt_size q
    have D := Draws.tuple (prog := X.prog) (w := X.w) (A := X.A.in1) (I.ok.hd hc) it a hia its.toArray
    have hlt : i < its.toArray.size := by have := (List.getElem?_eq_some_iff.mp hu).1; simpa using this
    refine wpAny_pyNext_enum_itemD D he ⟨hit, p⟩ hlt hne (by simp [hne, Ne.symm hea]) fun x' h' tk hx' ho hst' hT hsz hk => ?_
    obtain ⟨hit', hp'⟩ := hst'
    have ex : x' = u := by
      have h1 : its.toArray[i]? = some x' := hx'
      have h2 : its[i]? = some x' := by simpa using h1
      rw [hu] at h2
      exact (Option.some.inj h2).symm
    subst ex
    refine ⟨_, rfl, wpAny_letOwnedTupleGo_enum (s := { s with heap := h', toks := tk + 1 }) ho fun h'' he' sb => ?_⟩
    have hT2 : h''.get? s.heap.objs.size = some { cls := .type "tuple", data := .seq #[.int i tk, x'] } := (sb.2 _ (Nat.ne_of_gt hel)).trans hT
    have new : ObjOk X.prog X.w (upd H s.heap.objs.size (.tup [.int (i : Nat), x])) h'' s.heap.objs.size (.tup [.int (i : Nat), x]) :=
      ⟨by show 2 ≤ sizeLine; decide, [.int i tk, x'], .cons ⟨_, rfl⟩ (.cons ru .nil), ⟨_, hT2, rfl, _, rfl⟩⟩
    have I1 : Inv X pins σ (upd H s.heap.objs.size (.tup [.int (i : Nat), x])) { s with heap := h'', toks := tk + 1 } :=
      I.turnedNew (ch := [e, it]) (fun b ob hb q => (sb.2 b (fun z => hb (by simp [z]))).trans (hk b ob (fun z => hb (by simp [z])) (fun z => hb (by simp [z])) q)) hf (Nat.le_refl _) new
    refine ⟨.ref s.heap.objs.size, _, I1, rfl, ⟨_, x, rfl, I.hok.fresh (Nat.le_refl _), rfl, fun ys hy => by rw [I.tuple_inj hy hq]; exact hx⟩, ⟨⟨x', ?_⟩, hit'.at fun o q => (sb.2 it (Ne.symm hne)).trans q⟩, fun b hb => ?_⟩
    · have e1 : ((i + 1 : Nat) : Int) = (i : Int) + 1 := by omega
      rw [e1]; exact he'
    · have hb' : b < s.heap.objs.size := by
        have e' : b = e ∨ b = it := by simpa using hb
        rcases e' with z | z
        · rw [z]; exact hel
        · rw [z]; exact hil
      rw [upd_ne (Nat.ne_of_lt hb')]
      exact (hf b hb).1
  done := by
    intro X hP hw hK hc i pins s σ H E I hf st hg
    subst hP hw hK
    obtain ⟨⟨old, he⟩, hit⟩ := st
    obtain ⟨xs, hq, hx⟩ := hg
    obtain ⟨its, rv, p, hz⟩ := I.tuple hq
    obtain ⟨f0, f1, f2, f3, f4, f5⟩ := hf it (by simp)
    have hl := rv.length
    have D := Draws.tuple (prog := X.prog) (w := X.w) (A := X.A.in1) (I.ok.hd hc) it a hia its.toArray
    have hi : i = its.toArray.size := by simp; omega
    subst hi
    exact wpAny_pyNext_enum_endD D he ⟨hit, p⟩ fun h' eb => ⟨rfl, I.turned (t' := s.toks) (fun b o hb q => eb b o hb q) f0 f1 f3 f4 f5⟩
  self := fun A i s Q E st h => let ⟨⟨_, he⟩, _⟩ := st; wpAny_pyIter_enum he h
def iEnumT (K : PySem.W.Frag) (ta : TA) : TI := fun σ H R => ta σ H fun vs H1 => ∃ a xs, vs = [.ref a] ∧ SqT K H1 a xs ∧ R (IteT K a) H1
theorem pi_enumT {X : Cx} {e : Expr} {ta : TA} {p pos tpos : Pos} {elts : List Expr} {kk : Nat} (hg : Gl X "enumerate") (hm : X.mg "enumerate" = none) (ha : PA X [e] ta) (hs : starEach [e] X.env = [(false, eval e X.env)] := by rfl) :
    PI X (.Tuple elts kk tpos) (.Call (.Name "enumerate" p) [e] [] pos) (iEnumT X.K ta) := by
  refine ⟨fun pins s σ H R I h => ?_⟩
  refine Call_ (ld_blt I hg hm boot_enumerate (PyProof.Rows.callWith_type1 (thn (ha.run pos pins s σ H _ I h) fun us s1 ⟨vs, H1, I1, r1, q1⟩ => ?_) hs rfl))
  obtain ⟨a, xs, ex, hq, q⟩ := q1
  subst ex
  cases r1 with
  | cons r rr =>
    cases rr
    cases r
    obtain ⟨its, rv, p', hz⟩ := I1.tuple hq
    have p'' : s1.heap.IsTuple a its.toArray := p'
    have hal : a < s1.heap.objs.size := by obtain ⟨_, y, _⟩ := p''; exact Heap.lt_size y
    refine call_enumB (begins_tuple a its.toArray) p'' fun h' he hit hsz hk => wpAny_pyIter_enum he ?_
    have I2 : Inv X pins σ H1 { s1 with heap := h' } := I1.kept (t' := s1.toks) hk
    refine ⟨s1.heap.objs.size + 1, [s1.heap.objs.size + 1, s1.heap.objs.size], _, _, H1, rfl, I2, turn_enumT a (s1.heap.objs.size + 1) s1.heap.objs.size (Nat.succ_ne_self _) (Nat.ne_of_lt (Nat.lt_succ_of_lt hal)) (Nat.ne_of_lt hal), ⟨⟨.none, he⟩, ⟨_, hit, rfl, rfl⟩⟩, fun b hb => ?_, q⟩
    have e' : b = s1.heap.objs.size + 1 ∨ b = s1.heap.objs.size := by simpa using hb
    have hle : s1.heap.objs.size ≤ b := by
      rcases e' with z | z
      · rw [z]; exact Nat.le_add_right _ _
      · rw [z]; exact Nat.le_refl _
    exact I1.fpOk hle (I1.hok.fresh hle)
theorem walk_enumT {K : PySem.W.Frag} {a : Addr} {xs : List V} : Walk (IteT K a) xs.length (fun H => SqT K H a xs) (YPair (fun i => some (.int (i : Nat))) (fun i => xs[i]?)) := by
  refine ⟨fun i _ hi q => ⟨xs, xs[i], q, by simp [hi]⟩, fun _ q => ⟨xs, q, rfl⟩, fun i H v H' _ q y => ?_⟩
  obtain ⟨T, x, h1, h2, h3, h4⟩ := y
  exact ⟨T, .int (i : Nat), x, h1, h2, h3, rfl, h4 xs q⟩
section
variable {X : Cx} {B : Hp} {P0 H0 : Hp} {W : List (Addr × Ob)} {ρ : List Sl} {e : Expr} {p1 p2 : Pos}
theorem di_enumT {ds : List PyData} {elts : List Expr} {kk : Nat} {tpos : Pos} (hm : X.mg "enumerate" = Option.none) (he : DE X B P0 H0 W ρ true e (.tuple ds)) (hg : Gl X "enumerate" := by rfl) (hs1 : starEach [e] X.env = [(false, eval e X.env)] := by rfl) :
    DI X B P0 H0 W ρ (.Tuple elts kk tpos) (.Call (.Name "enumerate" p1) [e] [] p2) (enumD ds) := ⟨_, pi_enumT hg hm (pa_cons pe_u pa_nil hs1) hs1, fun σ P H S R q => he σ P H S _ fun v P1 H1 g1 k1 => by
  cases k1 with
  | @tup l xs _ hl ha =>
    have gr := S.gr.trans g1
    have hn := DqAll.len ha
    have hn2 : (enumD ds).length = xs.length := by unfold enumD; rw [List.length_map, List.length_range, hn]
    refine ⟨l, xs, rfl, SqT.of (gr.ph _ _ hl), q _ P1 H1 g1 ⟨_, fun H => SqT X.K H l xs, by rw [hn2]; exact walk_enumT, fun H sm => SqT.of (sm _ _ hl), fun i P2 H2 x H3 hi s1 s2 y => ?_⟩⟩
    obtain ⟨T, u, w, rfl, hT, rfl, h1, h2⟩ := y
    cases h1
    obtain ⟨d, h3, h4⟩ := DqAll.get' ha h2
    have hi' : i < ds.length := (List.getElem?_eq_some_iff.mp h3).1
    refine ⟨upd P2 T (.tup [.int (i : Nat), w]), .tuple [.int (i : Nat), d], ?_, Gr.new s2 hT, .tup upd_same (.cons (.int _) (.cons (dq_mono (s1.trans (same_new (s2.free hT))) _ _ h4) .nil))⟩
    unfold enumD
    rw [List.getElem?_map, List.getElem?_range hi']
    have e : ds.getD i .none = d := by rw [List.getD_eq_getElem?_getD, h3]; rfl
    show some (PyData.tuple [.int (i : Nat), ds.getD i .none]) = _
    rw [e]⟩
end
end Dw

namespace Dw
open PySem PySem.Spec PyProof.Rows L2
section
variable {X : Cx} {B P0 H0 : Hp} {W : List (Addr × Ob)} {ρ : List Sl} {c : Expr} {pos : Pos} {D : Ends} {rest body els : List Stmt}
/-- if, both ways joined behind it at some t -/
theorem g_ifJA {α : Type} {Ψ : Bool → Prop} (Iv : α → Prop) (ρf : α → List Sl) (hc : DVT X B P0 H0 W ρ c Ψ) (h1 : (∀ (t : α) {ρ' : List Sl}, Iv t → Fg (ρf t) ρ' → G X B P0 H0 W ρ' [] (Ends.to D X rest)) → Ψ true → G X B P0 H0 W ρ body (Ends.to D X rest)) (h2 : (∀ (t : α) {ρ' : List Sl}, Iv t → Fg (ρf t) ρ' → G X B P0 H0 W ρ' [] (Ends.to D X rest)) → Ψ false → G X B P0 H0 W ρ els (Ends.to D X rest)) (kr : ∀ t, Iv t → G X B P0 H0 W (ρf t) rest D) : G X B P0 H0 W ρ (.If c body els pos :: rest) D :=
  g_ifV hc (h1 fun t _ hi hf => g_to (g_fg hf (kr t hi))) (h2 fun t _ hi hf => g_to (g_fg hf (kr t hi)))
/-- a roll compared with a number -/
theorem dvt_eqV {a b : Expr} {I : Int → Prop} {j : Int} (ha : DV X B P0 H0 W ρ a (fun d => ∃ i, d = .int i ∧ I i)) (hb : DE X B P0 H0 W ρ true b (.int j)) (hm : behindInMarks .Eq b = false := by rfl) : DVT X B P0 H0 W ρ (.Compare a [.Eq] [b] pos) (fun k => ∃ i, I i ∧ k = decide (i = j)) :=
  dvt_cmp op_eq ha (dv_de hb) (fun d1 d2 ⟨i, e1, h1⟩ e2 => by
    subst e1 e2
    exact ⟨_, ⟨i, h1, rfl⟩, od_eqI⟩) hm
theorem g_mark {B' : Hp} (h : Same B B') (k : G X B P0 H0 W ρ rest D) : G X B' P0 H0 W ρ rest D := fun σ P H S => k σ P H (S.mark (h.trans S.sb))
end
end Dw

namespace Dw
open PySem PySem.Spec PyProof.Rows L2
/-! list.count of data -/
def rCountD (K : PySem.W.Frag) : V → List V → Hp → VK → Prop := fun x xs H Q => ∃ (a : Addr) (y : V) (d : PyData) (ds : List PyData), x = V.ref a ∧ xs = [y] ∧ Dp K H (V.ref a) (.list ds) ∧ Dp K H y d ∧ SeqAt.shaped (.list ds) = true ∧ SeqAt.shaped d = true ∧ Q (.int (ds.countP fun z => PyData.eqv z d : Nat)) H
theorem mt_countD {X : Cx} (hu : X.A.units + 65 < cLine) : MtR X "list.count" (rCountD X.K) := by
  intro pins s σ H x xs v us Q I rx rxs h
  obtain ⟨a, y, d, ds, rfl, rfl, hl, hy, sl, sd, q⟩ := h
  cases rx
  cases rxs with
  | cons ry rt =>
    rename_i uy ut
    cases rt
    obtain ⟨bs, r1⟩ := Dp.reads I d y uy hy ry
    have hxs : PyData.canLayAll0 ds = true := SeqAt.canLay_of_shaped sl
    have hroom : X.A.units + 1 + min (PyData.depthAll ds) d.depth < cLine := room_in_shaped sd hu
    cases hl with
    | lst hs ha =>
      obtain ⟨its, rv, ⟨⟨cls, dd, data, sls⟩, n, ho, hc, hdn, hdt⟩, hlen⟩ := I.list hs
      simp only at hc hdt
      subst hc hdt
      obtain ⟨as, h4⟩ := Dp.readsAll I ds _ its ha rv
      have hmap : its.map (SeqAt.readOf s.heap) = ds := SeqAt.readsAll_map ds its as hxs h4
      refine call_meets PySem.F.slot_list_count ⟨_, ho, rfl⟩ PySem.F.entry_list_count (PySem.F.args_list_count_2 _ _)
        (SeqAt.list_countAt a its.toArray n dd sls uy (fun u => PyData.eqv (SeqAt.readOf s.heap u) d)) ⟨ho, SeqAt.items_eqAt (vs := its.toArray) (show ReadsAll s.heap its.toArray.toList ds as from h4) r1 hxs (SeqAt.canLay_of_shaped sd) hroom, ?_⟩
      have ec : its.toArray.toList.countP (fun u => PyData.eqv (SeqAt.readOf s.heap u) d) = ds.countP (fun z => PyData.eqv z d) := by
        rw [← hmap, List.countP_map]
        rfl
      refine ⟨.int (ds.countP fun z => PyData.eqv z d : Nat), H, I.tok _, ⟨s.toks, ?_⟩, q⟩
      show Value.int ((its.toArray.toList.countP _ : Nat) : Int) s.toks = Value.int _ s.toks
      rw [ec]
section
variable {X : Cx} {B P0 H0 : Hp} {W : List (Addr × Ob)} {ρ : List Sl} {m m1 m2 : Bool} {a b c e o tg : Expr} {es : List Expr} {pos p1 p2 p3 p4 apos cpos : Pos} {d d1 d2 : PyData} {ds es' : List PyData} {D : Ends} {rest : List Stmt} {x y : Str}
theorem md_countD : MtD P0 H0 m1 m2 m (rCountD X.K) (.list ds) [d] (.int (ds.countP fun z => PyData.eqv z d : Nat)) ∨ True := .inr trivial
theorem md_count' (s1 : SeqAt.shaped (.list ds) = true) (s2 : SeqAt.shaped d = true) : MtD P0 H0 m1 m2 m (rCountD X.K) (.list ds) [d] (.int (ds.countP fun z => PyData.eqv z d : Nat)) := fun P H e0 gr v vs k1 k2 Q q => by
  cases k2 with
  | cons k2 kn =>
    cases kn
    have k1' := Dq.dp (K := X.K) _ _ (SeqAt.canLay_of_shaped s1) (dq_mono (vw_hp e0 gr) _ _ k1)
    cases k1 with
    | lst h ha => exact ⟨_, _, d, ds, rfl, rfl, k1', Dq.dp _ _ (SeqAt.canLay_of_shaped s2) (dq_mono (vw_hp e0 gr) _ _ k2), s1, s2, q _ P H (Gr.refl gr.ph) (.int _)⟩
/-- xs.count(y) -/
theorem de_countD (hu : X.A.units + 65 < cLine) (ho : DE X B P0 H0 W ρ false o (.list ds)) (he : DE X B P0 H0 W ρ false e d) (s1 : SeqAt.shaped (.list ds) = true) (s2 : SeqAt.shaped d = true)
    (hbase : attributeBase o "count" X.env (eval o X.env) = eval o X.env := by rfl)
    (hfew : ((backTo cpos (starEach [e] X.env)).all (fun x => !x.1) && (backToKw cpos (keywordEach [] X.env)).all (fun x => x.1.isSome)
      && decide ([e].length + ([] : List Keyword).length + (if ([] : List Keyword).isEmpty then 0 else 1) < 30)) = true := by rfl)
    (hline : (apos.endLine == cpos.line) = true := by rfl) (hs : starEach [e] X.env = (false, eval e X.env) :: starEach [] X.env := by rfl) (hplain : (backTo cpos (starEach [] X.env)).any (·.1) = false := by rfl) :
    DE X B P0 H0 W ρ m (.Call (.Attribute o "count" apos) [e] [] cpos) (.int (ds.countP fun z => PyData.eqv z d : Nat)) :=
  de_bm (m1 := false) (m2 := false) (d1 := .list ds) PySem.F.plainAttrs_list PySem.F.slot_list_count PySem.F.type_list_count (mt_countD hu) ho (da_cons he da_nil hs) (fun H v h => tyL X.K H v h) (md_count' s1 s2) hbase hfew hline hs hplain
/-! is of bools -/
theorem od_isB {k l : Bool} : OpD P0 H0 m1 m2 m rIsB (.bool k) (.bool l) (.bool (decide (k = l))) := fun P H e0 gr v w k1 k2 Q q => by
  cases k1
  cases k2
  exact ⟨_, _, rfl, rfl, q _ P H (Gr.refl gr.ph) (.bl _)⟩
theorem od_notB {k l : Bool} : OpD P0 H0 m1 m2 m rNotB (.bool k) (.bool l) (.bool (!decide (k = l))) := fun P H e0 gr v w k1 k2 Q q => by
  cases k1
  cases k2
  exact ⟨_, _, rfl, rfl, q _ P H (Gr.refl gr.ph) (.bl _)⟩
theorem dt_notB {k l : Bool} (ha : DE X B P0 H0 W ρ false a (.bool k)) (hb : DE X B P0 H0 W ρ false b (.bool l)) (hm : behindInMarks .IsNot b = false := by rfl) : DT X B P0 H0 W ρ (.Compare a [.IsNot] [b] pos) (!decide (k = l)) := dt_cmp op_notBl ha hb od_notB hm
/-! tuples of ints: < -/
theorem od_ltT {ns ms : List Int} : OpD P0 H0 m1 m2 m (rLtT X.K) (.tuple (ns.map .int)) (.tuple (ms.map .int)) (.bool (HT.lexLt ns ms)) := fun P H e0 gr v w k1 k2 Q q => by
  cases k1 with
  | tup h1 a1 =>
    cases k2 with
    | tup h2 a2 =>
      have e1 := a1.ints
      have e2 := a2.ints
      subst e1 e2
      exact ⟨_, _, ns, ms, rfl, rfl, SqT.of (vw_hp e0 gr _ _ h1), SqT.of (vw_hp e0 gr _ _ h2), q _ P H (Gr.refl gr.ph) (.bl _)⟩
theorem dt_ltT {ns ms : List Int} (hu : X.A.units < cLine) (ha : DE X B P0 H0 W ρ false a (.tuple (ns.map .int))) (hb : DE X B P0 H0 W ρ false b (.tuple (ms.map .int))) (hm : behindInMarks .Lt b = false := by rfl) : DT X B P0 H0 W ρ (.Compare a [.Lt] [b] pos) (HT.lexLt ns ms) := dt_cmp (op_ltT hu) ha hb od_ltT hm
/-! reversed(list) -/
theorem di_revL (hm : X.mg "reversed" = Option.none) (he : DE X B P0 H0 W ρ true e (.list ds)) (hg : Gl X "reversed" := by rfl) (hs : starEach [e] X.env = [(false, eval e X.env)] := by rfl) :
    DI X B P0 H0 W ρ tg (.Call (.Name "reversed" p1) [e] [] p2) ds.reverse := ⟨_, pi_reversed hg hm (pa_cons pe_u pa_nil hs) hs, fun σ P H S R q => he σ P H S _ fun v P1 H1 g1 k1 => by
  cases k1 with
  | @lst l xs _ hl ha =>
    have gr := S.gr.trans g1
    have hn := DqAll.len ha
    refine ⟨l, xs, rfl, SqL.of (gr.ph _ _ hl), q _ P1 H1 g1 ⟨_, fun H => SqL X.K H l xs, by rw [List.length_reverse, ← hn]; exact walk_rev, fun H sm => SqL.of (sm _ _ hl), fun i P2 H2 x H3 hi s1 s2 y => ?_⟩⟩
    obtain ⟨rfl, hx⟩ := y
    obtain ⟨d, h1, h2⟩ := DqAll.get' ha hx
    rw [List.length_reverse] at hi
    refine ⟨P2, d, ?_, Gr.refl s2, dq_mono s1 _ _ h2⟩
    rw [List.getElem?_reverse hi, ← hn]
    exact h1⟩
/-! e[::-1] -/
theorem de_revL {k : Nat} (ha : DE X B P0 H0 W ρ m a (.list ds)) : DE X B P0 H0 W ρ m (.Subscript a (.Slice none none (some (.UnaryOp .USub (.Constant (.int 1) k p1) p2)) p3) pos) (.list ds.reverse) := fun σ P H S Q q =>
  ⟨_, pe_revL pe_u, ha σ P H S _ fun v P1 H1 g1 k1 => by
    have gr := S.gr.trans g1
    cases k1 with
    | lst h ha' => exact ⟨_, _, rfl, SqL.of (vw_hp S.e0 gr _ _ h), new_lst gr ha'.rev fun z P4 H4 g4 k4 => q z P4 H4 (g1.trans g4) k4⟩⟩
end
/-! one's own list, written no more -/
theorem ObAt.same {P P' H : Hp} (e : Same P P') {a : Addr} {o : Ob} (h : ObAt P H a o) : ObAt P' H a o := by
  cases o with
  | lst ds =>
    obtain ⟨xs, h1, h2⟩ := h
    exact ⟨xs, h1, dqAll_mono e _ _ h2⟩
  | raw o => exact h
  | vol => exact h
  | tab q => exact h
theorem erase_ne {W : List (Addr × Ob)} {k : Nat} {p : Addr} {o : Ob} (nd : (W.map (·.1)).Nodup) (hW : W[k]? = some (p, o)) {r : Addr × Ob} (h : r ∈ W.eraseIdx k) : r ∈ W ∧ r.1 ≠ p := by
  rw [List.mem_eraseIdx_iff_getElem?] at h
  obtain ⟨i, hi, e⟩ := h
  refine ⟨List.mem_of_getElem? e, fun z => hi ?_⟩
  have h1 : (W.map (·.1))[i]? = some p := by rw [List.getElem?_map, e, ← z]; rfl
  have h2 : (W.map (·.1))[k]? = some p := by rw [List.getElem?_map, hW]; rfl
  obtain ⟨hl, _⟩ := List.getElem?_eq_some_iff.mp h1
  exact (List.getElem?_inj hl nd).mp (h1.trans h2.symm)
section
variable {X : Cx} {B P0 H0 : Hp} {W : List (Addr × Ob)} {ρ : List Sl} {ds : List PyData} {D : Ends} {rest : List Stmt}
theorem Sat.freeze {σ : L2.St} {P H : Hp} (S : Sat B P0 H0 W ρ σ P H) (i k : Nat) {p : Addr} (hW : W[k]? = some (p, .lst ds)) (hρ : ρ[i]? = some (.raw (.ref p))) : ∃ P', Sat B P0 H0 (W.eraseIdx k) (ρ.set i (.dat (.list ds))) σ P' H ∧ Same P P' := by
  obtain ⟨h1, xs, h2, h3⟩ := S.own _ (List.mem_of_getElem? hW)
  have hf := S.fr _ (List.mem_of_getElem? hW)
  have sn : Same P (upd P p (.lst xs)) := same_new h1
  refine ⟨upd P p (.lst xs), ?_, sn⟩
  constructor
  · exact S.sb.trans sn
  · intro a o h
    by_cases e : a = p
    · subst e
      rw [upd_same] at h
      rw [← Option.some.inj h]; rfl
    · rw [upd_ne e] at h
      exact S.pd a o h
  · exact S.e0
  · refine ⟨S.gr.hh, S.gr.pp.trans sn, fun a o h => ?_, fun a o h => ?_, fun a o h => ?_⟩
    · by_cases e : a = p
      · subst e
        rw [upd_same] at h
        rw [← Option.some.inj h]; exact h2
      · rw [upd_ne e] at h
        exact S.gr.ph a o h
    · by_cases e : a = p
      · subst e; exact .inr hf
      · rw [upd_ne e] at h
        exact S.gr.nw a o h
    · by_cases e : a = p
      · subst e
        rw [upd_same] at h
        rw [← Option.some.inj h]; exact .inr rfl
      · rw [upd_ne e] at h
        exact S.gr.nd a o h
  · intro r hr
    obtain ⟨q1, q2⟩ := erase_ne S.nd hW hr
    obtain ⟨o1, o2⟩ := S.own r q1
    exact ⟨by rw [upd_ne q2]; exact o1, ObAt.same sn o2⟩
  · intro r hr
    exact S.fr r (erase_ne S.nd hW hr).1
  · exact ((List.eraseIdx_sublist W k).map _).nodup S.nd
  · rw [List.length_set]; exact S.len
  · intro j s hj
    by_cases e : i = j
    · subst e
      obtain ⟨x, x1, x2⟩ := S.sl i _ hρ
      have hl : i < ρ.length := (List.getElem?_eq_some_iff.mp hρ).1
      rw [List.getElem?_set_self hl] at hj
      have := Option.some.inj hj
      subst this
      exact ⟨x, x1, .ref p, x2, .lst upd_same (dqAll_mono sn _ _ h3)⟩
    · rw [List.getElem?_set_ne e] at hj
      obtain ⟨x, x1, x2⟩ := S.sl j _ hj
      exact ⟨x, x1, x2.mono sn⟩
theorem g_freeze (i k : Nat) {p : Addr} (hW : W[k]? = some (p, .lst ds)) (hρ : ρ[i]? = some (.raw (.ref p))) (kk : G X B P0 H0 (W.eraseIdx k) (ρ.set i (.dat (.list ds))) rest D) : G X B P0 H0 W ρ rest D := fun σ P H S => by
  obtain ⟨P', S', _⟩ := S.freeze i k hW hρ
  exact kk σ P' H S'
end
end Dw

/-! sum, max, min of a tuple of ints -/
namespace Dw
open PySem PySem.Spec PyProof.Rows L2
section
variable {prog : Program} {w : World} {A : Around} {E : Value → Shared → Prop} {s : Shared} {tu : Addr} {xs : Array (Int × Tok)}
/-- the iterator over a tuple, as it is begun -/
theorem begunT (ht : s.heap.IsTuple tu (intItems xs)) : (∀ b ∈ [s.heap.objs.size, tu], b < (s.heap.push { cls := .type "tuple_iterator", data := .fields #[.ref tu, .int 0 0] }).objs.size) ∧ tu ≠ s.heap.objs.size := by
  obtain ⟨o, ho, _⟩ := id ht
  have hl := Heap.lt_size ho
  refine ⟨fun b hb => ?_, Nat.ne_of_lt hl⟩
  rw [Heap.size_push]
  simp only [List.mem_cons, List.not_mem_nil, or_false] at hb
  rcases hb with z | z
  · rw [z]; exact Nat.lt_succ_self _
  · rw [z]; exact Nat.lt_succ_of_lt hl
theorem keptT {h1 h' : Heap} {o1 : Obj} (e : h1 = s.heap.push o1) (hk : ∀ b o, b ∉ [s.heap.objs.size] → h1.get? b = some o → h'.get? b = some o) : ∀ b o, s.heap.get? b = some o → h'.get? b = some o := fun b o q => by
  have hb := Heap.lt_size q
  refine hk b o (fun z => ?_) (by rw [e]; exact Heap.get?_push_of_some _ q)
  have z2 := List.mem_singleton.mp z
  rw [z2] at hb
  exact Nat.lt_irrefl _ hb
theorem max_tupI {Q : Value → Shared → Prop} (hh : A.handled = none) (ht : s.heap.IsTuple tu (intItems xs)) (hne : 0 < xs.size)
    (h : ∀ v h' tk, (intItems xs)[argBest (fun i j => decide (numAt xs i > numAt xs j)) (xs.size - 1)]? = some v → (∀ b o, s.heap.get? b = some o → h'.get? b = some o) → Q v { s with heap := h', toks := tk }) :
    wpAny (model prog w) A (call (.builtin "max") [.ref tu]) Q E s := by
  obtain ⟨b1, b2⟩ := begunT ht
  have hz : (intItems xs).size = xs.size := by simp [intItems]
  have W0 := Walks.tuple (prog := prog) (w := w) (A := A.in1) hh s.heap.objs.size tu b2 (intItems xs)
  rw [hz] at W0
  exact call_max_walk (wpAny_pyIter_tuple ht ⟨s.heap.objs.size, _, _, _, _, _, _, rfl, W0, ⟨⟨_, Heap.get?_push_size _ rfl, rfl, rfl⟩, ht.at fun o e => Heap.get?_push_of_some _ e⟩, b1, hne, CmpOf.ints_gt (numAt xs) (fun i v => intItems_at), fun v h' tk hP hk => h v h' tk hP (keptT rfl hk)⟩)
theorem min_tupI {Q : Value → Shared → Prop} (hh : A.handled = none) (ht : s.heap.IsTuple tu (intItems xs)) (hne : 0 < xs.size)
    (h : ∀ v h' tk, (intItems xs)[argBest (fun i j => decide (numAt xs i < numAt xs j)) (xs.size - 1)]? = some v → (∀ b o, s.heap.get? b = some o → h'.get? b = some o) → Q v { s with heap := h', toks := tk }) :
    wpAny (model prog w) A (call (.builtin "min") [.ref tu]) Q E s := by
  obtain ⟨b1, b2⟩ := begunT ht
  have hz : (intItems xs).size = xs.size := by simp [intItems]
  have W0 := Walks.tuple (prog := prog) (w := w) (A := A.in1) hh s.heap.objs.size tu b2 (intItems xs)
  rw [hz] at W0
  exact call_min_walk (wpAny_pyIter_tuple ht ⟨s.heap.objs.size, _, _, _, _, _, _, rfl, W0, ⟨⟨_, Heap.get?_push_size _ rfl, rfl, rfl⟩, ht.at fun o e => Heap.get?_push_of_some _ e⟩, b1, hne, CmpOf.ints_lt (numAt xs) (fun i v => intItems_at), fun v h' tk hP hk => h v h' tk hP (keptT rfl hk)⟩)
end
section
variable {X : Cx}
def rSumT (K : PySem.W.Frag) : List V → Hp → VK → Prop := fun vs H Q => ∃ (a : Addr) (ns : List Int), vs = [V.ref a] ∧ SqT K H a (ns.map V.int) ∧ Q (.int ns.sum) H
def rMaxT (K : PySem.W.Frag) : List V → Hp → VK → Prop := fun vs H Q => ∃ (a : Addr) (ns : List Int), vs = [V.ref a] ∧ SqT K H a (ns.map V.int) ∧ 0 < ns.length ∧ ∀ m, m ∈ ns → (∀ y ∈ ns, y ≤ m) → Q (.int m) H
def rMinT (K : PySem.W.Frag) : List V → Hp → VK → Prop := fun vs H Q => ∃ (a : Addr) (ns : List Int), vs = [V.ref a] ∧ SqT K H a (ns.map V.int) ∧ 0 < ns.length ∧ ∀ m, m ∈ ns → (∀ y ∈ ns, m ≤ y) → Q (.int m) H
theorem cr_sumT (hc : X.calm = true) : CallR X (.builtin "sum") (rSumT X.K) := by
  intro pins s σ H vs us Q I r h
  obtain ⟨a, ns, rfl, hs, q⟩ := h
  obtain ⟨its, rv, ht, _⟩ := I.tuple hs
  rw [Vals.ref1 r]
  have hi := rv.ints
  obtain ⟨xs, e⟩ := hi.allInts.items
  have hn : numsOf (intItems xs).toList = ns := by rw [← e]; exact hi.numsOf
  rw [nums_intItems] at hn
  have ht' : s.heap.IsTuple a its.toArray := ht
  rw [e] at ht'
  refine PySem.W.ktm_sumG (I.ok.hd hc) ht' fun h' tk t' hk => ?_
  rw [preSum_eq, List.take_of_length_le (by simp), hn]
  exact ⟨.int _, H, I.kept hk, ⟨_, rfl⟩, q⟩
theorem cr_maxT (hc : X.calm = true) : CallR X (.builtin "max") (rMaxT X.K) := by
  intro pins s σ H vs us Q I r h
  obtain ⟨a, ns, rfl, hs, hne, q⟩ := h
  obtain ⟨its, rv, ht, _⟩ := I.tuple hs
  rw [Vals.ref1 r]
  have hi := rv.ints
  obtain ⟨xs, e⟩ := hi.allInts.items
  have hn : numsOf (intItems xs).toList = ns := by rw [← e]; exact hi.numsOf
  rw [nums_intItems] at hn
  have ht' : s.heap.IsTuple a its.toArray := ht
  rw [e] at ht'
  subst hn
  have hsz : 0 < xs.size := by simpa using hne
  refine max_tupI (I.ok.hd hc) ht' hsz fun v h' tk hv hk => ?_
  obtain ⟨t, rfl⟩ := intItems_at hv
  obtain ⟨a1, a2⟩ := argBest_gt (numAt xs) (xs.size - 1)
  refine ⟨.int _, H, I.kept hk, ⟨_, rfl⟩, q _ ?_ fun y hy => ?_⟩
  · rw [numAt_eq]; exact PySem.getD_mem (by rw [List.length_map, Array.length_toList]; omega)
  · obtain ⟨j, hj, rfl⟩ := mem_getD hy
    rw [List.length_map, Array.length_toList] at hj
    rw [← numAt_eq]; exact a2 j (by omega)
theorem cr_minT (hc : X.calm = true) : CallR X (.builtin "min") (rMinT X.K) := by
  intro pins s σ H vs us Q I r h
  obtain ⟨a, ns, rfl, hs, hne, q⟩ := h
  obtain ⟨its, rv, ht, _⟩ := I.tuple hs
  rw [Vals.ref1 r]
  have hi := rv.ints
  obtain ⟨xs, e⟩ := hi.allInts.items
  have hn : numsOf (intItems xs).toList = ns := by rw [← e]; exact hi.numsOf
  rw [nums_intItems] at hn
  have ht' : s.heap.IsTuple a its.toArray := ht
  rw [e] at ht'
  subst hn
  have hsz : 0 < xs.size := by simpa using hne
  refine min_tupI (I.ok.hd hc) ht' hsz fun v h' tk hv hk => ?_
  obtain ⟨t, rfl⟩ := intItems_at hv
  obtain ⟨a1, a2⟩ := argBest_lt (numAt xs) (xs.size - 1)
  refine ⟨.int _, H, I.kept hk, ⟨_, rfl⟩, q _ ?_ fun y hy => ?_⟩
  · rw [numAt_eq]; exact PySem.getD_mem (by rw [List.length_map, Array.length_toList]; omega)
  · obtain ⟨j, hj, rfl⟩ := mem_getD hy
    rw [List.length_map, Array.length_toList] at hj
    rw [← numAt_eq]; exact a2 j (by omega)
end
section
variable {X : Cx} {B P0 H0 : Hp} {W : List (Addr × Ob)} {ρ : List Sl} {m m1 : Bool} {a : Expr} {pos p1 : Pos} {ns : List Int}
theorem bd_sumT : BiD P0 H0 m1 m (rSumT X.K) [.tuple (ns.map .int)] (.int ns.sum) := fun P H e0 gr vs k Q q => by
  cases k with
  | cons k kn =>
    cases kn
    cases k with
    | tup h ha =>
      have e := ha.ints
      subst e
      exact ⟨_, ns, rfl, SqT.of (vw_hp e0 gr _ _ h), q _ P H (Gr.refl gr.ph) (.int _)⟩
theorem bd_maxT {z : Int} (hn : 0 < ns.length) (hz : ∀ k, k ∈ ns → (∀ y, y ∈ ns → y ≤ k) → k = z) : BiD P0 H0 m1 m (rMaxT X.K) [.tuple (ns.map .int)] (.int z) := fun P H e0 gr vs k Q q => by
  cases k with
  | cons k kn =>
    cases kn
    cases k with
    | tup h ha =>
      have e := ha.ints
      subst e
      exact ⟨_, ns, rfl, SqT.of (vw_hp e0 gr _ _ h), hn, fun k h1 h2 => by
        rw [hz k h1 h2]
        exact q _ P H (Gr.refl gr.ph) (.int _)⟩
theorem bd_minT {z : Int} (hn : 0 < ns.length) (hz : ∀ k, k ∈ ns → (∀ y, y ∈ ns → k ≤ y) → k = z) : BiD P0 H0 m1 m (rMinT X.K) [.tuple (ns.map .int)] (.int z) := fun P H e0 gr vs k Q q => by
  cases k with
  | cons k kn =>
    cases kn
    cases k with
    | tup h ha =>
      have e := ha.ints
      subst e
      exact ⟨_, ns, rfl, SqT.of (vw_hp e0 gr _ _ h), hn, fun k h1 h2 => by
        rw [hz k h1 h2]
        exact q _ P H (Gr.refl gr.ph) (.int _)⟩
theorem de_sumT (hm : X.mg "sum" = Option.none) (hc : X.calm = true) (ha : DE X B P0 H0 W ρ false a (.tuple (ns.map .int))) (hg : Gl X "sum" := by rfl) (he1 : starEach [a] X.env = (false, eval a X.env) :: starEach [] X.env := by rfl) (hpl : (backTo pos (starEach [] X.env)).any (·.1) = false := by rfl) :
    DE X B P0 H0 W ρ m (.Call (.Name "sum" p1) [a] [] pos) (.int ns.sum) := de_bi (cr_sumT hc) hm (by decide +kernel) (da_cons ha da_nil he1) bd_sumT hg (by decide) (by decide) he1 hpl
/-- int(a flag) -/
theorem de_intB {k : Bool} (hm : X.mg "int" = Option.none) (ha : DE X B P0 H0 W ρ false a (.bool k)) (hg : Gl X "int" := by rfl) (he1 : starEach [a] X.env = (false, eval a X.env) :: starEach [] X.env := by rfl) (hpl : (backTo pos (starEach [] X.env)).any (·.1) = false := by rfl) :
    DE X B P0 H0 W ρ m (.Call (.Name "int" p1) [a] [] pos) (.int (if k then 1 else 0)) := de_ty call_int1 hm (by decide +kernel) (da_cons ha da_nil he1) (fun P H e0 gr vs kk Q q => by
  cases kk with
  | cons kk kn =>
    cases kn
    cases kk
    exact .inr ⟨_, rfl, q _ P H (Gr.refl gr.ph) (.int _)⟩) hg (by decide) (by decide) he1 hpl
end
end Dw

/-! k not in d -/
namespace Dw
open PySem PySem.Spec PyProof.Rows L2
section
variable {X : Cx} {B P0 H0 : Hp} {W : List (Addr × Ob)} {ρ : List Sl} {a : Expr} {pos p1 : Pos} {x : Str} {l : List Int} {p : Addr}
theorem dt_ninS (i k : Nat) {v : Int} (hu : X.A.units + 1 < cLine) (ha : DE X B P0 H0 W ρ false a (.int v)) (hρ : ρ[i]? = some (.raw (.ref p)) := by rfl) (hW : W[k]? = some (p, .raw (.dK (setK l))) := by rfl) (hN : X.N[i]? = some x := by rfl)
    (hv : Vis X.env.scope x := by first | exact Or.inl rfl | exact Or.inr (Or.inl rfl) | exact Or.inr (Or.inr rfl)) (hd : (x == ("__debug__" : Str)) = false := by decide) (hcd : (x == ("__classdict__" : Str)) = false := by decide) : DT X B P0 H0 W ρ (.Compare a [.NotIn] [.Name x p1] pos) (!decide (v ∈ l)) := fun σ P H S Q q =>
  ⟨_, pt_cmp (pc_dnotin hu pe_u (pe_var hN hv hd hcd)), ha σ P H S _ fun u P1 H1 g1 k1 => by
    cases k1
    have S1 := S.grow g1
    obtain ⟨x', e1, e2⟩ := S1.sl i _ hρ
    obtain rfl : x' = some (.ref p) := e2
    obtain ⟨_, hO⟩ := S1.own _ (List.mem_of_getElem? hW)
    have hO : H1 p = some (.dK (setK l)) := hO
    refine ⟨_, e1, p, _, rfl, DGet.k (k := Sum.inl v) hO, ?_⟩
    rw [setK_find]
    refine ⟨_, rfl, ?_⟩
    have e : (!(if v ∈ l then some (V.bl true) else none).isSome) = !decide (v ∈ l) := by by_cases h : v ∈ l <;> simp [h]
    rw [e]
    exact q P1 H1 g1⟩
end
/-- range(a, b, p), p above 0 -/
theorem rgC_pos {a b p n : Nat} (ha : a < 2 ^ 40) (hb : b < 2 ^ 40) (hp : 1 ≤ p) (hp2 : p < 1073741824) (hn : n = if a < b then (b - a - 1) / p + 1 else 0) : RgC (a : Int) (b : Int) (p : Int) n := by
  have e : Builtin.Range.rangeSize (a : Int) (b : Int) (p : Int) = (n : Int) := by
    unfold Builtin.Range.rangeSize
    rw [if_pos (by omega : (p : Int) > 0), hn]
    by_cases h : a < b
    · rw [if_pos (by omega : (a : Int) < b), if_pos h]
      have e1 : (b : Int) - a - 1 = ((b - a - 1 : Nat) : Int) := by omega
      rw [e1, ← Int.natCast_ediv]
      push_cast
      rfl
    · rw [if_neg (by omega : ¬ (a : Int) < b), if_neg h]
      rfl
  have hle : n ≤ b := by
    rw [hn]
    split
    · have := Nat.div_le_self (b - a - 1) p
      omega
    · omega
  refine ⟨by omega, by omega, ?_, e⟩
  unfold Builtin.Range.small
  rw [e]
  simp only [Builtin.Range.rangeFitsLong, Bool.and_eq_true, Bool.or_eq_true, decide_eq_true_eq, beq_iff_eq, if_pos (by omega : (p : Int) > 0)]
  refine ⟨⟨⟨⟨?_, ?_⟩, ?_⟩, ?_⟩, .inr ?_⟩ <;> omega
end Dw

/-! a law that holds no lambda -/
namespace Dw
open PySem PySem.Spec PyProof.Rows L2
def spLaw0 (K : PySem.W.Frag) : Sp := fun vs H Q _ => ∃ (a : Addr) (cs : List Int), vs = [.ref a] ∧ SqL K H a (cs.map V.int) ∧ cs.length ≤ 63 ∧ ∀ H', Q (.bl true) H'
section
variable {P : Program} {w : World} {K : PySem.W.Frag} {mg : Str → Option Value} {base : Heap} {st : Stmt} {N : List Str} {k : Nat} {f : Addr} {fd : FuncData}
theorem law_of0 (F : Fun K "law" "law" st f fd) (S : FnScope N ["_law_script"] (defScope st))
    (hbody : ∀ (cdv : Value) (A : Around) (outer : List Env) (s : Shared) (H : Hp) (a : Addr) (cs : List Int) (Q : VK) (E : XK), Room k (A.deeper (envOfC "law" (defScope st) s.heap.objs.size f cdv)) →
      PassesOwn (model P w) (A.deeper (envOfC "law" (defScope st) s.heap.objs.size f cdv)) (envOfC "law" (defScope st) s.heap.objs.size f cdv) (cxOf (L2N.CX P w) P w K mg base N "law" (defScope st) f cdv A outer s H E).xe → SqL K H a (cs.map V.int) → cs.length ≤ 63 →
      (∀ H', Q (.bl true) H') → G (cxOf (L2N.CX P w) P w K mg base N "law" (defScope st) f cdv A outer s H E) noH noH H [] (.raw (.ref a) :: List.replicate (N.length - 1) .no) (defBody st) (endsD Q)) :
    FnOk P w K mg base (L2N.CX P w) (k + 1) f fd ["_law_script"] (spLaw0 K) := by
  refine F.okN S (fun vs H Q E h => ?_) fun cdv A outer s H vs Q E hr h => ?_
  · obtain ⟨a, cs, e, _⟩ := h
    rw [e]
    rfl
  · obtain ⟨a, cs, rfl, hS, hl, hQ⟩ := h
    refine ⟨_, pss_u, hbody cdv A outer s H a cs Q E hr (passes_of rfl) hS hl hQ _ noH H ?_⟩
    refine ⟨Same.refl _, (fun _ _ h => by cases h), noH_same _, Gr.refl (noH_same _), (fun r hr => by cases hr), (fun r hr => by cases hr), List.nodup_nil, by unfold L2.start; simp, fun j s hs => ?_⟩
    unfold L2.start
    cases j with
    | zero => cases hs; exact ⟨_, rfl, rfl⟩
    | succ j =>
      have hs : (List.replicate (N.length - 1) Sl.no)[j]? = some s := hs
      rw [List.getElem?_replicate] at hs
      split at hs
      · cases hs
        refine ⟨none, ?_, trivial⟩
        show (List.replicate _ _)[j]? = _
        rw [List.getElem?_replicate]
        rw [if_pos]
        simpa using by assumption
      · cases hs
end
/-- between the turns -/
structure Dsk0 (n : Nat) (l : Addr) (xs : List V) (σ : L2.St) (H : Hp) : Prop where
  len : σ.length = n
  lst : H l = some (.lst xs)
  all : ∀ x ∈ xs, ∃ (a : Addr) (c k : Int), x = .ref a ∧ H a = some (.lst [.int c, .int k])
theorem sat_turn0 {l a : Addr} {n i : Nat} {xs : List V} {σ : L2.St} {H : Hp} (K : Dsk0 n l xs σ H) (ha : V.ref a ∈ xs) (hi : i < n) : Sat noH noH (lessO H a) [(a, .vol)] ((noS n).set i (.raw (.ref a))) (σ.set i (some (.ref a))) noH H := by
  obtain ⟨a', c, k, e, hH⟩ := K.all _ ha
  cases e
  refine ⟨Same.refl _, (fun _ _ h => by cases h), noH_same _, ⟨lessO_same H a, Same.refl _, noH_same _, (fun _ _ h => by cases h), (fun _ _ h => by cases h)⟩, fun r hr => ?_, fun r hr => ?_, by simp, by unfold noS; simp [K.len], fun j s hj => ?_⟩
  · have z := List.mem_singleton.mp hr
    subst z; exact ⟨rfl, c, k, hH⟩
  · have z := List.mem_singleton.mp hr
    subst z; exact lessO_at H a
  · by_cases e : i = j
    · subst e
      rw [List.getElem?_set_self (by unfold noS; simpa using hi)] at hj
      cases hj
      exact ⟨_, by rw [List.getElem?_set_self (by rw [K.len]; exact hi)], rfl⟩
    · rw [List.getElem?_set_ne e] at hj
      have hj' : (List.replicate n Sl.no)[j]? = some s := hj
      rw [List.getElem?_replicate] at hj'
      split at hj'
      · cases hj'
        have hjl : j < (σ.set i (some (V.ref a))).length := by rw [List.length_set, K.len]; assumption
        exact ⟨_, List.getElem?_eq_getElem hjl, trivial⟩
      · cases hj'
theorem turn_back0 {l a : Addr} {n : Nat} {xs : List V} {σ σ' : L2.St} {H P' H' : Hp} {ρ' : List Sl} (K : Dsk0 n l xs σ H) (ha : V.ref a ∈ xs) (S : Sat noH noH (lessO H a) [(a, .vol)] ρ' σ' P' H') (hl : ρ'.length = n) : Dsk0 n l xs σ' H' := by
  have keep : ∀ b o, b ≠ a → H b = some o → H' b = some o := fun b o ne h => S.gr.hh b o (by rw [lessO_ne ne]; exact h)
  obtain ⟨a', c, k, e, hH⟩ := K.all _ ha
  cases e
  have hla : l ≠ a := fun z => by
    have h := K.lst
    rw [z, hH] at h
    have e : xs = [.int c, .int k] := (HO.lst.inj (Option.some.inj h)).symm
    rw [e] at ha
    rcases List.mem_cons.mp ha with z | z
    · cases z
    · have := List.mem_singleton.mp z
      cases this
  obtain ⟨_, c2, k2, hv⟩ := S.own (a, .vol) (by simp)
  refine ⟨by rw [S.len, hl], keep l _ hla K.lst, fun x hx => ?_⟩
  obtain ⟨b, c3, k3, e, hb⟩ := K.all x hx
  by_cases z : b = a
  · subst z
    exact ⟨b, c2, k2, e, hv⟩
  · exact ⟨b, c3, k3, e, keep b _ z hb⟩
/-- what a turn may come to -/
def TurnN0 (H0 : Hp) (a : Addr) (n : Nat) (N : L2.St → Hp → Prop) : Prop := ∀ σ P H, Sat noH noH H0 [(a, .vol)] (noS n) σ P H → N σ H
section
variable {X : Cx} {B P0 H0 : Hp} {W : List (Addr × Ob)} {ρ : List Sl} {pos p1 : Pos} {D : Ends} {rest body : List Stmt} {x : Str}
theorem g_turn0 {a : Addr} {n : Nat} {R : VK} {B H0 : Hp} {ρ : List Sl} {N bk : L2.St → Hp → Prop} (hN : TurnN0 H0 a n N) (hl : ρ.length = n) : G X B noH H0 [(a, .vol)] ρ [] (endsT N bk R) := g_nil fun σ P H S => hN σ P H ((S.forget (ρ' := noS n) (by unfold noS; rw [List.length_replicate, hl]) fun i s h => by
  unfold noS at h
  rw [List.getElem?_replicate] at h
  split at h
  · cases h; exact .inl rfl
  · cases h).mark (noH_same _))
theorem g_dice0 {iter : Expr} {rs : List Int} (i : Nat) (hp : PassesOwn (model X.prog X.w) X.A X.env X.xe) (hc : X.calm = true) (hN : X.N.Nodup) (he : DE X B P0 H0 W ρ true iter (.list (rs.map fun c => .list [.int c, .int 0]))) (hρ : ρ.length = X.N.length)
    (hturn : ∀ (a : Addr) (H0' : Hp) (N bk : L2.St → Hp → Prop), TurnN0 H0' a X.N.length N → G X noH noH H0' [(a, .vol)] ((noS X.N.length).set i (.raw (.ref a))) body (endsT N bk D.rt)) (hrest : ∀ σ H, uSs X rest D σ H)
    (hi : X.N[i]? = some x := by rfl) (hx : Loc X.env.scope x := by first | exact Or.inl rfl | exact Or.inr rfl) (hf : X.fn x = true ∨ X.env.scope.names.lookup x = some .local := by first | exact .inl rfl | exact .inr rfl)
    (hss : ∀ x, foldedSetIterable iter X.env x = pure x := by intro _; rfl) : G X B P0 H0 W ρ (.For (.Name x p1) iter body [] pos :: rest) D := fun σ P H S => by
  refine ⟨_, pss_cons (ps_for hp hc (pi_list pe_u) (pg_name hN hi hx hf) pss_u hss) pss_u, he σ P H S _ fun v P1 H1 g1 k1 => ?_⟩
  have S1 := S.grow g1
  cases k1 with
  | @lst l xs _ hl ha =>
    have K0 : Dsk0 X.N.length l xs σ H1 := ⟨by rw [S.len, hρ], S1.gr.ph _ _ hl, fun x hx => by
      obtain ⟨a, c, k, e, h⟩ := dice_all ha x hx
      exact ⟨a, c, k, e, S1.gr.ph _ _ h⟩⟩
    refine ⟨l, rfl, ⟨xs, SqL.of (S1.gr.ph _ _ hl)⟩, ?_⟩
    refine for_it walk_list (fun i σ H => Dsk0 X.N.length l xs σ H) K0 (fun i σ H _ K => SqL.of K.lst) ?_ fun σ2 H2 _ => hrest σ2 H2
    rintro j x2 σ2 H2 H3 hj K ⟨rfl, hx2⟩
    have hm := List.mem_of_getElem? hx2
    obtain ⟨a, c, k, rfl, hH⟩ := K.all _ hm
    have hil : i < X.N.length := (List.getElem?_eq_some_iff.mp hi).1
    exact hturn a (lessO H3 a) _ _ (fun σ P H S => turn_back0 K hm S (by unfold noS; rw [List.length_replicate])) _ noH H3 (sat_turn0 K hm hil)
/-- one's own object no more told of -/
theorem g_drop (k : Nat) (kk : G X B P0 H0 (W.eraseIdx k) ρ rest D) : G X B P0 H0 W ρ rest D := fun σ P H S => kk σ P H
  { S with
    own := fun r hr => S.own r (List.mem_of_mem_eraseIdx hr)
    fr := fun r hr => S.fr r (List.mem_of_mem_eraseIdx hr)
    nd := ((List.eraseIdx_sublist W k).map _).nodup S.nd }
end
end Dw

/-! sorted(set(t)), slices of tuples -/
namespace Dw
open PySem PySem.Spec PyProof.Rows L2
def rSetI (K : PySem.W.Frag) (w : World) : List V → Hp → VK → Prop := fun vs H Q => ∃ (p : Addr) (ns : List Int), vs = [.ref p] ∧ SqT K H p (ns.map V.int) ∧ ns.length ≤ 1000 ∧ ∀ (a : Addr) (c : Nat), H a = none → c ≤ ns.length → Q (.ref a) (upd H a (SetO w a (fun j => decide (j ∈ ns)) c))
theorem cr_setI {X : Cx} (hc : X.calm = true) : CallR X (.type "set") (rSetI X.K X.w) := by
  intro pins s σ H vs us Q I r h
  obtain ⟨p, ns, rfl, hs, hz, q⟩ := h
  obtain ⟨its, rv, ht, _⟩ := I.tuple hs
  rw [Vals.ref1 r]
  have hi := rv.ints
  refine call_set_tupI ns (I.ok.hd hc) (show s.heap.IsTuple p its.toArray from ht) (by simpa using hi) (by unfold scanBound; omega) fun h' tk c R hc2 hk => ?_
  refine ⟨.ref s.heap.objs.size, upd H s.heap.objs.size (SetO X.w s.heap.objs.size (fun j => decide (j ∈ ns)) c), I.laid (t' := tk) hk (Nat.le_refl _) (setO_new R), rfl, q _ c (I.hok.fresh (Nat.le_refl _)) hc2⟩
section
variable {X : Cx} {B P0 H0 : Hp} {W : List (Addr × Ob)} {ρ : List Sl} {m : Bool} {a : Expr} {pos p1 p2 p3 : Pos} {ds : List PyData}
theorem de_sortedSet {ns zs : List Int} (hc : X.calm = true) (hm : X.mg "sorted" = Option.none) (hm2 : X.mg "set" = Option.none) (ha : DE X B P0 H0 W ρ m a (.tuple (ns.map .int))) (hl : ns.length < 64) (hz : ∀ l : List Int, l.Pairwise (· < ·) → (∀ k, k ∈ l ↔ k ∈ ns) → l = zs) (hg : Gl X "sorted" := by rfl) (hg2 : Gl X "set" := by rfl)
    (he1 : starEach [.Call (.Name "set" p2) [a] [] p3] X.env = (false, eval (.Call (.Name "set" p2) [a] [] p3) X.env) :: starEach [] X.env := by rfl) (he2 : starEach [a] X.env = (false, eval a X.env) :: starEach [] X.env := by rfl) (hpl : (backTo pos (starEach [] X.env)).any (·.1) = false := by rfl) (hpl2 : (backTo p3 (starEach [] X.env)).any (·.1) = false := by rfl) :
    DE X B P0 H0 W ρ m (.Call (.Name "sorted" p1) [.Call (.Name "set" p2) [a] [] p3] [] pos) (.list (zs.map .int)) := fun σ P H S Q q =>
  ⟨_, pe_callB (cr_sortedSet hc) hg hm (by decide +kernel) (pa_cons (pe_callTy (cr_setI hc) hg2 hm2 (by decide +kernel) (pa_cons pe_u pa_nil he2) (by decide) (by decide) he2 hpl2) pa_nil he1) (by decide) (by decide) he1 hpl, ha σ P H S _ fun v P1 H1 g1 k1 => by
    cases k1 with
    | tup h hd =>
      have e := hd.ints
      subst e
      have gr := S.gr.trans g1
      refine ⟨_, ns, rfl, SqT.of (vw_hp S.e0 gr _ _ h), by omega, fun sa c hsa hc2 => ⟨sa, _, c, rfl, upd_same, by omega, fun l p h1 h2 h3 hp => ?_⟩⟩
      have el : l = zs := hz l h1 fun k => (h2 k).trans decide_eq_true_iff
      subst el
      have gt : Gr P1 H1 P1 (upd H1 sa (SetO X.w sa (fun j => decide (j ∈ ns)) c)) := Gr.tmp gr.ph hsa
      exact new_lst (ds := l.map .int) (gr.trans gt) (DqAll.ofInts l) (fun z P' H' g k => q z P' H' ((g1.trans gt).trans g) k) p hp⟩
/-- t[i:j] -/
theorem cutV_all {xs : List V} {lo hi : Option Int} (h : HT.sIx xs.length 0 lo = 0 ∧ HT.sIx xs.length xs.length hi = xs.length) : cutV xs lo hi = xs := by
  unfold cutV
  rw [h.1, h.2, List.drop_zero, Nat.sub_zero, List.take_length]
theorem de_slT {lo hi : Option Expr} {i j : Option Int} (ha : DE X B P0 H0 W ρ m a (.tuple ds)) (hl : DO X B P0 H0 W ρ lo i) (hh : DO X B P0 H0 W ρ hi j) : DE X B P0 H0 W ρ m (.Subscript a (.Slice lo hi none p2) pos) (.tuple (cutD ds i j)) := fun σ P H S Q q =>
  ⟨_, pe_slice sl_tupA pe_u po_u po_u, ha σ P H S _ fun v P1 H1 g1 k1 => hl σ P1 H1 (S.grow g1) _ fun P2 H2 g2 => hh σ P2 H2 ((S.grow g1).grow g2) _ fun P3 H3 g3 => by
    have k1' := dq_mono (vw_mono (g2.trans g3)) _ _ k1
    have gr := S.gr.trans (g1.trans (g2.trans g3))
    cases k1' with
    | tup h ha' =>
      refine ⟨_, _, rfl, SqT.of (vw_hp S.e0 gr _ _ h), fun hw => ?_, fun _ => new_tup gr (ha'.cut i j) fun z P4 H4 g4 k4 => q z P4 H4 ((g1.trans (g2.trans g3)).trans g4) k4⟩
      have e1 : cutD ds i j = ds := by
        unfold cutD
        rw [← ha'.len, hw.1, hw.2, List.drop_zero, Nat.sub_zero, ha'.len, List.take_length]
      rw [e1] at q
      exact q _ P3 H3 (g1.trans (g2.trans g3)) (.tup h ha')⟩
end
end Dw

/-! the sieve -/
namespace Mi
/-- what the place m holds after the parts up to i -/
def acc (i m : Nat) : Nat := ((List.range' 1 i).filter fun p => m % p == 0 && decide (2 * p ≤ m)).sum
theorem acc_succ (i m : Nat) : acc (i + 1) m = acc i m + (if m % (i + 1) = 0 ∧ 2 * (i + 1) ≤ m then i + 1 else 0) := by
  unfold acc
  rw [List.range'_concat, List.filter_append, List.sum_append]
  congr 1
  have e : 1 + 1 * i = i + 1 := by omega
  rw [e, List.filter_cons]
  by_cases h : m % (i + 1) = 0 ∧ 2 * (i + 1) ≤ m
  · rw [if_pos h, if_pos (by rw [Bool.and_eq_true, decide_eq_true_eq, beq_iff_eq]; exact h)]
    simp
  · rw [if_neg h, if_neg (by rw [Bool.and_eq_true, decide_eq_true_eq, beq_iff_eq]; exact h)]
    simp
theorem acc_zero (m : Nat) : acc 0 m = 0 := by simp [acc]
/-- the sum of the parts -/
theorem acc_s {i m : Nat} (hm : 1 ≤ m) (hi : m ≤ 2 * i + 1) : acc i m = s m := by
  rw [s_eq hm]
  have h1 : ((List.range' 1 i).filter fun p => m % p == 0 && decide (2 * p ≤ m)).Pairwise (· < ·) := (List.pairwise_lt_range' (step := 1)).filter _
  have h2 := parts_lt m
  have hp : ((List.range' 1 i).filter fun p => m % p == 0 && decide (2 * p ≤ m)).Perm (parts m) := (List.perm_ext_iff_of_nodup (h1.imp fun h => Nat.ne_of_lt h) (h2.imp fun h => Nat.ne_of_lt h)).mpr fun d => by
    rw [List.mem_filter, List.mem_range'_1, mem_parts hm, Bool.and_eq_true, decide_eq_true_eq, beq_iff_eq]
    constructor
    · rintro ⟨⟨a, _⟩, b, c⟩
      exact ⟨Nat.dvd_of_mod_eq_zero b, by omega⟩
    · rintro ⟨⟨q, hq⟩, b⟩
      have hd : 1 ≤ d := by
        rcases Nat.eq_zero_or_pos d with z | z
        · subst z; omega
        · exact z
      have hq2 : 2 ≤ q := by
        rcases Nat.lt_or_ge q 2 with z | z
        · have : q = 0 ∨ q = 1 := by omega
          rcases this with rfl | rfl <;> omega
        · exact z
      have h3 : d * 2 ≤ d * q := Nat.mul_le_mul_left d hq2
      exact ⟨⟨hd, by omega⟩, by rw [hq]; exact Nat.mul_mod_right d q, by omega⟩
  exact hp.sum_nat
theorem acc_0 (i : Nat) : acc i 0 = 0 := by
  unfold acc
  rw [List.filter_eq_nil_iff.mpr]
  · rfl
  · intro p hp
    have := (List.mem_range'_1.mp hp).1
    rw [Bool.and_eq_true, decide_eq_true_eq]
    omega
/-- the steps of all integers up to a limit, 0 in front -/
def stepsN (limit : Nat) : List Nat := (List.range (limit + 1)).map fun m => if m = 0 then 0 else s m
theorem acc_end {limit m : Nat} (h : m ≤ limit) : acc (limit / 2) m = if m = 0 then 0 else s m := by
  by_cases h0 : m = 0
  · rw [if_pos h0, h0, acc_0]
  · rw [if_neg h0]
    exact acc_s (by omega) (by omega)
/-- within a turn: the places 2p, 3p, .. up to the j-th are done -/
def accJ (i j m : Nat) : Nat := acc i m + (if m % (i + 1) = 0 ∧ 2 * (i + 1) ≤ m ∧ m < 2 * (i + 1) + j * (i + 1) then i + 1 else 0)
end Mi

/-! each number of a round -/
namespace Mi
theorem Circ.good {c : List Nat} (h : Circ c) {z : Nat} (hz : z ∈ c) : 1 ≤ z ∧ z ≤ 20000 := by
  obtain ⟨i, hi, e⟩ := List.mem_iff_getElem.mp hz
  have hj : (i + 1) % c.length < c.length := Nat.mod_lt _ h.ne
  have g := h.go i z c[(i + 1) % c.length] (by rw [List.getElem?_eq_getElem hi, e]) (List.getElem?_eq_getElem hj)
  exact ⟨g.1, g.2.1⟩
theorem turned_mem {c : List Nat} {z : Nat} : z ∈ turnedN c ↔ z ∈ c := (rotTo_perm c (minN c)).mem_iff
theorem Circ.turned {c : List Nat} (h : Circ c) : Circ (turnedN c) := h.rot (minN_mem fun q => by have := h.ne; rw [q] at this; exact Nat.lt_irrefl _ this)
theorem rot_idx {c : List Nat} {z : Nat} (hz : z ∈ c) : idxN (rotTo c z) z = 0 := by
  obtain ⟨a, b, rfl, ha⟩ := List.eq_append_cons_of_mem hz
  rw [rotTo_eq ha]
  exact idxN_app (a := []) (b := b ++ a) (x := z) (by simp)
theorem Circ.circ_at {c : List Nat} (h : Circ c) {z : Nat} (hz : z ∈ c) : circN z z = rotTo c z := by
  unfold circN
  rw [h.course_at hz]
  show (rotTo c z).drop (idxN (rotTo c z) z) = _
  rw [rot_idx hz, List.drop_zero]
theorem Circ.turned_at {c : List Nat} (h : Circ c) {z : Nat} (hz : z ∈ c) : turnedN (circN z z) = turnedN c := by
  rw [h.circ_at hz, turned_rot h.nd hz]
theorem Circ.step_at {c : List Nat} (h : Circ c) {i x y : Nat} (hx : (turnedN c)[i]? = some x) (hy : (turnedN c)[(i + 1) % (turnedN c).length]? = some y) : y = s x := (h.turned.go i x y hx hy).2.2
theorem Circ.one {c : List Nat} (h : Circ c) {x : Nat} (e : turnedN c = [x]) : s x = x := by
  have := h.step_at (i := 0) (x := x) (y := x) (by rw [e]; rfl) (by rw [e]; simp)
  exact this.symm
theorem idx_zero {l : List Nat} {y : Nat} (hy : y ∈ l) (h : idxN l y = 0) : l[0]? = some y := by
  have := idxN_at hy
  rwa [h] at this
/-- a number is in its round: the round begins at once -/
theorem in_turned {n y : Nat} (e : (course n).2 = some y) (hy : y ∈ (course n).1) : n ∈ turnedN (circN n y) ↔ idxN (course n).1 y = 0 := by
  obtain ⟨x, SP⟩ := course_spec n
  have hh := course_head n
  rw [turned_mem]
  constructor
  · intro h
    unfold circN at h
    obtain ⟨i, hi, e1⟩ := List.mem_iff_getElem.mp h
    have h1 : (course n).1[idxN (course n).1 y + i]? = some n := by
      rw [← List.getElem?_drop, List.getElem?_eq_getElem hi, e1]
    obtain ⟨a, ha⟩ := List.getElem?_eq_some_iff.mp h1
    obtain ⟨b, hb⟩ := List.getElem?_eq_some_iff.mp hh
    have := (List.getElem?_inj a SP.ci.nd).mp (h1.trans hh.symm)
    omega
  · intro h
    unfold circN
    rw [h, List.drop_zero]
    exact List.mem_of_getElem? hh
end Mi

/-! sorted(list of tuples of ints with different first numbers) -/
namespace Dw
open PySem PySem.Spec PyProof.Rows L2
def sh0 : Nat → Bool := fun _ => false
theorem items_ints : ∀ {xs : List Value} {ns : List Int} (i : Nat), IntsAre xs ns → tupItems sh0 i xs = some (ns.map Sum.inl)
  | [], [], _, _ => rfl
  | _ :: _, [], _, h => by cases h
  | [], _ :: _, _, h => by cases h
  | v :: xs, n :: ns, i, h => by
    cases h with
    | cons _ t h2 =>
      show (if sh0 i = true then Option.none else (tupItems sh0 (i + 1) xs).map (Sum.inl n :: ·)) = _
      rw [if_neg (show ¬ sh0 i = true from fun z => by cases z), items_ints (i + 1) h2]
      rfl
theorem key_ints {h : Heap} {v : Value} {ns : List Int} (t : TS.TupInts h v ns) : G.tupKeyC h sh0 v = some (ns.map Sum.inl) := by
  obtain ⟨a, xs, rfl, ⟨o, ho, hc, n, hd⟩, hi⟩ := t
  unfold G.tupKeyC
  have e1 : G.isTupObj h (.ref a) = true := by simp [G.isTupObj, ho, hc]
  rw [if_pos e1]
  simp only [tupKey, ho, hd]
  exact items_ints 0 hi
theorem tups_first {h : Heap} : ∀ {vs : List Value}, (∀ v ∈ vs, ∃ n ns, TS.TupInts h v (n :: ns)) → ∃ fs, TupsOf h sh0 vs fs
  | [], _ => ⟨[], .nil⟩
  | v :: vs, k => by
    obtain ⟨fs, r⟩ := tups_first fun x hx => k x (List.mem_cons_of_mem _ hx)
    obtain ⟨n, ns, a, xs, rfl, ⟨o, ho, hc, e, hd⟩, hi⟩ := k v List.mem_cons_self
    generalize hx : xs.toList = l at hi
    cases hi with
    | cons _ t h2 =>
      rename_i vs'
      refine ⟨.int n t :: fs, .cons ⟨a, o, xs, e, rfl, ho, hc, hd, ?_, fun _ => ⟨_, _, rfl⟩, fun z => by cases z⟩ r⟩
      rw [← Array.getElem?_toList, hx]; rfl
def rSortH (K : PySem.W.Frag) : List V → Hp → VK → Prop := fun vs H Q => ∃ (a : Addr) (xs : List V), vs = [V.ref a] ∧ SqL K H a xs ∧ (∀ x ∈ xs, ∃ n ns, TupI K H x (n :: ns)) ∧
  ∀ (ys : List V) (p : Addr), ys.Perm xs → ys.Pairwise (fun x y => ∀ n ns m ms, TupI K H x (n :: ns) → TupI K H y (m :: ms) → n ≤ m) → H p = none → Q (.ref p) (upd H p (.lst ys))
theorem cr_sortH {X : Cx} : CallR X (.builtin "sorted") (rSortH X.K) := by
  intro pins s σ H vs us Q I r h
  obtain ⟨a, xs, rfl, hs, hx, q⟩ := h
  obtain ⟨its, rv, hl, hz⟩ := I.list hs
  rw [Vals.ref1 r]
  obtain ⟨e1, e2⟩ := bkV_refs rv fun x m => by
    obtain ⟨n, ns, t, e, _⟩ := hx x m
    exact ⟨t, e⟩
  have hT : ∀ v ∈ its, ∃ n ns, TS.TupInts s.heap v (n :: ns) := fun v hv => by
    obtain ⟨t, rfl⟩ := e2 v hv
    have hm : V.ref t ∈ xs := by
      rw [e1]
      exact List.mem_map.mpr ⟨_, hv, rfl⟩
    obtain ⟨n, ns, t', e, ht⟩ := hx _ hm
    cases e
    exact ⟨n, ns, tupI_raw I ht⟩
  obtain ⟨fs, hfs⟩ := tups_first hT
  refine G.sorted_tups (shape := sh0) (fs := fs) hl.isList hfs (fun v hv => ?_) (by rw [← rv.length]; exact hz) fun st' hp hso _ => ?_
  · obtain ⟨n, ns, t⟩ := hT v hv
    exact ⟨_, key_ints t⟩
  · have hpl : (arrOf st').toList.Perm (its.zip its) := by
      have := Array.perm_iff_toList_perm.mp hp
      rw [pairsOf_toList] at this
      exact this
    have hout : ((arrOf st').map (·.2)).toList.Perm its := by
      rw [Array.toList_map]
      have := hpl.map (·.2)
      have e : (its.zip its).map (·.2) = its := List.map_snd_zip (Nat.le_refl _)
      rw [e] at this
      exact this
    generalize hog : (arrOf st').map (·.2) = out at hout
    obtain ⟨ep, he'⟩ := PyProof.Rows.sortedAll_at s.heap its out
    have h3 : ∀ u ∈ out.toList, ∃ a, u = Value.ref a := fun u hu => e2 u (hout.mem_iff.mp hu)
    have hpx : (out.toList.map bkV).Perm xs := by
      rw [e1]
      exact hout.map bkV
    have hlen : (out.toList.map bkV).length ≤ sizeLine := by
      rw [hpx.length_eq]
      exact hz
    refine ⟨.ref _, upd H (s.heap.objs.size + 1) (.lst (out.toList.map bkV)), I.laid (t' := s.toks) (fun _ _ => PyProof.Rows.sortedAll_old) (Nat.le_succ _) ⟨hlen, out.toList, ep, bkV_vals h3, he'⟩, rfl, q _ _ hpx ?_ (I.hok.fresh (Nat.le_succ _))⟩
    rw [List.pairwise_map, ← hog, Array.toList_map, List.pairwise_map, List.pairwise_iff_getElem]
    intro i j hi hj hij n ns m ms hn hm
    have hsz : (arrOf st').size = (pairsOf its).size := hp.size_eq
    have hj' : j < (arrOf st').size := by rw [Array.length_toList] at hj; exact hj
    have hi' : i < (arrOf st').size := by omega
    have hk := hso i j (by omega) (by omega)
    obtain ⟨t, et, ht⟩ := hn
    obtain ⟨t', et', ht'⟩ := hm
    have eu := bkV_ref et
    have ev := bkV_ref et'
    have ka : ∀ (k : Nat) (hk1 : k < (arrOf st').toList.length) (u : Addr) (l : List Int), (arrOf st').toList[k].2 = Value.ref u → TS.TupInts s.heap (.ref u) l → KK (G.tupKindC s.heap sh0) (arrOf st') k = l.map Sum.inl := by
      intro k hk1 u l h1 h2
      have hmem : (arrOf st').toList[k] ∈ its.zip its := hpl.mem_iff.mp (List.getElem_mem hk1)
      have h5 := (mem_zip_self hmem).1
      unfold KK
      have e : (arrOf st')[k]? = some (arrOf st').toList[k] := by rw [← Array.getElem?_toList]; exact List.getElem?_eq_getElem hk1
      rw [e]
      show (G.tupKeyC s.heap sh0 ((arrOf st').toList[k]).1).getD [] = _
      rw [h5, h1, key_ints h2]
      rfl
    have k1 := ka i hi t _ eu (tupI_raw I ht)
    have k2 := ka j hj t' _ ev (tupI_raw I ht')
    rw [k1, k2] at hk
    have hk : lexLt itemOrd (Sum.inl m :: ms.map Sum.inl) (Sum.inl n :: ns.map Sum.inl) = false := hk
    have := (lex_false.mp hk).1
    have h6 : decide (m < n) = false := this
    have := of_decide_eq_false h6
    omega
abbrev tupD (l : List Int) : PyData := .tuple (l.map .int)
theorem dq_tups {H : Hp} : ∀ {xs : List V} {dss : List (List Int)}, DqAll H xs (dss.map tupD) → ∀ (i : Nat) (x : V), xs[i]? = some x → ∃ (l : List Int) (t : Addr), dss[i]? = some l ∧ x = .ref t ∧ H t = some (.tup (l.map V.int))
  | [], [], _, i, x, h => by simp at h
  | [], _ :: _, h, _, _, _ => by cases h
  | _ :: _, [], h, _, _, _ => by cases h
  | v :: xs, l :: dss, h, i, x, hx => by
    cases h with
    | cons h1 h2 =>
      cases i with
      | zero =>
        have : v = x := by simpa using hx
        subst this
        cases h1 with
        | tup ht ha => exact ⟨l, _, rfl, rfl, by rw [← DqAll.ints ha]; exact ht⟩
      | succ i => exact dq_tups h2 i x (by simpa using hx)
theorem dq_perm {H : Hp} : ∀ {ys xs : List V}, ys.Perm xs → ∀ {ds : List PyData}, DqAll H xs ds → ∃ es, es.Perm ds ∧ DqAll H ys es := by
  intro ys xs hp
  induction hp with
  | nil => intro ds h; exact ⟨ds, List.Perm.refl _, h⟩
  | cons x _ ih =>
    intro ds h
    cases h with
    | cons h1 h2 =>
      obtain ⟨es, e1, e2⟩ := ih h2
      exact ⟨_ :: es, e1.cons _, .cons h1 e2⟩
  | swap x y l =>
    intro ds h
    cases h with
    | cons h1 h2 =>
      cases h2 with
      | cons h3 h4 => exact ⟨_, List.Perm.swap _ _ _, .cons h3 (.cons h1 h4)⟩
  | trans _ _ ih1 ih2 =>
    intro ds h
    obtain ⟨es, e1, e2⟩ := ih2 h
    obtain ⟨fs, f1, f2⟩ := ih1 e2
    exact ⟨fs, f1.trans e1, f2⟩
theorem perm_mapT {es : List PyData} {dss : List (List Int)} (h : es.Perm (dss.map tupD)) : ∃ l : List (List Int), es = l.map tupD ∧ l.Perm dss := by
  let g : PyData → List Int := fun d => match d with
    | .tuple zs => zs.map fun z => match z with | .int k => k | _ => 0
    | _ => []
  have hg : ∀ l : List Int, g (tupD l) = l := fun l => by
    show (l.map PyData.int).map _ = l
    rw [List.map_map]
    exact List.map_id l
  refine ⟨es.map g, ?_, ?_⟩
  · rw [List.map_map]
    refine (List.map_id es).symm.trans (List.map_congr_left fun d hd => ?_)
    obtain ⟨l, _, rfl⟩ := List.mem_map.mp (h.mem_iff.mp hd)
    show tupD l = tupD (g (tupD l))
    rw [hg]
  · have := h.map g
    rw [List.map_map] at this
    have e : dss.map (g ∘ tupD) = dss := (List.map_congr_left fun l _ => hg l).trans (List.map_id dss)
    rw [e] at this
    exact this
section
variable {X : Cx} {B P0 H0 : Hp} {W : List (Addr × Ob)} {ρ : List Sl} {m : Bool} {a : Expr} {pos p1 : Pos}
theorem bd_sortedH {dss zss : List (List Int)} (hne : ∀ l ∈ dss, l ≠ []) (hz : ∀ l : List (List Int), l.Perm dss → l.Pairwise (fun a b => a.headD 0 ≤ b.headD 0) → l = zss) : BiD P0 H0 m m (rSortH X.K) [.list (dss.map tupD)] (.list (zss.map tupD)) := fun P H e0 gr vs k Q q => by
  cases k with
  | cons k kn =>
    cases kn
    cases k with
    | lst h ha =>
      rename_i a0 xs
      have hv := vw_hp (m := m) e0 gr
      refine ⟨_, xs, rfl, SqL.of (hv _ _ h), fun x hx => ?_, fun ys p hp hpw hn => ?_⟩
      · obtain ⟨i, hi⟩ := List.getElem?_of_mem hx
        obtain ⟨l, t, h1, rfl, h3⟩ := dq_tups ha i x hi
        have hl := hne l (List.mem_of_getElem? h1)
        cases l with
        | nil => exact (hl rfl).elim
        | cons n ns => exact ⟨n, ns, t, rfl, SqT.of (hv _ _ h3)⟩
      · obtain ⟨es, hes, hys⟩ := dq_perm hp ha
        obtain ⟨l, rfl, hl⟩ := perm_mapT hes
        have hsl : l.Pairwise fun a b => a.headD 0 ≤ b.headD 0 := by
          have hlen : ys.length = l.length := by rw [hys.len, List.length_map]
          rw [List.pairwise_iff_getElem]
          intro i j hi hj hij
          have hy1 : ys[i]? = some (ys[i]'(by omega)) := List.getElem?_eq_getElem (by omega)
          have hy2 : ys[j]? = some (ys[j]'(by omega)) := List.getElem?_eq_getElem (by omega)
          obtain ⟨l1, t1, a1, b1, c1⟩ := dq_tups hys i _ hy1
          obtain ⟨l2, t2, a2, b2, c2⟩ := dq_tups hys j _ hy2
          have f1 : l[i] = l1 := by rw [List.getElem?_eq_getElem hi] at a1; exact Option.some.inj a1
          have f2 : l[j] = l2 := by rw [List.getElem?_eq_getElem hj] at a2; exact Option.some.inj a2
          rw [f1, f2]
          have g1 := hne l1 (hl.mem_iff.mp (List.mem_of_getElem? a1))
          have g2 := hne l2 (hl.mem_iff.mp (List.mem_of_getElem? a2))
          have hR := List.pairwise_iff_getElem.mp hpw i j (by omega) (by omega) hij
          cases l1 with
          | nil => exact (g1 rfl).elim
          | cons n ns =>
            cases l2 with
            | nil => exact (g2 rfl).elim
            | cons k ks => exact hR n ns k ks ⟨t1, b1, SqT.of (hv _ _ c1)⟩ ⟨t2, b2, SqT.of (hv _ _ c2)⟩
        have e := hz l hl hsl
        subst e
        exact new_lst gr hys q p hn
theorem de_sortedH {dss zss : List (List Int)} (hm : X.mg "sorted" = Option.none) (ha : DE X B P0 H0 W ρ true a (.list (dss.map tupD))) (hne : ∀ l ∈ dss, l ≠ []) (hz : ∀ l : List (List Int), l.Perm dss → l.Pairwise (fun a b => a.headD 0 ≤ b.headD 0) → l = zss) (hg : Gl X "sorted" := by rfl) (he : starEach [a] X.env = (false, eval a X.env) :: starEach [] X.env := by rfl) (hpl : (backTo pos (starEach [] X.env)).any (·.1) = false := by rfl) :
    DE X B P0 H0 W ρ m (.Call (.Name "sorted" p1) [a] [] pos) (.list (zss.map tupD)) := de_biT cr_sortH hm (by decide +kernel) (da_cons ha da_nil he) (bd_sortedH hne hz) hg (by decide) (by decide) he hpl
end
section
variable {X : Cx} {B P0 H0 : Hp} {W : List (Addr × Ob)} {ρ : List Sl} {a b c : Expr} {pos p1 p2 p3 : Pos} {D : Ends} {rest : List Stmt} {x y z : Str}
/-- x, y, z = e1, e2, e3 of plain locals -/
theorem g_parK3 (i j n : Nat) {k l r : Kd} {kt k2 : Nat} {pt pt2 : Pos} (ha : DK X B P0 H0 W ρ a k) (hb : DK X B P0 H0 W ρ b l) (hd : DK X B P0 H0 W ρ c r)
    (kk : ∀ O s O' s' O2 s2, (∃ P H v, KAt P0 H0 P H k v O s) → (∃ P H v, KAt P0 H0 P H l v O' s') → (∃ P H v, KAt P0 H0 P H r v O2 s2) → G X B P0 H0 (W ++ O ++ O' ++ O2) (((ρ.set i s).set j s').set n s2) rest D) (hc : X.calm = true := by assumption) (hN : X.N.Nodup := by assumption) (hi : X.N[i]? = some x := by rfl) (hj : X.N[j]? = some y := by rfl) (hn : X.N[n]? = some z := by rfl) (hij : i ≠ j := by decide) (hin : i ≠ n := by decide) (hjn : j ≠ n := by decide)
    (hx : X.env.scope.names.lookup x = some .local := by rfl) (hy : X.env.scope.names.lookup y = some .local := by rfl) (hz : X.env.scope.names.lookup z = some .local := by rfl)
    (hw : swappedStores [.Tuple [.Name x p1, .Name y p2, .Name z p3] kt pt] (.Tuple [a, b, c] k2 pt2) X.env = pure (some [x, y, z]) := by rfl)
    (hs : swapsWithSole [.Tuple [.Name x p1, .Name y p2, .Name z p3] kt pt] (.Tuple [a, b, c] k2 pt2) pos.line X.env = pure false := by rfl)
    (he1 : starEach [a, b, c] X.env = (false, eval a X.env) :: starEach [b, c] X.env := by rfl) (he2 : starEach [b, c] X.env = (false, eval b X.env) :: starEach [c] X.env := by rfl) (he3 : starEach [c] X.env = (false, eval c X.env) :: starEach [] X.env := by rfl) :
    G X B P0 H0 W ρ (.Assign [.Tuple [.Name x p1, .Name y p2, .Name z p3] kt pt] (.Tuple [a, b, c] k2 pt2) pos :: rest) D := fun σ P H S =>
  ⟨_, pss_cons (ps_par3 hc hN hi hj hn hij hin hjn hx hy hz (pa_cons pe_u (pa_cons pe_u (pa_cons pe_u pa_nil he3) he2) he1) hw hs) pss_u, ha σ P H S _ fun v P1 H1 O s g1 k1 hO => hb σ P1 H1 (S.grow g1) _ fun w P2 H2 O' s' g2 k2 hO' => hd σ P2 H2 ((S.grow g1).grow g2) _ fun u P3 H3 O2 s2 g3 k3 hO2 => by
    refine ⟨v, w, u, rfl, ?_⟩
    have S2 := (((S.grow g1).grow g2).grow g3).add ((k1.grow g2).grow g3) i (own_apart (H1 := H) S hO)
    have S3 := S2.add (k2.grow g3) j (fun p hp r hr => by
      rcases List.mem_append.mp hr with q | q
      · exact own_apart (H1 := H) (S.grow g1) hO' p hp r q
      · cases k1 with
        | dat _ => cases q
        | @own o' p' q1 q2 q3 =>
          have er : r = (p', o') := by simpa using q
          subst er
          intro e
          obtain ⟨u, hu⟩ := q3.there
          have q := hO' p hp
          rw [← e] at q
          rw [hu] at q
          cases q)
    refine kk O s O' s' O2 s2 ⟨_, _, _, k1⟩ ⟨_, _, _, k2⟩ ⟨_, _, _, k3⟩ _ P3 H3 (S3.add k3 n fun p hp r hr => ?_)
    rcases List.mem_append.mp hr with hr | hr
    · rcases List.mem_append.mp hr with q | q
      · exact own_apart (H1 := H) ((S.grow g1).grow g2) hO2 p hp r q
      · have k1' := k1.grow g2
        cases k1' with
        | dat _ => cases q
        | @own o' p' q1 q2 q3 =>
          have er : r = (p', o') := by simpa using q
          subst er
          intro e
          obtain ⟨u, hu⟩ := q3.there
          have q := hO2 p hp
          rw [← e] at q
          rw [hu] at q
          cases q
    · cases k2 with
      | dat _ => cases hr
      | @own o' p' q1 q2 q3 =>
        have er : r = (p', o') := by simpa using hr
        subst er
        intro e
        obtain ⟨u, hu⟩ := q3.there
        have q := hO2 p hp
        rw [← e] at q
        rw [hu] at q
        cases q⟩
end
end Dw

/-! x in a tuple of data -/
namespace Dw
open PySem PySem.Spec PyProof.Rows L2
def rInDT (K : PySem.W.Frag) : R2 := fun x y H Q => ∃ d ds, Dp K H x d ∧ Dp K H y (.tuple ds) ∧ SeqAt.shaped d = true ∧ SeqAt.shaped (.list ds) = true ∧ Q (.bl (ds.any fun z => PyData.eqv z d)) H
def rNotInDT (K : PySem.W.Frag) : R2 := fun x y H Q => ∃ d ds, Dp K H x d ∧ Dp K H y (.tuple ds) ∧ SeqAt.shaped d = true ∧ SeqAt.shaped (.list ds) = true ∧ Q (.bl (!ds.any fun z => PyData.eqv z d)) H
theorem op_inDT {X : Cx} (hu : X.A.units + 65 < cLine) : OpR X (compareOp .In) (rInDT X.K) := by
  intro pins s σ H x y v u Q I rx ry h
  obtain ⟨d, ds, hd, he, sd, se, q⟩ := h
  obtain ⟨as, r1⟩ := Dp.reads I d x v hd rx
  obtain ⟨bs, r2⟩ := Dp.reads I (.tuple ds) y u he ry
  exact SeqAt.in_tuple_reads r2 r1 (SeqAt.canLay_of_shaped se) (SeqAt.canLay_of_shaped sd) (room_in_shaped sd hu) ⟨.bl _, H, I, rfl, q⟩
theorem op_notInDT {X : Cx} (hu : X.A.units + 65 < cLine) : OpR X (compareOp .NotIn) (rNotInDT X.K) := by
  intro pins s σ H x y v u Q I rx ry h
  obtain ⟨d, ds, hd, he, sd, se, q⟩ := h
  obtain ⟨as, r1⟩ := Dp.reads I d x v hd rx
  obtain ⟨bs, r2⟩ := Dp.reads I (.tuple ds) y u he ry
  exact SeqAt.notIn_tuple_reads r2 r1 (SeqAt.canLay_of_shaped se) (SeqAt.canLay_of_shaped sd) (room_in_shaped sd hu) ⟨.bl _, H, I, rfl, q⟩
section
variable {X : Cx} {B P0 H0 : Hp} {W : List (Addr × Ob)} {ρ : List Sl} {m m1 m2 : Bool} {a b : Expr} {pos : Pos} {d : PyData} {ds : List PyData}
theorem od_inDT (s1 : SeqAt.shaped d = true) (s2 : SeqAt.shaped (.list ds) = true) : OpD P0 H0 m1 m2 m (rInDT X.K) d (.tuple ds) (.bool (ds.any fun z => PyData.eqv z d)) := fun P H e0 gr v w k1 k2 Q q =>
  ⟨d, ds, Dq.dp _ _ (SeqAt.canLay_of_shaped s1) (dq_mono (vw_hp e0 gr) _ _ k1), Dq.dp _ _ (by simpa [PyData.canLay0] using SeqAt.canLay_of_shaped s2) (dq_mono (vw_hp e0 gr) _ _ k2), s1, s2, q _ P H (Gr.refl gr.ph) (.bl _)⟩
theorem od_notInDT (s1 : SeqAt.shaped d = true) (s2 : SeqAt.shaped (.list ds) = true) : OpD P0 H0 m1 m2 m (rNotInDT X.K) d (.tuple ds) (.bool (!ds.any fun z => PyData.eqv z d)) := fun P H e0 gr v w k1 k2 Q q =>
  ⟨d, ds, Dq.dp _ _ (SeqAt.canLay_of_shaped s1) (dq_mono (vw_hp e0 gr) _ _ k1), Dq.dp _ _ (by simpa [PyData.canLay0] using SeqAt.canLay_of_shaped s2) (dq_mono (vw_hp e0 gr) _ _ k2), s1, s2, q _ P H (Gr.refl gr.ph) (.bl _)⟩
theorem de_inDT (hu : X.A.units + 65 < cLine) (ha : DE X B P0 H0 W ρ false a d) (hb : DE X B P0 H0 W ρ false b (.tuple ds)) (s1 : SeqAt.shaped d = true) (s2 : SeqAt.shaped (.list ds) = true) (hm : behindInMarks .In b = false := by rfl) : DE X B P0 H0 W ρ m (.Compare a [.In] [b] pos) (.bool (ds.any fun z => PyData.eqv z d)) := de_cmp (op_inDT hu) ha hb (od_inDT s1 s2) hm
theorem dt_notInDT (hu : X.A.units + 65 < cLine) (ha : DE X B P0 H0 W ρ false a d) (hb : DE X B P0 H0 W ρ false b (.tuple ds)) (s1 : SeqAt.shaped d = true) (s2 : SeqAt.shaped (.list ds) = true) (hm : behindInMarks .NotIn b = false := by rfl) : DT X B P0 H0 W ρ (.Compare a [.NotIn] [b] pos) (!ds.any fun z => PyData.eqv z d) := dt_cmp (op_notInDT hu) ha hb (od_notInDT s1 s2) hm
end
end Dw

/-! texts -/
namespace Dw
open PySem PySem.Spec PyProof.Rows L2
/-- the text of a number -/
def numS (n : Nat) : Str := Str.ofString (toString ((n : Nat) : Int))
def signD (c : Nat) : PyData := .str ⟨#[c]⟩
section
variable {X : Cx} {B P0 H0 : Hp} {W : List (Addr × Ob)} {ρ : List Sl} {m m1 m2 : Bool} {a b c e o tg : Expr} {es : List Expr} {pos p1 p2 p3 p4 apos cpos : Pos} {d d1 d2 : PyData} {ds : List PyData} {D : Ends} {rest : List Stmt} {x y : Str} {s t : Str} {ss : List Str}
theorem de_strI {n : Nat} (hn : n ≤ 1000000) (hm : X.mg "str" = Option.none) (ha : DE X B P0 H0 W ρ false a (.int (n : Nat))) (hg : Gl X "str" := by rfl)
    (he1 : starEach [a] X.env = (false, eval a X.env) :: starEach [] X.env := by rfl) (hpl : (backTo pos (starEach [] X.env)).any (·.1) = false := by rfl) :
    DE X B P0 H0 W ρ m (.Call (.Name "str" p1) [a] [] pos) (.str (numS n)) := de_ty call_str_int hm (by decide +kernel) (da_cons ha da_nil he1) (fun P H e0 gr vs k Q q => by
  cases k with
  | cons k kn =>
    cases kn
    cases k
    refine ⟨(n : Int), rfl, ?_, q _ P H (Gr.refl gr.ph) (.str _)⟩
    have h1 : n.log2 ≤ n := by
      rcases Nat.eq_zero_or_pos n with z | z
      · subst z; decide
      · exact Nat.le_of_lt (Nat.lt_of_lt_of_le (Nat.lt_two_pow_self) (Nat.log2_self_le (by omega)))
    have h2 : n.log2 < 20 := by
      rcases Nat.eq_zero_or_pos n with z | z
      · subst z; decide
      · exact (Nat.log2_lt (by omega)).mpr (by omega)
    show n.log2 < 1920
    omega) hg (by decide) (by decide) he1 hpl
theorem od_addS (hl : s.length + t.length ≤ sizeLine) : OpD P0 H0 m1 m2 m (fun x y H Q => ∃ i j, x = V.str i ∧ y = V.str j ∧ i.length + j.length ≤ sizeLine ∧ Q (V.str (i ++ j)) H) (.str s) (.str t) (.str (s ++ t)) := fun P H e0 gr v w k1 k2 Q q => by
  cases k1
  cases k2
  exact ⟨_, _, rfl, rfl, hl, q _ P H (Gr.refl gr.ph) (.str _)⟩
theorem de_addS (ha : DE X B P0 H0 W ρ false a (.str s)) (hb : DE X B P0 H0 W ρ false b (.str t)) (hl : s.length + t.length ≤ sizeLine) : DE X B P0 H0 W ρ m (.BinOp a .Add b pos) (.str (s ++ t)) := de_op op_add_str ha hb (od_addS hl)
theorem de_lenStr (hm : X.mg "len" = Option.none) (ha : DE X B P0 H0 W ρ false a (.str s)) (hl : s.length ≤ sizeLine) (hg : Gl X "len" := by rfl)
    (he1 : starEach [a] X.env = (false, eval a X.env) :: starEach [] X.env := by rfl) (hpl : (backTo pos (starEach [] X.env)).any (·.1) = false := by rfl) :
    DE X B P0 H0 W ρ m (.Call (.Name "len" p1) [a] [] pos) (.int (s.length : Nat)) := de_bi call_len_str hm (by decide +kernel) (da_cons ha da_nil he1) (fun P H e0 gr vs k Q q => by
  cases k with
  | cons k kn =>
    cases kn
    cases k
    exact ⟨_, rfl, hl, q _ P H (Gr.refl gr.ph) (.int _)⟩) hg (by decide) (by decide) he1 hpl
theorem de_intS {n : Int} (hm : X.mg "int" = Option.none) (ha : DE X B P0 H0 W ρ false a (.str s)) (hn : PySem.intText? s = some n) (hl : s.length ≤ 640) (hg : Gl X "int" := by rfl)
    (he1 : starEach [a] X.env = (false, eval a X.env) :: starEach [] X.env := by rfl) (hpl : (backTo pos (starEach [] X.env)).any (·.1) = false := by rfl) :
    DE X B P0 H0 W ρ m (.Call (.Name "int" p1) [a] [] pos) (.int n) := de_ty call_int_str hm (by decide +kernel) (da_cons ha da_nil he1) (fun P H e0 gr vs k Q q => by
  cases k with
  | cons k kn =>
    cases kn
    cases k
    exact ⟨_, _, rfl, hn, hl, q _ P H (Gr.refl gr.ph) (.int _)⟩) hg (by decide) (by decide) he1 hpl
/-- c in text, c one sign -/
theorem od_inSign {c : Nat} : OpD P0 H0 m1 m2 m rInS (signD c) (.str s) (.bool (decide (c ∈ s.cps.toList))) := fun P H e0 gr v w k1 k2 Q q => by
  cases k1
  cases k2
  exact ⟨_, _, rfl, rfl, q _ P H (Gr.refl gr.ph) (.bl _)⟩
theorem de_inSign {c : Nat} (ha : DE X B P0 H0 W ρ false a (signD c)) (hb : DE X B P0 H0 W ρ false b (.str s)) (hm : behindInMarks .In b = false := by rfl) : DE X B P0 H0 W ρ m (.Compare a [.In] [b] pos) (.bool (decide (c ∈ s.cps.toList))) := de_cmp op_inS ha hb od_inSign hm
/-- sep.join(texts) -/
theorem de_join (ho : DE X B P0 H0 W ρ false o (.str s)) (he : DE X B P0 H0 W ρ false e (.list (ss.map .str))) (hz : (ss.map (·.length)).sum + ss.length * s.length ≤ 16777216)
    (hbase : attributeBase o "join" X.env (eval o X.env) = eval o X.env := by rfl)
    (hfew : ((backTo cpos (starEach [e] X.env)).all (fun x => !x.1) && (backToKw cpos (keywordEach [] X.env)).all (fun x => x.1.isSome)
      && decide ([e].length + ([] : List Keyword).length + (if ([] : List Keyword).isEmpty then 0 else 1) < 30)) = true := by rfl)
    (hline : (apos.endLine == cpos.line) = true := by rfl) (hs : starEach [e] X.env = (false, eval e X.env) :: starEach [] X.env := by rfl) (hplain : (backTo cpos (starEach [] X.env)).any (·.1) = false := by rfl) :
    DE X B P0 H0 W ρ m (.Call (.Attribute o "join" apos) [e] [] cpos) (.str (Txt.join s ss)) :=
  de_bm (m1 := false) (m2 := false) (d1 := .str s) PySem.F.plainAttrs_str PySem.F.slot_str_join PySem.F.type_str_join mt_join ho (da_cons he da_nil hs) (fun H v h => tyS X.K H v h) (fun P H e0 gr v vs k1 k2 Q q => by
    cases k1
    cases k2 with
    | cons k2 kn =>
      cases kn
      cases k2 with
      | lst h ha =>
        have e := ha.strs
        subst e
        exact ⟨_, _, ss, rfl, rfl, .inl (SqL.of (vw_hp e0 gr _ _ h)), hz, q _ P H (Gr.refl gr.ph) (.str _)⟩) hbase hfew hline hs hplain
/-- text.split(sep) -/
theorem de_split (ho : DE X B P0 H0 W ρ false o (.str s)) (he : DE X B P0 H0 W ρ false e (.str t)) (ht : (t.length == 0) = false) (hz : s.length + 2 ≤ sizeLine)
    (hbase : attributeBase o "split" X.env (eval o X.env) = eval o X.env := by rfl)
    (hfew : ((backTo cpos (starEach [e] X.env)).all (fun x => !x.1) && (backToKw cpos (keywordEach [] X.env)).all (fun x => x.1.isSome)
      && decide ([e].length + ([] : List Keyword).length + (if ([] : List Keyword).isEmpty then 0 else 1) < 30)) = true := by rfl)
    (hline : (apos.endLine == cpos.line) = true := by rfl) (hs : starEach [e] X.env = (false, eval e X.env) :: starEach [] X.env := by rfl) (hplain : (backTo cpos (starEach [] X.env)).any (·.1) = false := by rfl) :
    DE X B P0 H0 W ρ m (.Call (.Attribute o "split" apos) [e] [] cpos) (.list ((Txt.split s t).map .str)) :=
  de_bm (m1 := false) (m2 := false) (d1 := .str s) PySem.F.plainAttrs_str PySem.F.slot_str_split PySem.F.type_str_split mt_split ho (da_cons he da_nil hs) (fun H v h => tyS X.K H v h) (fun P H e0 gr v vs k1 k2 Q q => by
    cases k1
    cases k2 with
    | cons k2 kn =>
      cases kn
      cases k2
      exact ⟨_, _, rfl, rfl, ht, hz, new_lst (ds := (Txt.split s t).map .str) gr (DqAll.ofStrs _) q⟩) hbase hfew hline hs hplain
/-- text[i:j] -/
theorem de_slStr {lo hi : Option Expr} {i j : Option Int} (ha : DE X B P0 H0 W ρ false a (.str s)) (hl : DO X B P0 H0 W ρ lo i) (hh : DO X B P0 H0 W ρ hi j) (hz : s.length ≤ sizeLine) : DE X B P0 H0 W ρ m (.Subscript a (.Slice lo hi none p2) pos) (.str (cutS s i j)) := fun σ P H S Q q =>
  ⟨_, pe_slice sl_str pe_u po_u po_u, ha σ P H S _ fun v P1 H1 g1 k1 => hl σ P1 H1 (S.grow g1) _ fun P2 H2 g2 => hh σ P2 H2 ((S.grow g1).grow g2) _ fun P3 H3 g3 => by
    cases k1
    exact ⟨s, rfl, hz, q _ P3 H3 (g1.trans (g2.trans g3)) (.str _)⟩⟩
/-- text[i] -/
theorem de_ixStr {i : Int} {c : Nat} (ha : DE X B P0 H0 W ρ false a (.str s)) (hb : DE X B P0 H0 W ρ false b (.int i)) (hi : atI s.cps.toList i = some c) (hz : s.length ≤ sizeLine) (hs : PlainIx b := by exact fun _ _ => rfl) : DE X B P0 H0 W ρ m (.Subscript a b pos) (signD c) := fun σ P H S Q q =>
  ⟨_, pe_ix ix_str pe_u pe_u hs, ha σ P H S _ fun v P1 H1 g1 k1 => hb σ P1 H1 (S.grow g1) _ fun w P2 H2 g2 k2 => by
    cases k1
    cases k2
    exact ⟨s, i, c, rfl, rfl, hz, hi, q _ P2 H2 (g1.trans g2) (.str _)⟩⟩
end
end Dw

/-! expressions that raise -/
namespace Dw
open PySem PySem.Spec PyProof.Rows L2
def DX (X : Cx) (B P0 H0 : Hp) (W : List (Addr × Ob)) (ρ : List Sl) (e : Expr) (C : Addr) (E : XK) : Prop := ∀ σ P H, Sat B P0 H0 W ρ σ P H → (∀ P' H', Gr P H P' H' → E (.ref C) none H') → ∀ Q : VK, uE X e σ H Q
def DAX (X : Cx) (B P0 H0 : Hp) (W : List (Addr × Ob)) (ρ : List Sl) (es : List Expr) (C : Addr) (E : XK) : Prop := ∀ σ P H, Sat B P0 H0 W ρ σ P H → (∀ P' H', Gr P H P' H' → E (.ref C) none H') → ∀ Q : List V → Hp → Prop, uA X es σ H Q
section
variable {X : Cx} {B P0 H0 : Hp} {W : List (Addr × Ob)} {ρ : List Sl} {m m1 m2 : Bool} {a b c e tg : Expr} {es : List Expr} {pos p1 p2 p3 p4 : Pos} {d d1 d2 : PyData} {ds : List PyData} {D : Ends} {rest : List Stmt} {x y : Str} {C : Addr} {E : XK}
theorem dx_call {k j n : Nat} {R : List PyData → Out → Prop} (F : Cal X.prog X.w X.K X.mg X.base x k n R) (hr : Room j X.A) (hk : k ≤ j) (hp : Passes (L2N.CX X.prog X.w) X E) (ha : DA X B P0 H0 W ρ true (e :: es) ds) (hn : ds.length = n) (hR : R ds (.exc C)) (hg : Gl X x := by rfl) (hdb : (x == ("__debug__" : Str)) = false := by decide)
    (he : starEach (e :: es) X.env = (false, eval e X.env) :: starEach es X.env := by rfl) (hpl : (backTo pos (starEach es X.env)).any (·.1) = false := by rfl) : DX X B P0 H0 W ρ (.Call (.Name x p1) (e :: es) [] pos) C E := fun σ P H S hE Q =>
  dc_call F hr hk hp ha hn hR hg hdb he hpl σ P H S Q hE
theorem dx_mulR {i : Int} (ha : DE X B P0 H0 W ρ false a (.int i)) (hb : DX X B P0 H0 W ρ b C E) : DX X B P0 H0 W ρ (.BinOp a .Mult b pos) C E := fun σ P H S hE Q =>
  ⟨_, pe_op op_mulW pe_u pe_u, ha σ P H S _ fun v P1 H1 g1 k1 => hb σ P1 H1 (S.grow g1) (fun P' H' g => hE P' H' (g1.trans g)) _⟩
theorem dx_if1 {k : Bool} (h : DT X B P0 H0 W ρ c k) (hk : k = true) (h1 : DX X B P0 H0 W ρ a C E) : DX X B P0 H0 W ρ (.IfExp c a b pos) C E := fun σ P H S hE Q =>
  ⟨_, pe_ifExp pt_u pe_u pe_u, h σ P H S _ fun P1 H1 g1 => by
    subst hk
    exact iteT (h1 σ P1 H1 (S.grow g1) (fun P' H' g => hE P' H' (g1.trans g)) Q)⟩
theorem dax_hd (h : DX X B P0 H0 W ρ e C E) (hs : starEach (e :: es) X.env = (false, eval e X.env) :: starEach es X.env := by rfl) : DAX X B P0 H0 W ρ (e :: es) C E := fun σ P H S hE Q =>
  ⟨_, pa_cons pe_u pa_u hs, h σ P H S hE _⟩
theorem dax_tl (h : DE X B P0 H0 W ρ m e d) (h' : DAX X B P0 H0 W ρ es C E) (hs : starEach (e :: es) X.env = (false, eval e X.env) :: starEach es X.env := by rfl) : DAX X B P0 H0 W ρ (e :: es) C E := fun σ P H S hE Q =>
  ⟨_, pa_cons pe_u pa_u hs, h σ P H S _ fun v P1 H1 g1 k1 => h' σ P1 H1 (S.grow g1) (fun P' H' g => hE P' H' (g1.trans g)) _⟩
/-- x, y = .. that raises -/
theorem g_parX (i j : Nat) {kt k2 : Nat} {pt pt2 : Pos} (ha : DAX X B P0 H0 W ρ [a, b] C E) (hE : ∀ P H, Gr P0 H0 P H → E (.ref C) none H) (hc : X.calm = true := by assumption) (hN : X.N.Nodup := by assumption) (hi : X.N[i]? = some x := by rfl) (hj : X.N[j]? = some y := by rfl) (hij : i ≠ j := by decide)
    (hx : X.env.scope.names.lookup x = some .local := by rfl) (hy : X.env.scope.names.lookup y = some .local := by rfl)
    (hw : swappedStores [.Tuple [.Name x p1, .Name y p2] kt pt] (.Tuple [a, b] k2 pt2) X.env = pure (some [x, y]) := by rfl)
    (hs : swapsWithSole [.Tuple [.Name x p1, .Name y p2] kt pt] (.Tuple [a, b] k2 pt2) pos.line X.env = pure false := by rfl) :
    G X B P0 H0 W ρ (.Assign [.Tuple [.Name x p1, .Name y p2] kt pt] (.Tuple [a, b] k2 pt2) pos :: rest) D := fun σ P H S =>
  ⟨_, pss_cons (ps_par hc hN hi hj hij hx hy pa_u hw hs) pss_u, ha σ P H S (fun P' H' g => hE P' H' (S.gr.trans g)) _⟩
/-- x = .. that raises -/
theorem g_setX (i : Nat) (he : DX X B P0 H0 W ρ e C E) (hE : ∀ P H, Gr P0 H0 P H → E (.ref C) none H) (hN : X.N.Nodup := by assumption) (hi : X.N[i]? = some x := by rfl) (hx : Loc X.env.scope x := by first | exact Or.inl rfl | exact Or.inr rfl)
    (hs : swapsWith e (some (.Name x p1)) pos.line X.env = pure false := by rfl) (hf : X.fn x = true ∨ X.env.scope.names.lookup x = some .local := by first | exact .inl rfl | exact .inr rfl) : G X B P0 H0 W ρ (.Assign [.Name x p1] e pos :: rest) D := fun σ P H S =>
  ⟨_, pss_cons (ps_set (i := i) hN hi hx pe_u hs hf) pss_u, he σ P H S (fun P' H' g => hE P' H' (S.gr.trans g)) _⟩
/-- text[e], e told of -/
theorem dv_ixStr {I : Int → Prop} {s : Str} (ha : DE X B P0 H0 W ρ true a (.str s)) (hb : DV X B P0 H0 W ρ b (iD I)) (hi : ∀ i, I i → ∃ c, atI s.cps.toList i = some c) (hz : s.length ≤ sizeLine) (hs : PlainIx b := by exact fun _ _ => rfl) : DV X B P0 H0 W ρ (.Subscript a b pos) (fun d => ∃ c, c ∈ s.cps.toList ∧ d = signD c) := fun σ P H S Q q =>
  ⟨_, pe_ix ix_str pe_u pe_u hs, ha σ P H S _ fun v P1 H1 g1 k1 => hb σ P1 H1 (S.grow g1) _ fun w d P2 H2 S2 s2 f2 k2 => by
    obtain ⟨i, rfl, hI⟩ := f2
    cases k1
    cases k2
    obtain ⟨c, hc⟩ := hi i hI
    exact ⟨s, i, c, rfl, rfl, hz, hc, q _ _ P2 H2 S2 (g1.pp.trans s2) ⟨c, (atI_get hc).elim fun _ h => List.mem_of_getElem? h.2.1, rfl⟩ (.str _)⟩⟩
end
end Dw

/-! the texts of numbers -/
namespace Mi
open PySem PyProof.Rows TL Dw
def wordS (q : Nat × Nat) : Str := numS q.1 ++ (if 1 < q.2 then ("^" : Str) ++ numS q.2 else "")
def writtenS (n : Nat) : Str := if (fac n).map wordS = [] then "1" else Txt.join "*" ((fac n).map wordS)
def digS (w : Str) : Bool := (tl w).all fun c => decide (c ∈ tl "0123456789")
def intW (w : Str) : Option Nat := if 1 ≤ w.length ∧ w.length ≤ 5 ∧ digS w = true then some (NumText.digitsVal (tl w)) else none
def powE : List Str → Option Nat
  | [a] => intW a
  | [a, b] => match intW a with
    | some x => (match intW b with
      | some k => if 14 < k then none else some (x ^ k)
      | none => none)
    | none => none
  | _ => none
def powW (w : Str) : Option Nat := powE (Txt.split w "^")
def foldW : List Str → Nat → Option Nat
  | [], a => some a
  | w :: ws, a => match powW w with
    | some b => foldW ws (a * b)
    | none => none
def parseS (t : Str) : Option Nat := if 60 < t.length then none else match foldW (Txt.split t "*") 1 with
  | some a => if 1 ≤ a ∧ a ≤ 20000 ∧ writtenS a = t then some a else none
  | none => none
theorem tl_numS (n : Nat) : tl (numS n) = numL n := tl_num n
theorem tl_digs : tl "0123456789" = [48, 49, 50, 51, 52, 53, 54, 55, 56, 57] := by decide +kernel
theorem mem_digs {c : Nat} : c ∈ tl "0123456789" ↔ 48 ≤ c ∧ c ≤ 57 := by
  rw [tl_digs]
  simp only [List.mem_cons, List.not_mem_nil, or_false]
  omega
theorem digS_iff {w : Str} : digS w = true ↔ NumText.AllDigits (tl w) := by
  unfold digS NumText.AllDigits
  rw [List.all_eq_true]
  constructor
  · intro h c hc; exact mem_digs.mp (of_decide_eq_true (h c hc))
  · intro h c hc; exact decide_eq_true (mem_digs.mpr (h c hc))
theorem tl_star : tl "*" = [42] := by decide +kernel
theorem tl_cap : tl "^" = [94] := by decide +kernel
theorem tl_one : tl "1" = [49] := by decide +kernel
theorem tl_empty : tl ("" : Str) = [] := by decide +kernel
theorem tl_word (p k : Nat) : tl (wordS (p, k)) = numL p ++ (if 1 < k then 94 :: numL k else []) := by
  unfold wordS
  rw [tl_append, tl_numS]
  congr 1
  show tl (if 1 < k then ("^" : Str) ++ numS k else "") = _
  split
  · rw [tl_append, tl_cap, tl_numS]; rfl
  · exact tl_empty
theorem intW_num {p : Nat} (h : p < 100000) : intW (numS p) = some p := by
  unfold intW
  have h1 := numL_len (k := 5) (by decide) h
  have h2 := numL_ne p
  have h3 : (numS p).length = (numL p).length := by rw [len_tl, tl_numS]
  have h4 : 1 ≤ (numL p).length := List.length_pos_iff.mpr h2
  rw [if_pos ⟨by omega, by omega, digS_iff.mpr (by rw [tl_numS]; exact numL_digits p)⟩, tl_numS, numL_val]
theorem word_one (p : Nat) : wordS (p, 1) = Txt.join "^" [numS p] := by
  refine ext_tl ?_
  rw [tl_word, join_eq, tl_join]
  show numL p ++ [] = tl (numS p)
  rw [List.append_nil, tl_numS]
theorem word_more {p k : Nat} (h : 1 < k) : wordS (p, k) = Txt.join "^" [numS p, numS k] := by
  refine ext_tl ?_
  rw [tl_word, join_eq, tl_join, if_pos h]
  show _ = tl (numS p) ++ (tl "^" ++ tl (numS k))
  rw [tl_numS, tl_numS, tl_cap]
  rfl
theorem cap_ok : ("^" : Str).cps.all (· < 256) = true := by decide +kernel
theorem star_ok : ("*" : Str).cps.all (· < 256) = true := by decide +kernel
theorem powW_word {p k : Nat} (h1 : p < 100000) (h2 : 1 ≤ k) (h3 : k ≤ 14) : powW (wordS (p, k)) = some (p ^ k) := by
  have hf : ∀ n, 94 ∉ tl (numS n) := fun n => by rw [tl_numS]; exact numL_free (.inr (by decide))
  unfold powW
  by_cases h : 1 < k
  · rw [word_more h, split_join tl_cap cap_ok (by simp) (fun q hq => by
      simp only [List.mem_cons, List.not_mem_nil, or_false] at hq
      rcases hq with rfl | rfl <;> exact hf _)]
    show (match intW (numS p) with
      | some x => (match intW (numS k) with
        | some k => if 14 < k then none else some (x ^ k)
        | none => none)
      | none => none) = _
    rw [intW_num h1, intW_num (by omega)]
    show (if 14 < k then none else some (p ^ k)) = _
    rw [if_neg (by omega)]
  · have e : k = 1 := by omega
    subst e
    rw [word_one, split_join tl_cap cap_ok (by simp) (fun q hq => by rw [List.mem_singleton.mp hq]; exact hf _)]
    show intW (numS p) = _
    rw [intW_num h1, Nat.pow_one]
theorem foldW_fac : ∀ (l : List (Nat × Nat)) (p n a : Nat), IsFac p l n → (∀ q ∈ l, q.1 < 100000 ∧ 1 ≤ q.2 ∧ q.2 ≤ 14) → foldW (l.map wordS) a = some (a * n)
  | [], p, n, a, h, _ => by
    have h : n = 1 := h
    rw [h, Nat.mul_one]; rfl
  | (q, k) :: l, p, n, a, h, hb => by
    obtain ⟨_, _, _, m, e, _, h6⟩ := h
    have b := hb (q, k) (by simp)
    show (match powW (wordS (q, k)) with
      | some b => foldW (l.map wordS) (a * b)
      | none => none) = _
    rw [powW_word b.1 b.2.1 b.2.2]
    show foldW (l.map wordS) (a * q ^ k) = _
    rw [foldW_fac l (q + 1) m _ h6 (fun x hx => hb x (List.mem_cons_of_mem _ hx)), e]
    congr 1
    rw [Nat.mul_assoc, Nat.mul_comm (q ^ k) m]
theorem fac_small {n : Nat} (h1 : 1 ≤ n) (h2 : n ≤ 20000) : ∀ q ∈ fac n, q.1 < 100000 ∧ 1 ≤ q.2 ∧ q.2 ≤ 14 := fun q hq => by
  obtain ⟨a, b, c, d, _⟩ := fac_mem h1 hq
  refine ⟨by omega, b, ?_⟩
  rcases Nat.lt_or_ge 14 q.2 with z | z
  · have h3 : 2 ^ 15 ≤ q.1 ^ q.2 := Nat.le_trans (Nat.pow_le_pow_right (by decide) z) (Nat.pow_le_pow_left a.1 _)
    omega
  · exact z
/-- p * (p + 1) * .. -/
def asc : Nat → Nat → Nat
  | _, 0 => 1
  | p, k + 1 => p * asc (p + 1) k
theorem asc_mono : ∀ (k p q : Nat), p ≤ q → asc p k ≤ asc q k
  | 0, _, _, _ => Nat.le_refl _
  | k + 1, p, q, h => Nat.mul_le_mul h (asc_mono k (p + 1) (q + 1) (by omega))
theorem asc_fac : ∀ (l : List (Nat × Nat)) (p n : Nat), 1 ≤ n → IsFac p l n → asc p l.length ≤ n
  | [], p, n, hn, h => hn
  | (q, k) :: l, p, n, hn, h => by
    obtain ⟨h1, h2, h3, m, e, _, h6⟩ := h
    have hm : 1 ≤ m := by
      rcases Nat.eq_zero_or_pos m with z | z
      · subst z; omega
      · exact z
    have ih := asc_fac l (q + 1) m hm h6
    have hq : q ^ 1 ≤ q ^ k := Nat.pow_le_pow_right (by have := h2.1; omega) h3
    rw [Nat.pow_one] at hq
    show p * asc (p + 1) l.length ≤ n
    rw [e, Nat.mul_comm m]
    exact Nat.mul_le_mul (by omega) (Nat.le_trans (asc_mono _ _ _ (by omega)) ih)
theorem asc_le : ∀ (j k : Nat), asc 2 k ≤ asc 2 (k + j) := by
  have key : ∀ (k p : Nat), 1 ≤ p → asc p k ≤ asc p (k + 1) := by
    intro k
    induction k with
    | zero => intro p hp; show 1 ≤ p * 1; omega
    | succ k ih => intro p hp; exact Nat.mul_le_mul (Nat.le_refl p) (ih (p + 1) (by omega))
  intro j
  induction j with
  | zero => intro k; exact Nat.le_refl _
  | succ j ih => intro k; exact Nat.le_trans (ih k) (key (k + j) 2 (by decide))
theorem fac_len {n : Nat} (h1 : 1 ≤ n) (h2 : n ≤ 20000) : (fac n).length ≤ 6 := by
  have := asc_fac (fac n) 2 n h1 (fac_isFac h1)
  rcases Nat.lt_or_ge 6 (fac n).length with z | z
  · have h3 := asc_le ((fac n).length - 7) 7
    have e : 7 + ((fac n).length - 7) = (fac n).length := by omega
    rw [e] at h3
    have h4 : asc 2 7 = 40320 := by decide
    omega
  · exact z
theorem joinL_len (S : List Nat) (m : Nat) : ∀ (l : List (List Nat)), (∀ p ∈ l, p.length ≤ m) → (joinL S l).length ≤ l.length * (m + S.length)
  | [], _ => Nat.zero_le _
  | [p], h => by
    have := h p (by simp)
    show p.length ≤ 1 * (m + S.length)
    omega
  | p :: q :: r, h => by
    have h1 := h p (by simp)
    have h2 := joinL_len S m (q :: r) fun x hx => h x (List.mem_cons_of_mem _ hx)
    show (p ++ (S ++ joinL S (q :: r))).length ≤ _
    rw [List.length_append, List.length_append, List.length_cons (as := q :: r), Nat.add_mul]
    omega
theorem joinL_mem (S : List Nat) {c : Nat} : ∀ (l : List (List Nat)), c ∈ joinL S l → c ∈ S ∨ ∃ p ∈ l, c ∈ p
  | [], h => by cases h
  | [p], h => .inr ⟨p, by simp, h⟩
  | p :: q :: r, h => by
    have h : c ∈ p ++ (S ++ joinL S (q :: r)) := h
    rcases List.mem_append.mp h with a | a
    · exact .inr ⟨p, by simp, a⟩
    · rcases List.mem_append.mp a with b | b
      · exact .inl b
      · rcases joinL_mem S (q :: r) b with d | ⟨x, hx, d⟩
        · exact .inl d
        · exact .inr ⟨x, List.mem_cons_of_mem _ hx, d⟩
theorem word_len {q : Nat × Nat} (h : q.1 < 100000 ∧ 1 ≤ q.2 ∧ q.2 ≤ 14) : (tl (wordS q)).length ≤ 8 := by
  obtain ⟨p, k⟩ := q
  rw [tl_word, List.length_append]
  have h1 : (numL p).length ≤ 5 := numL_len (k := 5) (by decide) h.1
  have h2 : (numL k).length ≤ 2 := numL_len (n := k) (k := 2) (by decide) (by have : k ≤ 14 := h.2.2; show k < 100; omega)
  split
  · rw [List.length_cons]; omega
  · simp; omega
/-- the signs of such texts -/
def OkC (c : Nat) : Prop := c = 42 ∨ c = 94 ∨ (48 ≤ c ∧ c ≤ 57)
theorem word_okC {q : Nat × Nat} : ∀ c ∈ tl (wordS q), c = 94 ∨ (48 ≤ c ∧ c ≤ 57) := fun c hc => by
  obtain ⟨p, k⟩ := q
  rw [tl_word] at hc
  rcases List.mem_append.mp hc with a | a
  · exact .inr (numL_digits p c a)
  · split at a
    · rcases List.mem_cons.mp a with b | b
      · exact .inl b
      · exact .inr (numL_digits k c b)
    · cases a
theorem written_okC (n : Nat) : ∀ c ∈ tl (writtenS n), OkC c := fun c hc => by
  unfold writtenS at hc
  split at hc
  · rw [tl_one] at hc
    rw [List.mem_singleton.mp hc]
    exact .inr (.inr (by omega))
  · rw [join_eq, tl_join, tl_star] at hc
    rcases joinL_mem _ _ hc with a | ⟨p, hp, a⟩
    · exact .inl (List.mem_singleton.mp a)
    · obtain ⟨s, hs, rfl⟩ := List.mem_map.mp hp
      obtain ⟨q, _, rfl⟩ := List.mem_map.mp hs
      rcases word_okC c a with b | b
      · exact .inr (.inl b)
      · exact .inr (.inr b)
theorem written_len {n : Nat} (h1 : 1 ≤ n) (h2 : n ≤ 20000) : (writtenS n).length ≤ 60 := by
  unfold writtenS
  split
  · decide +kernel
  · rw [len_tl, join_eq, tl_join, tl_star]
    have h3 := joinL_len [42] 8 (((fac n).map wordS).map tl) (fun p hp => by
      obtain ⟨s, hs, rfl⟩ := List.mem_map.mp hp
      obtain ⟨q, hq, rfl⟩ := List.mem_map.mp hs
      exact word_len (fac_small h1 h2 q hq))
    have h4 := fac_len h1 h2
    rw [List.length_map, List.length_map] at h3
    show _ ≤ 60
    have h5 : (fac n).length * (8 + [42].length) ≤ 6 * 9 := Nat.mul_le_mul h4 (Nat.le_refl _)
    omega
theorem one_parts : Txt.split ("1" : Str) "*" = [("1" : Str)] := by
  refine map_tl_inj ?_
  rw [split_spl _ _ (by rw [tl_star]; simp) (kind_ok star_ok), tl_star, tl_one]
  show _ = [tl ("1" : Str)]
  rw [tl_one]
  rfl
theorem parse_written {n : Nat} (h1 : 1 ≤ n) (h2 : n ≤ 20000) : parseS (writtenS n) = some n := by
  have hl := written_len h1 h2
  have hf : foldW (Txt.split (writtenS n) "*") 1 = some n := by
    by_cases e : (fac n).map wordS = []
    · have e2 : fac n = [] := List.map_eq_nil_iff.mp e
      have e3 := (fac_nil h1).mp e2
      subst e3
      unfold writtenS
      rw [if_pos e, one_parts]
      have e4 : ("1" : Str) = wordS (1, 1) := by
        refine ext_tl ?_
        rw [tl_one, tl_word, numL_lt (by decide)]
        rfl
      rw [e4]
      show (match powW (wordS (1, 1)) with
        | some b => foldW [] (1 * b)
        | none => none) = _
      rw [powW_word (by decide) (by decide) (by decide)]
      rfl
    · have e2 : writtenS n = Txt.join "*" ((fac n).map wordS) := by unfold writtenS; rw [if_neg e]
      rw [e2, split_join tl_star star_ok e fun p hp => by
        obtain ⟨q, _, rfl⟩ := List.mem_map.mp hp
        intro hc
        have := word_okC 42 hc
        omega]
      rw [foldW_fac (fac n) 2 n 1 (fac_isFac h1) (fac_small h1 h2), Nat.one_mul]
  unfold parseS
  rw [if_neg (by omega), hf]
  show (if 1 ≤ n ∧ n ≤ 20000 ∧ writtenS n = writtenS n then some n else none) = some n
  rw [if_pos ⟨h1, h2, rfl⟩]
theorem parse_no {t : Str} (h : ¬ 60 < t.length) (e : foldW (Txt.split t "*") 1 = none) : parseS t = none := by unfold parseS; rw [if_neg h, e]
theorem parse_at {t : Str} {a : Nat} (h : ¬ 60 < t.length) (e : foldW (Txt.split t "*") 1 = some a) : parseS t = if 1 ≤ a ∧ a ≤ 20000 ∧ writtenS a = t then some a else none := by unfold parseS; rw [if_neg h, e]
theorem parse_some {t : Str} {n : Nat} (h : parseS t = some n) : 1 ≤ n ∧ n ≤ 20000 ∧ writtenS n = t := by
  unfold parseS at h
  split at h
  · cases h
  · split at h
    · split at h
      · rename_i h2
        cases h
        exact h2
      · cases h
    · cases h
/-! the law's own loop -/
def LI (N left p : Nat) (acc : List (Nat × Nat)) : Prop := 1 ≤ left ∧ 2 ≤ p ∧ Rough p left ∧ ∃ f, left + 2 ≤ f + p ∧ acc ++ facF f left p = fac N
def nextP (p left : Nat) : Nat := if p * p ≤ left then p + 1 else max (p + 1) left
theorem LI.start {N : Nat} (h : 1 ≤ N) : LI N N 2 [] := ⟨h, Nat.le_refl _, fun d a b => by omega, N, by omega, rfl⟩
theorem LI.fin {N p : Nat} {acc : List (Nat × Nat)} (h : LI N 1 p acc) : acc = fac N := by
  obtain ⟨_, h2, _, f, _, e⟩ := h
  have e1 : facF f 1 p = [] := by
    cases f with
    | zero => rfl
    | succ f =>
      have := Nat.mul_le_mul h2 h2
      rw [facF, if_neg (by omega)]; rfl
  rw [e1, List.append_nil] at e
  exact e
theorem LI.le {N left p : Nat} {acc : List (Nat × Nat)} (h : LI N left p acc) (h1 : 1 < left) : p ≤ left := by
  obtain ⟨_, _, hr, _⟩ := h
  rcases Nat.lt_or_ge left p with z | z
  · exact absurd (Nat.dvd_refl left) (hr left (by omega) z)
  · exact z
theorem facF_tail {f n p : Nat} (h : n < p * p) : facF f n p = tailF n := by
  cases f with
  | zero => rfl
  | succ f => rw [facF, if_neg (by omega)]
/-- a rough number below the square is prime -/
theorem rough_prime {p n : Nat} (h2 : 2 ≤ p) (hn : 1 < n) (hr : Rough p n) (h : n < p * p) : ∀ d, 2 ≤ d → d ∣ n → d = n := by
  intro d hd hdv
  obtain ⟨e, he⟩ := hdv
  have a1 : p ≤ d := by
    rcases Nat.lt_or_ge d p with z | z
    · exact absurd ⟨e, he⟩ (hr d hd z)
    · exact z
  rcases Nat.lt_or_ge 1 e with z | z
  · have a2 : p ≤ e := by
      rcases Nat.lt_or_ge e p with y | y
      · exact absurd ⟨d, by rw [Nat.mul_comm]; exact he⟩ (hr e z y)
      · exact y
    have := Nat.mul_le_mul a1 a2
    omega
  · have : e ≠ 0 := fun q => by subst q; omega
    have : e = 1 := by omega
    subst this
    omega
theorem LI.step {N left p : Nat} {acc : List (Nat × Nat)} (h : LI N left p acc) (h1 : 1 < left) : LI N (stripF left p left 0).1 (nextP p (stripF left p left 0).1) (acc ++ if 0 < (stripF left p left 0).2 then [(p, (stripF left p left 0).2)] else []) ∧ p + 1 ≤ nextP p (stripF left p left 0).1 ∧ (stripF left p left 0).1 ≤ left := by
  have hle := h.le h1
  obtain ⟨hl, h2, hr, f, hf, e⟩ := h
  obtain ⟨a1, a2, a3, a4, a5⟩ := strip_spec left p left 0 h2 hl (Nat.le_refl _)
  generalize hr0 : stripF left p left 0 = r at *
  rw [Nat.sub_zero] at a5
  have hdv : r.1 ∣ left := ⟨p ^ r.2, a5⟩
  have hnp : p + 1 ≤ nextP p r.1 := by
    unfold nextP
    split
    · exact Nat.le_refl _
    · exact Nat.le_max_left _ _
  have rough' : Rough (p + 1) r.1 := fun d d2 dp hd => by
    by_cases e : d = p
    · subst e
      exact a3 (Nat.mod_eq_zero_of_dvd hd)
    · exact hr d d2 (by omega) (Nat.dvd_trans hd hdv)
  have roughN : Rough (nextP p r.1) r.1 := by
    unfold nextP
    split
    · exact rough'
    · rename_i hpp
      intro d d2 dp hd
      have hr1 : 1 < r.1 := by
        rcases Nat.lt_or_ge 1 r.1 with z | z
        · exact z
        · have := Nat.le_of_dvd a1 hd
          omega
      have hle1 : p + 1 ≤ r.1 := by
        rcases Nat.lt_or_ge r.1 (p + 1) with z | z
        · exact absurd (Nat.dvd_refl _) (rough' r.1 (by omega) z)
        · exact z
      rw [Nat.max_eq_right hle1] at dp
      have := rough_prime (p := p + 1) (by omega) hr1 rough' (by
        have : (p + 1) * (p + 1) = p * p + p + p + 1 := by rw [Nat.add_mul, Nat.mul_add]; omega
        omega) d d2 hd
      omega
  refine ⟨⟨a1, by omega, roughN, ?_⟩, hnp, a2⟩
  have tailN : ∀ g, r.1 < p * p → facF g r.1 (nextP p r.1) = tailF r.1 := fun g hlt => by
    refine facF_tail ?_
    have h3 := Nat.mul_le_mul hnp hnp
    have h4 : (p + 1) * (p + 1) = p * p + p + p + 1 := by rw [Nat.add_mul, Nat.mul_add]; omega
    omega
  by_cases hpp : p * p ≤ left
  · obtain ⟨g, rfl⟩ : ∃ g, f = g + 1 := by
      refine ⟨f - 1, ?_⟩
      have := Nat.le_mul_self p
      have h3 := Nat.mul_le_mul h2 (Nat.le_refl p)
      omega
    rw [facF, if_pos hpp, hr0] at e
    refine ⟨g, by omega, ?_⟩
    have e2 : facF g r.1 (nextP p r.1) = facF g r.1 (p + 1) := by
      by_cases hq : p * p ≤ r.1
      · unfold nextP
        rw [if_pos hq]
      · rw [tailN g (by omega)]
        refine (facF_tail ?_).symm
        have h4 : (p + 1) * (p + 1) = p * p + p + p + 1 := by rw [Nat.add_mul, Nat.mul_add]; omega
        omega
    rw [e2, List.append_assoc]
    exact e
  · have hlt : left < p * p := by omega
    rw [facF_tail hlt] at e
    have hP := rough_prime h2 h1 hr hlt
    have htl : tailF left = [(left, 1)] := by unfold tailF; rw [if_pos h1]
    refine ⟨f, by omega, ?_⟩
    rw [tailN f (by omega)]
    by_cases hd : p ∣ left
    · have ep : p = left := hP p h2 hd
      have hk : r.2 ≠ 0 := fun z => by
        rw [z, Nat.pow_zero, Nat.mul_one] at a5
        rw [← a5] at a3
        exact a3 (Nat.mod_eq_zero_of_dvd hd)
      have hk2 : r.2 < 2 := by
        rcases Nat.lt_or_ge r.2 2 with z | z
        · exact z
        · have h3 : p ^ 2 ≤ p ^ r.2 := Nat.pow_le_pow_right (by omega) z
          have h4 : p ^ r.2 ≤ r.1 * p ^ r.2 := Nat.le_mul_of_pos_left _ a1
          rw [Nat.pow_two] at h3
          omega
      have hk1 : r.2 = 1 := by omega
      rw [hk1, Nat.pow_one, ← ep] at a5
      have hr1 : r.1 = 1 := by
        have : r.1 * p = 1 * p := by omega
        exact Nat.eq_of_mul_eq_mul_right (by omega) this
      rw [hk1, hr1, if_pos (by decide)]
      have : tailF 1 = [] := rfl
      rw [this, List.append_nil, ep, ← htl]
      exact e
    · have hk : r.2 = 0 := by
        rcases Nat.eq_zero_or_pos r.2 with z | z
        · exact z
        · exfalso
          apply hd
          obtain ⟨j, hj⟩ : ∃ j, r.2 = j + 1 := ⟨r.2 - 1, by omega⟩
          rw [hj, Nat.pow_succ] at a5
          exact ⟨r.1 * p ^ j, by rw [a5, ← Nat.mul_assoc, Nat.mul_comm p]⟩
      rw [hk, Nat.pow_zero, Nat.mul_one] at a5
      rw [hk, if_neg (by decide), List.append_nil, ← a5]
      exact e
end Mi

/-! defs that are handed own objects -/
namespace Dw
open PySem PySem.Spec PyProof.Rows L2 LamX
abbrev Rows := List (Addr × Ob)
/-- H without the objects at S; tb: without any table, too -/
def lessM (tb : Bool) (H : Hp) (S : List Addr) : Hp := fun b => if b ∈ S then none else match tb, H b with
  | true, some (.tbl _) => none
  | _, r => r
theorem lessM_sub {tb : Bool} {H : Hp} {S : List Addr} : Same (lessM tb H S) H := fun a o h => by
  unfold lessM at h
  split at h
  · cases h
  · split at h
    · cases h
    · exact h
theorem lessM_at {tb : Bool} {H : Hp} {S : List Addr} {b : Addr} {o : HO} (h : H b = some o) (n : b ∉ S) (hn : tb = true → ∀ ps, o ≠ .tbl ps) : lessM tb H S b = some o := by
  unfold lessM
  rw [if_neg n]
  split
  · rename_i ps e
    rw [h] at e
    exact (hn rfl _ (Option.some.inj e)).elim
  · exact h
theorem lessM_in {tb : Bool} {H : Hp} {S : List Addr} {b : Addr} (n : b ∈ S) : lessM tb H S b = none := if_pos n
theorem lessM_noT (H : Hp) (S : List Addr) : noT (lessM true H S) := fun a ps h => by
  have h1 := lessM_sub a _ h
  unfold lessM at h
  split at h
  · cases h
  · rw [h1] at h
    cases h
/-- no table -/
def noTab (r : Addr × Ob) : Prop := match r.2 with
  | .tab _ => False
  | .raw o => ∀ ps, o ≠ .tbl ps
  | _ => True
/-- how a def leaves the own objects -/
structure Fin (P Hl P' H' : Hp) (W' : Rows) : Prop where
  gr : Gr P Hl P' H'
  own : ∀ r ∈ W', P' r.1 = none ∧ ObAt P' H' r.1 r.2
  fr : ∀ r ∈ W', Hl r.1 = none
  nd : (W'.map (·.1)).Nodup
inductive OutW where
  | ret (T : Hp → V → Rows → Prop)
  | exc (C : Addr) (T : Rows → Prop)
def QW (P Hl : Hp) (Q : VK) (E : XK) : OutW → Prop
  | .ret T => ∀ v P' H' W', Fin P Hl P' H' W' → T P' v W' → Q v H'
  | .exc C T => ∀ P' H' W', Fin P Hl P' H' W' → T W' → E (.ref C) none H'
def SlsAt (P : Hp) (ρ : List Sl) (vs : List V) : Prop := ρ.length = vs.length ∧ ∀ (i : Nat) (s : Sl), ρ[i]? = some s → ∃ v, vs[i]? = some v ∧ SlAt P s (some v)
def spG (tb : Bool) (n : Nat) (R : List Sl → Rows → OutW → Prop) : Sp := fun vs H Q E => ∃ (P : Hp) (ρ : List Sl) (W : Rows) (o : OutW), vs.length = n ∧ SlsAt P ρ vs ∧ Same P H ∧ (∀ a o, P a = some o → isD o = true) ∧ (∀ r ∈ W, P r.1 = none ∧ ObAt P H r.1 r.2) ∧ (W.map (·.1)).Nodup ∧ R ρ W o ∧ QW P (lessM tb H (W.map (·.1))) Q E o
structure CalW (P : Program) (w : World) (K : PySem.W.Frag) (mg : Str → Option Value) (base : Heap) (tb : Bool) (x : Str) (k n : Nat) (R : List Sl → Rows → OutW → Prop) : Prop where
  ex : ∃ (f : Addr) (fd : FuncData) (ps : List Str), mg x = some (.ref f) ∧ PySem.W.keepIn K (.ref f) = true ∧ Binds K fd ps [] ∧ FnOk P w K mg base (L2N.CX P w) k f fd ps (spG tb n R)
theorem start_at {N : List Str} {vs : List V} (hn : vs.length ≤ N.length) {i : Nat} {v : V} (h : vs[i]? = some v) : (L2.start N vs)[i]? = some (some v) := by
  unfold L2.start
  have hi := (List.getElem?_eq_some_iff.mp h).1
  rw [List.getElem?_append_left (by rw [List.length_map]; exact hi), List.getElem?_map, h]
  rfl
theorem sat_startW {tb : Bool} {P H : Hp} {N : List Str} {vs : List V} {ρ : List Sl} {W : Rows} (hs : SlsAt P ρ vs) (e : Same P H) (pd : ∀ a o, P a = some o → isD o = true) (ho : ∀ r ∈ W, P r.1 = none ∧ ObAt P H r.1 r.2) (nd : (W.map (·.1)).Nodup) (hn : vs.length ≤ N.length) :
    Sat P P (lessM tb H (W.map (·.1))) W (ρ ++ List.replicate (N.length - ρ.length) .no) (L2.start N vs) P H where
  sb := Same.refl _
  pd := pd
  e0 := fun a o h => lessM_at (e a o h) (fun hm => by
    obtain ⟨r, hr, rfl⟩ := List.mem_map.mp hm
    rw [(ho r hr).1] at h; cases h) fun _ ps z => by
      have := pd a o h
      rw [z] at this
      cases this
  gr := ⟨lessM_sub, Same.refl _, e, fun _ _ h => .inl h, fun _ _ h => .inl h⟩
  own := ho
  fr := fun r hr => lessM_in (List.mem_map.mpr ⟨r, hr, rfl⟩)
  nd := nd
  len := by
    have := hs.1
    unfold L2.start
    simp only [List.length_append, List.length_map, List.length_replicate]
    omega
  sl := fun i s h => by
    have hl := hs.1
    by_cases hi : i < ρ.length
    · rw [List.getElem?_append_left hi] at h
      obtain ⟨v, h1, h2⟩ := hs.2 i s h
      exact ⟨some v, start_at hn h1, h2⟩
    · rw [List.getElem?_append_right (by omega), List.getElem?_replicate] at h
      split at h
      · cases h
        refine ⟨none, ?_, trivial⟩
        unfold L2.start
        rw [List.getElem?_append_right (by rw [List.length_map]; omega), List.getElem?_replicate, if_pos (by rw [List.length_map]; omega)]
      · cases h
section
variable {P : Program} {w : World} {K : PySem.W.Frag} {mg : Str → Option Value} {base : Heap} {x : Str} {st : Stmt} {ps N : List Str} {k n : Nat} {tb : Bool} {R : List Sl → Rows → OutW → Prop}
theorem Def.calW (F : Def K mg x st ps) (S : FnScope N ps (defScope st)) (hn : ps.length = n)
    (hbody : ∀ (f : Addr) (cdv : Value) (A : Around) (outer : List Env) (s : Shared) (H P1 Hl : Hp) (ρ : List Sl) (W : Rows) (o : OutW) (Q : VK) (E : XK), Room k (A.deeper (envOfC x (defScope st) s.heap.objs.size f cdv)) → (tb = true → noT Hl) →
      Passes (L2N.CX P w) (cxOf (L2N.CX P w) P w K mg base N x (defScope st) f cdv A outer s H E) E → L2N.Takes (cxOf (L2N.CX P w) P w K mg base N x (defScope st) f cdv A outer s H E) (fun cls d _ H => E cls d H) →
      PassesOwn (model P w) (A.deeper (envOfC x (defScope st) s.heap.objs.size f cdv)) (envOfC x (defScope st) s.heap.objs.size f cdv) (cxOf (L2N.CX P w) P w K mg base N x (defScope st) f cdv A outer s H E).xe → ρ.length = n → R ρ W o →
      QW P1 Hl Q E o →
      G (cxOf (L2N.CX P w) P w K mg base N x (defScope st) f cdv A outer s H E) P1 P1 Hl W (ρ ++ List.replicate (N.length - n) .no) (defBody st) (endsD Q)) : CalW P w K mg base tb x (k + 1) n R := by
  obtain ⟨f, fd, hm, hF, hB⟩ := F.ex
  refine ⟨f, fd, ps, hm, hF.kp, hB, ?_⟩
  refine hF.okN S (fun vs H Q E h => ?_) (fun cdv A outer s H vs Q E hr h => ?_)
  · obtain ⟨P1, ρ, W, o, e1, _⟩ := h
    rw [e1, hn]
  · obtain ⟨P1, ρ, W, o, e1, e2, e3, e4, e5, e6, e7, e8⟩ := h
    have hpl : ps.length ≤ N.length := by have := congrArg List.length S.pre; rw [List.length_take] at this; omega
    have tk : L2N.Takes (cxOf (L2N.CX P w) P w K mg base N x (defScope st) f cdv A outer s H E) (fun cls d _ H => E cls d H) := L2N.takes_of rfl rfl rfl rfl
    have hρ : ρ.length = n := by rw [e2.1, e1]
    refine ⟨_, pss_u, ?_⟩
    have hst := sat_startW (tb := tb) (N := N) e2 e3 e4 e5 e6 (by omega)
    rw [hρ] at hst
    exact hbody f cdv A outer s H P1 _ ρ W o Q E hr (fun e => by subst e; exact lessM_noT _ _) (L2N.passes_call tk fun _ _ _ _ h => h) tk (passes_of rfl) hρ e7 e8 _ P1 H hst
end
theorem Sat.fin {P1 Hl P H : Hp} {W : Rows} {ρ : List Sl} {σ : L2.St} {B : Hp} (S : Sat B P1 Hl W ρ σ P H) : Fin P1 Hl P H W := ⟨S.gr, S.own, S.fr, S.nd⟩
theorem Sat.perm {B P0 H0 P H : Hp} {W W' : Rows} {ρ : List Sl} {σ : L2.St} (S : Sat B P0 H0 W ρ σ P H) (h : W.Perm W') : Sat B P0 H0 W' ρ σ P H :=
  { S with own := fun r hr => S.own r (h.mem_iff.mpr hr), fr := fun r hr => S.fr r (h.mem_iff.mpr hr), nd := (h.map _).nodup_iff.mp S.nd }
/-- no object of code -/
def notCode (H : Hp) (r : Addr × Ob) : Prop := ∀ c q, H r.1 ≠ some (CodeO c q)
/-- the rows that a def was not handed, behind its call -/
theorem ObAt.less {tb : Bool} {P H : Hp} {a : Addr} {o : Ob} {S : List Addr} (h : ObAt P H a o) (n : a ∉ S) (hc : ∀ b ∈ S, ∀ c q, H b ≠ some (CodeO c q)) (ht : tb = true → noTab (a, o)) : ObAt P (lessM tb H S) a o := by
  cases o with
  | lst ds =>
    obtain ⟨xs, y1, y2⟩ := h
    exact ⟨xs, lessM_at y1 n (fun _ ps z => by cases z), y2⟩
  | raw u => exact lessM_at h n ht
  | vol =>
    obtain ⟨c, k, y⟩ := h
    exact ⟨c, k, lessM_at y n (fun _ ps z => by cases z)⟩
  | tab q =>
    cases tb with
    | true => exact (ht rfl).elim
    | false =>
      obtain ⟨ps, y1, y2, y3⟩ := h
      refine ⟨ps, lessM_at y1 n (fun z => by cases z), y2, fun pos cv z => ?_⟩
      obtain ⟨cc, z1, z2⟩ := y3 pos cv z
      exact ⟨cc, z1, lessM_at z2 (fun hm => hc cc hm _ _ z2) (fun z => by cases z)⟩
theorem Sat.back {tb : Bool} {B P0 H0 P H P' H' : Hp} {Wr W1 W' : Rows} {ρ : List Sl} {σ : L2.St} (S : Sat B P0 H0 (Wr ++ W1) ρ σ P H) (hc : ∀ b ∈ W1.map (·.1), ∀ c q, H b ≠ some (CodeO c q)) (hw : tb = true → noT H0 ∧ ∀ r ∈ Wr, noTab r) (F : Fin P (lessM tb H (W1.map (·.1))) P' H' W') : Sat B P0 H0 (Wr ++ W') ρ σ P' H' := by
  have hS0 : ∀ b ∈ W1.map (·.1), H0 b = none := fun b hb => by
    obtain ⟨r, hr, rfl⟩ := List.mem_map.mp hb
    exact S.fr r (List.mem_append_right _ hr)
  have hnd := S.nd
  rw [List.map_append, List.nodup_append] at hnd
  have hWr : ∀ r ∈ Wr, r.1 ∉ W1.map (·.1) := fun r hr hm => hnd.2.2 r.1 (List.mem_map.mpr ⟨r, hr, rfl⟩) r.1 hm rfl
  have hless : ∀ b o, H0 b = some o → lessM tb H (W1.map (·.1)) b = some o := fun b o h => lessM_at (S.gr.hh b o h) (fun hm => by rw [hS0 b hm] at h; cases h) fun e ps z => (hw e).1 b ps (by rw [h, z])
  have hrows : ∀ r ∈ Wr, ObAt P (lessM tb H (W1.map (·.1))) r.1 r.2 := fun r hr => (S.own r (List.mem_append_left _ hr)).2.less (hWr r hr) hc fun e => (hw e).2 r hr
  refine ⟨S.sb.trans F.gr.pp, fun a o h => ?_, S.e0, ⟨fun b o h => F.gr.hh b o (hless b o h), S.gr.pp.trans F.gr.pp, F.gr.ph, fun b o h => ?_, fun b o h => ?_⟩, fun r hr => ?_, fun r hr => ?_, ?_, S.len, fun i s h => ?_⟩
  · rcases F.gr.nd a o h with q | q
    · exact S.pd a o q
    · exact q
  · rcases F.gr.nw b o h with q | q
    · exact S.gr.nw b o q
    · right
      cases e : H0 b with
      | none => rfl
      | some u => rw [hless b u e] at q; cases q
  · rcases F.gr.nd b o h with q | q
    · exact S.gr.nd b o q
    · exact .inr q
  · rcases List.mem_append.mp hr with hr | hr
    · refine ⟨?_, (hrows r hr).grow F.gr⟩
      cases e : P' r.1 with
      | none => rfl
      | some u =>
        rcases F.gr.nw r.1 u e with q | q
        · rw [(S.own r (List.mem_append_left _ hr)).1] at q; cases q
        · obtain ⟨u', hu'⟩ := (hrows r hr).there
          rw [hu'] at q; cases q
    · exact F.own r hr
  · rcases List.mem_append.mp hr with hr | hr
    · exact S.fr r (List.mem_append_left _ hr)
    · cases e : H0 r.1 with
      | none => rfl
      | some u =>
        have := F.fr r hr
        rw [hless r.1 u e] at this; cases this
  · rw [List.map_append, List.nodup_append]
    refine ⟨hnd.1, F.nd, fun a ha b hb e => ?_⟩
    obtain ⟨r, hr, rfl⟩ := List.mem_map.mp ha
    obtain ⟨r', hr', rfl⟩ := List.mem_map.mp hb
    obtain ⟨u, hu⟩ := (hrows r hr).there
    have h2 := F.fr r' hr'
    rw [← e, hu] at h2
    cases h2
  · obtain ⟨v, h1, h2⟩ := S.sl i s h
    exact ⟨v, h1, h2.mono F.gr.pp⟩
/-! ### expressions that change the own objects -/
def QS (B P0 H0 : Hp) (ρ : List Sl) (σ : L2.St) (P : Hp) (Q : VK) (E : XK) : OutW → Prop
  | .ret T => ∀ v P' H' W', Sat B P0 H0 W' ρ σ P' H' → Same P P' → T P' v W' → Q v H'
  | .exc C T => ∀ P' H' W', Sat B P0 H0 W' ρ σ P' H' → Same P P' → T W' → E (.ref C) none H'
def EW (X : Cx) (B P0 H0 : Hp) (W : Rows) (ρ : List Sl) (e : Expr) (o : OutW) (E : XK) : Prop := ∀ σ P H, Sat B P0 H0 W ρ σ P H → ∀ Q : VK, QS B P0 H0 ρ σ P Q E o → uE X e σ H Q
/-- arguments: data, own objects -/
def SA (X : Cx) (B P0 H0 : Hp) (W : Rows) (ρ : List Sl) (es : List Expr) (ρa : List Sl) : Prop := ∀ σ P H, Sat B P0 H0 W ρ σ P H → ∀ Q : List V → Hp → Prop, (∀ vs P' H', Gr P H P' H' → SlsAt P' ρa vs → Q vs H') → uA X es σ H Q
/-- what a def does to the rows it is handed, seen by its caller -/
def OutW.up (Wr : Rows) : OutW → OutW
  | .ret T => .ret fun P' v W' => ∃ W1, W' = Wr ++ W1 ∧ T P' v W1
  | .exc C T => .exc C fun W' => ∃ W1, W' = Wr ++ W1 ∧ T W1
section
variable {X : Cx} {B P0 H0 : Hp} {W Wr W1 : Rows} {ρ ρa : List Sl} {m : Bool} {a b c e o tg : Expr} {es : List Expr} {pos p1 p2 p3 apos : Pos} {d : PyData} {D : Ends} {rest : List Stmt} {x y : Str} {E : XK} {ot : OutW}
theorem SlsAt.mono {P P' : Hp} {ρ : List Sl} {vs : List V} (h : SlsAt P ρ vs) (e : Same P P') : SlsAt P' ρ vs := ⟨h.1, fun i s hs => by
  obtain ⟨v, a, b⟩ := h.2 i s hs
  exact ⟨v, a, b.mono e⟩⟩
theorem SlsAt.cons {P : Hp} {s : Sl} {v : V} {ρ : List Sl} {vs : List V} (h : SlAt P s (some v)) (t : SlsAt P ρ vs) : SlsAt P (s :: ρ) (v :: vs) := ⟨by simp [t.1], fun i s' hs => by
  cases i with
  | zero =>
    have : s = s' := by simpa using hs
    subst this
    exact ⟨v, rfl, h⟩
  | succ i => exact t.2 i s' (by simpa using hs)⟩
theorem sa_nil : SA X B P0 H0 W ρ [] [] := fun σ P H S Q q => ⟨_, pa_nil, q [] P H (gr_refl S) ⟨rfl, fun i s h => by simp at h⟩⟩
theorem sa_dat (h : DE X B P0 H0 W ρ true e d) (t : SA X B P0 H0 W ρ es ρa) (hs : starEach (e :: es) X.env = (false, eval e X.env) :: starEach es X.env := by rfl) : SA X B P0 H0 W ρ (e :: es) (.dat d :: ρa) := fun σ P H S Q q =>
  ⟨_, pa_cons pe_u pa_u hs, h σ P H S _ fun v P1 H1 g1 k1 => t σ P1 H1 (S.grow g1) _ fun vs P2 H2 g2 k2 => q _ P2 H2 (g1.trans g2) (.cons ⟨v, rfl, dq_mono g2.pp _ _ k1⟩ k2)⟩
theorem sa_own (i : Nat) {v : V} {x : Str} (t : SA X B P0 H0 W ρ es ρa) (hρ : ρ[i]? = some (.raw v) := by rfl) (hN : X.N[i]? = some x := by rfl) (hv : Vis X.env.scope x := by first | exact Or.inl rfl | exact Or.inr (Or.inl rfl) | exact Or.inr (Or.inr rfl)) (hd : (x == ("__debug__" : Str)) = false := by decide) (hcd : (x == ("__classdict__" : Str)) = false := by decide)
    (hs : starEach (.Name x pos :: es) X.env = (false, eval (.Name x pos) X.env) :: starEach es X.env := by rfl) : SA X B P0 H0 W ρ (.Name x pos :: es) (.raw v :: ρa) := fun σ P H S Q q => by
  obtain ⟨x', e1, e2⟩ := S.sl i _ hρ
  obtain rfl : x' = some v := e2
  exact ⟨_, pa_cons (pe_var hN hv hd hcd) pa_u hs, _, e1, t σ P H S _ fun vs P2 H2 g2 k2 => q _ P2 H2 g2 (.cons rfl k2)⟩
/-- the own objects handed on are no objects of code -/
def plainRow : Addr × Ob → Prop
  | (_, .lst _) => True
  | (_, .vol) => True
  | (_, .tab _) => True
  | (_, .raw o) => ∀ c q, o ≠ CodeO c q
theorem ObAt.notCode {P H : Hp} {r : Addr × Ob} (h : ObAt P H r.1 r.2) (hp : plainRow r) : ∀ c q, H r.1 ≠ some (CodeO c q) := fun c q z => by
  obtain ⟨a, o⟩ := r
  cases o with
  | lst ds =>
    obtain ⟨xs, y1, _⟩ := h
    have y1 : H a = some (.lst xs) := y1
    have z : H a = some (CodeO c q) := z
    rw [y1] at z
    exact code_lst z
  | raw u =>
    have h : H a = some u := h
    have z : H a = some (CodeO c q) := z
    rw [h] at z
    exact hp c q (Option.some.inj z)
  | vol =>
    obtain ⟨i, j, y⟩ := h
    have y : H a = some (.lst [.int i, .int j]) := y
    have z : H a = some (CodeO c q) := z
    rw [y] at z
    exact code_lst z
  | tab q' =>
    obtain ⟨ps, y1, _⟩ := h
    have y1 : H a = some (.tbl ps) := y1
    have z : H a = some (CodeO c q) := z
    rw [y1] at z
    cases z
theorem qs_up {tb : Bool} {σ : L2.St} {P : Hp} {Q : VK} {P1 H1 : Hp} (S1 : Sat B P0 H0 (Wr ++ W1) ρ σ P1 H1) (s1 : Same P P1) (hp : ∀ r ∈ W1, plainRow r) (hw : tb = true → noT H0 ∧ ∀ r ∈ Wr, noTab r) (q : QS B P0 H0 ρ σ P Q E (ot.up Wr)) : QW P1 (lessM tb H1 (W1.map (·.1))) Q E ot := by
  have hc : ∀ b ∈ W1.map (·.1), ∀ c q, H1 b ≠ some (CodeO c q) := fun b hb => by
    obtain ⟨r, hr, rfl⟩ := List.mem_map.mp hb
    exact (S1.own r (List.mem_append_right _ hr)).2.notCode (hp r hr)
  cases ot with
  | ret T => exact fun v P' H' W' F t => q v P' H' (Wr ++ W') (S1.back hc hw F) (s1.trans F.gr.pp) ⟨W', rfl, t⟩
  | exc C T => exact fun P' H' W' F t => q P' H' (Wr ++ W') (S1.back hc hw F) (s1.trans F.gr.pp) ⟨W', rfl, t⟩
/-- a call of a def by its name -/
theorem ew_call {tb : Bool} {k j n : Nat} {R : List Sl → Rows → OutW → Prop} (C : CalW X.prog X.w X.K X.mg X.base tb x k n R) (hr : Room j X.A) (hk : k ≤ j) (hp : Passes (L2N.CX X.prog X.w) X E) (hW : W.Perm (Wr ++ W1)) (hpl1 : ∀ r ∈ W1, plainRow r) (hw : tb = true → noT H0 ∧ ∀ r ∈ Wr, noTab r) (ha : SA X B P0 H0 W ρ (e :: es) ρa) (hn : ρa.length = n) (hR : R ρa W1 ot) (hg : Gl X x := by rfl) (hdb : (x == ("__debug__" : Str)) = false := by decide)
    (he : starEach (e :: es) X.env = (false, eval e X.env) :: starEach es X.env := by rfl) (hpl : (backTo pos (starEach es X.env)).any (·.1) = false := by rfl) : EW X B P0 H0 W ρ (.Call (.Name x p1) (e :: es) [] pos) (ot.up Wr) E := fun σ P H S Q q => by
  obtain ⟨f, fd, ps, hm, hkp, hB, F⟩ := C.ex
  refine ⟨_, pe_call F (hr.mono hk) hg hm hkp hB .nil hp pa_u hdb he hpl, ha σ P H S _ fun vs P1 H1 g1 k1 => ?_⟩
  rw [List.append_nil]
  have S1 := (S.grow g1).perm hW
  exact ⟨P1, ρa, W1, ot, by rw [← k1.1, hn], k1, S1.gr.ph, S1.pd, fun r hr => S1.own r (List.mem_append_right _ hr), by have := S1.nd; rw [List.map_append, List.nodup_append] at this; exact this.2.1, hR, qs_up S1 g1.pp hpl1 hw q⟩
end
end Dw

/-! instances: fields, methods, making -/
namespace Dw
open PySem PySem.Spec PyProof.Rows L2 LamX
/-- a def's promise over own objects -/
theorem fun_spG {P : Program} {w : World} {K : PySem.W.Frag} {mg : Str → Option Value} {base : Heap} {x qual : Str} {st : Stmt} {f : Addr} {fd : FuncData} {N ps : List Str} {k n : Nat} {R : List Sl → Rows → OutW → Prop} (F : L2.Fun K x qual st f fd) (S : FnScope N ps (defScope st)) (hn : ps.length = n)
    (hbody : ∀ (cdv : Value) (A : Around) (outer : List Env) (s : Shared) (H P1 Hl : Hp) (ρ : List Sl) (W : Rows) (o : OutW) (Q : VK) (E : XK), Room k (A.deeper (envOfC qual (defScope st) s.heap.objs.size f cdv)) →
      Passes (L2N.CX P w) (cxOf (L2N.CX P w) P w K mg base N qual (defScope st) f cdv A outer s H E) E → L2N.Takes (cxOf (L2N.CX P w) P w K mg base N qual (defScope st) f cdv A outer s H E) (fun cls d _ H => E cls d H) →
      PassesOwn (model P w) (A.deeper (envOfC qual (defScope st) s.heap.objs.size f cdv)) (envOfC qual (defScope st) s.heap.objs.size f cdv) (cxOf (L2N.CX P w) P w K mg base N qual (defScope st) f cdv A outer s H E).xe → ρ.length = n → R ρ W o →
      QW P1 Hl Q E o →
      G (cxOf (L2N.CX P w) P w K mg base N qual (defScope st) f cdv A outer s H E) P1 P1 Hl W (ρ ++ List.replicate (N.length - n) .no) (defBody st) (endsD Q)) : FnOk P w K mg base (L2N.CX P w) (k + 1) f fd ps (spG false n R) := by
  refine F.okN S (fun vs H Q E h => ?_) (fun cdv A outer s H vs Q E hr h => ?_)
  · obtain ⟨P1, ρ, W, o, e1, _⟩ := h
    rw [e1, hn]
  · obtain ⟨P1, ρ, W, o, e1, e2, e3, e4, e5, e6, e7, e8⟩ := h
    have hpl : ps.length ≤ N.length := by have := congrArg List.length S.pre; rw [List.length_take] at this; omega
    have tk : L2N.Takes (cxOf (L2N.CX P w) P w K mg base N qual (defScope st) f cdv A outer s H E) (fun cls d _ H => E cls d H) := L2N.takes_of rfl rfl rfl rfl
    have hρ : ρ.length = n := by rw [e2.1, e1]
    refine ⟨_, pss_u, ?_⟩
    have hst := sat_startW (tb := false) (N := N) e2 e3 e4 e5 e6 (by omega)
    rw [hρ] at hst
    exact hbody cdv A outer s H P1 _ ρ W o Q E hr (L2N.passes_call tk fun _ _ _ _ h => h) tk (passes_of rfl) hρ e7 e8 _ P1 H hst
/-- a method as it stands in its class -/
structure DefM (K : PySem.W.Frag) (C : Addr) (m qual : Str) (st : Stmt) (ps : List Str) : Prop where
  ex : ∃ (f : Addr) (fd : FuncData), Meth K C m f ∧ L2.Fun K m qual st f fd ∧ Binds K fd ps []
/-- a method that may be called -/
structure MetW (P : Program) (w : World) (K : PySem.W.Frag) (mg : Str → Option Value) (base : Heap) (C : Addr) (m : Str) (k n : Nat) (R : List Sl → Rows → OutW → Prop) : Prop where
  ex : ∃ (f : Addr) (fd : FuncData) (ps : List Str), Meth K C m f ∧ Binds K fd ps [] ∧ FnOk P w K mg base (L2N.CX P w) k f fd ps (spG false n R)
theorem Sat.row {B P0 H0 P H : Hp} {W : Rows} {ρ : List Sl} {σ : L2.St} (S : Sat B P0 H0 W ρ σ P H) {a : Addr} {u : HO} {ob : Ob} (h : H a = none) (hob : ObAt P (upd H a u) a ob) : Sat B P0 H0 (W ++ [(a, ob)]) ρ σ P (upd H a u) := by
  have S1 := S.grow (Gr.tmp (o := u) S.gr.ph h)
  have ha : ∀ r ∈ W, r.1 ≠ a := fun r hr e => by
    obtain ⟨x, hx⟩ := (S.own r hr).2.there
    rw [e, h] at hx; cases hx
  refine { S1 with own := fun r hr => ?_, fr := fun r hr => ?_, nd := ?_ }
  · rcases List.mem_append.mp hr with z | z
    · exact S1.own r z
    · have e : r = (a, ob) := by simpa using z
      subst e
      exact ⟨S.gr.ph.free h, hob⟩
  · rcases List.mem_append.mp hr with z | z
    · exact S1.fr r z
    · have e : r = (a, ob) := by simpa using z
      subst e
      exact S.gr.hh.free h
  · rw [List.map_append]
    refine List.nodup_append.mpr ⟨S.nd, by simp, fun u hu w hw => ?_⟩
    obtain ⟨r, hr, er⟩ := List.mem_map.mp hu
    have ew : w = a := by simpa using hw
    rw [← er, ew]
    exact ha r hr
section
variable {X : Cx} {B P0 H0 : Hp} {W W' Wr W1 : Rows} {ρ ρa : List Sl} {m m1 m2 : Bool} {a b c e o tg : Expr} {es : List Expr} {pos p1 p2 p3 apos fpos : Pos} {d : PyData} {ds es' : List PyData} {D : Ends} {rest : List Stmt} {x y f mn : Str} {E : XK} {ot : OutW} {C dx s1 : Addr} {fs : List (Str × V)}
/-- a new list of one's own -/
theorem dk_cat (ha : DE X B P0 H0 W ρ false a (.list ds)) (hb : DE X B P0 H0 W ρ false b (.list es')) (hl : ds.length + es'.length ≤ sizeLine) (q1 : ds.all scalD = true) (q2 : es'.all scalD = true) : DK X B P0 H0 W ρ (.BinOp a .Add b pos) (.own (.lst (ds ++ es'))) := fun σ P H S Q q =>
  ⟨_, pe_op op_cat pe_u pe_u, ha σ P H S _ fun v P1 H1 g1 k1 => hb σ P1 H1 (S.grow g1) _ fun w P2 H2 g2 k2 => by
    have gr := S.gr.trans (g1.trans g2)
    have k1' := dq_mono (vw_mono g2) _ _ k1
    cases k1' with
    | lst h1 a1 =>
      cases k2 with
      | lst h2 a2 => exact ⟨_, _, _, _, rfl, rfl, vw_hp S.e0 gr _ _ h1, vw_hp S.e0 gr _ _ h2, by rw [a1.len, a2.len]; exact hl, fun p hp => dk_new (Q := Q) (ob := .lst (ds ++ es')) S (g1.trans g2) hp ⟨_, upd_same, dqAll_scal (by rw [List.all_append, q1, q2]; rfl) (DqAll.app (dqAll_scal (H' := P2) q1 a1) (dqAll_scal q2 a2))⟩ q⟩⟩
theorem dk_slS {lo hi : Option Expr} {i j : Option Int} (ha : DE X B P0 H0 W ρ false a (.list ds)) (hl : DO X B P0 H0 W ρ lo i) (hh : DO X B P0 H0 W ρ hi j) (hs : (cutD ds i j).all scalD = true) : DK X B P0 H0 W ρ (.Subscript a (.Slice lo hi none p2) pos) (.own (.lst (cutD ds i j))) := fun σ P H S Q q =>
  ⟨_, pe_slice sl_list pe_u po_u po_u, ha σ P H S _ fun v P1 H1 g1 k1 => hl σ P1 H1 (S.grow g1) _ fun P2 H2 g2 => hh σ P2 H2 ((S.grow g1).grow g2) _ fun P3 H3 g3 => by
    have k1' := dq_mono (vw_mono (g2.trans g3)) _ _ k1
    have gr := S.gr.trans (g1.trans (g2.trans g3))
    cases k1' with
    | lst h ha' => exact ⟨_, _, rfl, SqL.of (vw_hp S.e0 gr _ _ h), fun p hp => dk_new (Q := Q) (ob := .lst (cutD ds i j)) S (g1.trans (g2.trans g3)) hp ⟨_, upd_same, dqAll_scal hs (ha'.cut i j)⟩ q⟩⟩
/-- o.f, an int -/
theorem de_fld (i k : Nat) {v : Int} (cl : Cls X.K C) (na : NoAttr X.K C f) (hl : fs.lookup f = some (.int v)) (hρ : ρ[i]? = some (.raw (.ref s1)) := by rfl) (hW : W[k]? = some (s1, .raw (.ins C dx fs)) := by rfl) (hN : X.N[i]? = some x := by rfl) (hv : Vis X.env.scope x := by first | exact Or.inl rfl | exact Or.inr (Or.inl rfl) | exact Or.inr (Or.inr rfl)) (hd : (x == ("__debug__" : Str)) = false := by decide)
    (hcd : (x == ("__classdict__" : Str)) = false := by decide) (hb : attributeBase (.Name x p1) f X.env (eval (.Name x p1) X.env) = eval (.Name x p1) X.env := by rfl) : DE X B P0 H0 W ρ m (.Attribute (.Name x p1) f pos) (.int v) := fun σ P H S Q q => by
  obtain ⟨x', e1, e2⟩ := S.sl i _ hρ
  obtain rfl : x' = some (.ref s1) := e2
  have ho := (S.own _ (List.mem_of_getElem? hW)).2
  exact ⟨_, pe_fld (pe_var hN hv hd hcd) hb, _, e1, s1, C, dx, fs, _, rfl, ho, cl, na, hl, q _ P H (gr_refl S) (.int v)⟩
/-- o.f, a list of one's own -/
theorem de_fldL (i k j : Nat) {e1 : Addr} (cl : Cls X.K C) (na : NoAttr X.K C f) (hl : fs.lookup f = some (.ref e1)) (hρ : ρ[i]? = some (.raw (.ref s1)) := by rfl) (hW : W[k]? = some (s1, .raw (.ins C dx fs)) := by rfl) (hWj : W[j]? = some (e1, .lst ds) := by rfl) (hN : X.N[i]? = some x := by rfl) (hv : Vis X.env.scope x := by first | exact Or.inl rfl | exact Or.inr (Or.inl rfl) | exact Or.inr (Or.inr rfl)) (hd : (x == ("__debug__" : Str)) = false := by decide)
    (hcd : (x == ("__classdict__" : Str)) = false := by decide) (hb : attributeBase (.Name x p1) f X.env (eval (.Name x p1) X.env) = eval (.Name x p1) X.env := by rfl) : DE X B P0 H0 W ρ false (.Attribute (.Name x p1) f pos) (.list ds) := fun σ P H S Q q => by
  obtain ⟨x', e2, e3⟩ := S.sl i _ hρ
  obtain rfl : x' = some (.ref s1) := e3
  have ho := (S.own _ (List.mem_of_getElem? hW)).2
  obtain ⟨_, xs, h1, h2⟩ := S.own _ (List.mem_of_getElem? hWj)
  exact ⟨_, pe_fld (pe_var hN hv hd hcd) hb, _, e2, s1, C, dx, fs, _, rfl, ho, cl, na, hl, q _ P H (gr_refl S) (.lst (xs := xs) (pmax_none (S.fr _ (List.mem_of_getElem? hWj)) h1) (dqAll_mono (vw_up S.e0 S.gr) ds xs h2))⟩
theorem ins_code {H : Hp} {a C dx : Addr} {fs : List (Str × V)} (h : H a = some (.ins C dx fs)) : ∀ c q, H a ≠ some (CodeO c q) := fun c q z => by
  rw [h] at z
  have z := Option.some.inj z
  unfold CodeO at z
  cases z
/-- o.f = an int -/
theorem g_fld (i k : Nat) {v : Int} (cl : Cls X.K C) (na : NoAttr X.K C f) (he : DE X B P0 H0 W ρ true e (.int v)) (hlen : fs.length < 1000) (kk : G X B P0 H0 (W.set k (s1, .raw (.ins C dx (putF f (.int v) fs)))) ρ rest D) (hρ : ρ[i]? = some (.raw (.ref s1)) := by rfl) (hW : W[k]? = some (s1, .raw (.ins C dx fs)) := by rfl) (hN : X.N[i]? = some x := by rfl)
    (hv : Vis X.env.scope x := by first | exact Or.inl rfl | exact Or.inr (Or.inl rfl) | exact Or.inr (Or.inr rfl)) (hd : (x == ("__debug__" : Str)) = false := by decide) (hcd : (x == ("__classdict__" : Str)) = false := by decide) (hs : swapsWith e (some (.Attribute (.Name x p1) f p2)) pos.line X.env = pure false := by rfl) :
    G X B P0 H0 W ρ (.Assign [.Attribute (.Name x p1) f p2] e pos :: rest) D := fun σ P H S =>
  ⟨_, pss_cons (ps_fld (pe_var hN hv hd hcd) pe_u hs) pss_u, he σ P H S _ fun v' P1 H1 g1 k1 => by
    cases k1
    have S1 := S.grow g1
    obtain ⟨x', e1, e2⟩ := S1.sl i _ hρ
    obtain rfl : x' = some (.ref s1) := e2
    have ho : H1 s1 = some (.ins C dx fs) := (S1.own _ (List.mem_of_getElem? hW)).2
    exact ⟨_, e1, s1, C, dx, fs, rfl, ho, cl, na, hlen, kk σ P1 _ (S1.write k hW (show upd H1 s1 _ s1 = _ from upd_same) (ins_code ho))⟩⟩
/-- o.f = a new list of one's own -/
theorem g_fldO (i k : Nat) (cl : Cls X.K C) (na : NoAttr X.K C f) (he : DK X B P0 H0 W ρ e (.own (.lst ds))) (hlen : fs.length < 1000) (kk : ∀ p, G X B P0 H0 (W.set k (s1, .raw (.ins C dx (putF f (.ref p) fs))) ++ [(p, .lst ds)]) ρ rest D) (hρ : ρ[i]? = some (.raw (.ref s1)) := by rfl) (hW : W[k]? = some (s1, .raw (.ins C dx fs)) := by rfl) (hN : X.N[i]? = some x := by rfl)
    (hv : Vis X.env.scope x := by first | exact Or.inl rfl | exact Or.inr (Or.inl rfl) | exact Or.inr (Or.inr rfl)) (hd : (x == ("__debug__" : Str)) = false := by decide) (hcd : (x == ("__classdict__" : Str)) = false := by decide) (hs : swapsWith e (some (.Attribute (.Name x p1) f p2)) pos.line X.env = pure false := by rfl) :
    G X B P0 H0 W ρ (.Assign [.Attribute (.Name x p1) f p2] e pos :: rest) D := fun σ P H S =>
  ⟨_, pss_cons (ps_fld (pe_var hN hv hd hcd) pe_u hs) pss_u, he σ P H S _ fun v' P1 H1 O s g1 k1 hO => by
    have S0 := (S.grow g1).add k1 ρ.length (own_apart (H1 := H) S hO)
    rw [List.set_eq_of_length_le (Nat.le_refl _), List.set_eq_of_length_le (by rw [S.len]; exact Nat.le_refl _)] at S0
    cases k1 with
    | @own _ p q1 q2 q3 =>
      have hk : k < W.length := (List.getElem?_eq_some_iff.mp hW).1
      have hW2 : (W ++ [(p, Ob.lst ds)])[k]? = some (s1, .raw (.ins C dx fs)) := by rw [List.getElem?_append_left hk]; exact hW
      obtain ⟨x', e1, e2⟩ := S0.sl i _ hρ
      obtain rfl : x' = some (.ref s1) := e2
      have ho : H1 s1 = some (.ins C dx fs) := (S0.own _ (List.mem_of_getElem? hW2)).2
      have S3 := S0.write (ob := .raw (.ins C dx (putF f (.ref p) fs))) (h := .ins C dx (putF f (.ref p) fs)) k hW2 (show upd H1 s1 _ s1 = _ from upd_same) (ins_code ho)
      rw [List.set_append_left _ _ hk] at S3
      exact ⟨_, e1, s1, C, dx, fs, rfl, ho, cl, na, hlen, kk p σ P1 _ S3⟩⟩
/-- o.m(..) -/
theorem ew_meth {k j n : Nat} {R : List Sl → Rows → OutW → Prop} {pl : Sem Bool} (i kw : Nat) (cl : Cls X.K C) (M : MetW X.prog X.w X.K X.mg X.base C mn k n R) (hr : Room j X.A) (hk : k ≤ j) (hp : Passes (L2N.CX X.prog X.w) X E) (hPm : W.Perm (Wr ++ W1)) (hpl1 : ∀ r ∈ W1, plainRow r) (ha : SA X B P0 H0 W ρ (e :: es) ρa) (hn : ρa.length + 1 = n) (hR : R (.raw (.ref s1) :: ρa) W1 ot) (hl : fs.lookup mn = none)
    (hρ : ρ[i]? = some (.raw (.ref s1)) := by rfl) (hW : W[kw]? = some (s1, .raw (.ins C dx fs)) := by rfl) (hN : X.N[i]? = some x := by rfl) (hv : Vis X.env.scope x := by first | exact Or.inl rfl | exact Or.inr (Or.inl rfl) | exact Or.inr (Or.inr rfl)) (hd : (x == ("__debug__" : Str)) = false := by decide) (hcd : (x == ("__classdict__" : Str)) = false := by decide)
    (hst : starEach (e :: es) X.env = (false, eval e X.env) :: starEach es X.env := by rfl) (hpl : (backTo pos (starEach es X.env)).any (·.1) = false := by rfl)
    (ht : eval (.Call (.Attribute (.Name x p1) mn apos) (e :: es) [] pos) X.env = (do
      let ov ← eval (.Name x p1) X.env
      standAt apos.atName
      let (f, first) ← holding [ov] (getMethod ov mn pl)
      callWith pos f first (backTo pos (starEach (e :: es) X.env)) (backToKw pos (keywordEach [] X.env))) := by rfl) : EW X B P0 H0 W ρ (.Call (.Attribute (.Name x p1) mn apos) (e :: es) [] pos) (ot.up Wr) E := fun σ P H S Q q => by
  obtain ⟨f, fd, ps, hm, hB, F⟩ := M.ex
  obtain ⟨x', e1, e2⟩ := S.sl i _ hρ
  obtain rfl : x' = some (.ref s1) := e2
  have ho : H s1 = some (.ins C dx fs) := (S.own _ (List.mem_of_getElem? hW)).2
  refine ⟨_, pe_meth (pe_var hN hv hd hcd) cl hm F (hr.mono hk) hB .nil hp pa_u hst hpl ht, _, e1, s1, dx, fs, rfl, ho, hl, ha σ P H S _ fun vs P1 H1 g1 k1 => ?_⟩
  rw [List.append_nil]
  have S1 := (S.grow g1).perm hPm
  exact ⟨P1, .raw (.ref s1) :: ρa, W1, ot, by rw [List.length_cons, ← k1.1, hn], .cons rfl k1, S1.gr.ph, S1.pd, fun r hr => S1.own r (List.mem_append_right _ hr), by have := S1.nd; rw [List.map_append, List.nodup_append] at this; exact this.2.1, hR, qs_up S1 g1.pp hpl1 (fun z => by cases z) q⟩
/-- o.m() -/
theorem ew_meth0 {k j : Nat} {R : List Sl → Rows → OutW → Prop} {pl : Sem Bool} (i kw : Nat) (cl : Cls X.K C) (M : MetW X.prog X.w X.K X.mg X.base C mn k 1 R) (hr : Room j X.A) (hk : k ≤ j) (hp : Passes (L2N.CX X.prog X.w) X E) (hPm : W.Perm (Wr ++ W1)) (hpl1 : ∀ r ∈ W1, plainRow r) (hR : R [.raw (.ref s1)] W1 ot) (hl : fs.lookup mn = none)
    (hρ : ρ[i]? = some (.raw (.ref s1)) := by rfl) (hW : W[kw]? = some (s1, .raw (.ins C dx fs)) := by rfl) (hN : X.N[i]? = some x := by rfl) (hv : Vis X.env.scope x := by first | exact Or.inl rfl | exact Or.inr (Or.inl rfl) | exact Or.inr (Or.inr rfl)) (hd : (x == ("__debug__" : Str)) = false := by decide) (hcd : (x == ("__classdict__" : Str)) = false := by decide)
    (ht : eval (.Call (.Attribute (.Name x p1) mn apos) [] [] pos) X.env = (do
      let ov ← eval (.Name x p1) X.env
      standAt apos.atName
      let (f, first) ← holding [ov] (getMethod ov mn pl)
      callWith pos f first (backTo pos (starEach [] X.env)) (backToKw pos (keywordEach [] X.env))) := by rfl) : EW X B P0 H0 W ρ (.Call (.Attribute (.Name x p1) mn apos) [] [] pos) (ot.up Wr) E := fun σ P H S Q q => by
  obtain ⟨f, fd, ps, hm, hB, F⟩ := M.ex
  obtain ⟨x', e1, e2⟩ := S.sl i _ hρ
  obtain rfl : x' = some (.ref s1) := e2
  have ho : H s1 = some (.ins C dx fs) := (S.own _ (List.mem_of_getElem? hW)).2
  refine ⟨_, pe_meth0 (pe_var hN hv hd hcd) cl hm F (hr.mono hk) hB .nil hp ht, _, e1, s1, dx, fs, rfl, ho, hl, ?_⟩
  have S1 := S.perm hPm
  exact ⟨P, [.raw (.ref s1)], W1, ot, rfl, .cons rfl ⟨rfl, fun i s h => by simp at h⟩, S1.gr.ph, S1.pd, fun r hr => S1.own r (List.mem_append_right _ hr), by have := S1.nd; rw [List.map_append, List.nodup_append] at this; exact this.2.1, hR, qs_up S1 (Same.refl P) hpl1 (fun z => by cases z) q⟩
end
end Dw

/-! statements over own objects that change -/
namespace Dw
open PySem PySem.Spec PyProof.Rows L2 LamX
def clsBody : Stmt → List Stmt
  | .ClassDef _ _ _ b _ _ _ _ _ _ _ => b
  | _ => []
section
variable {X : Cx} {B P0 H0 P1 Hl : Hp} {W W' : Rows} {ρ : List Sl} {m : Bool} {a b e : Expr} {pos p1 p2 p3 : Pos} {d : PyData} {D : Ends} {rest : List Stmt} {x : Str} {E : XK} {Q : VK} {ot : OutW} {T T2 : Hp → V → Rows → Prop} {TX : Rows → Prop} {C : Addr}
theorem g_retW (he : DE X P1 P1 Hl W ρ true e d) (hQ : QW P1 Hl D.rt E (.ret T)) (hT : ∀ P' v, Dq P' v d → T P' v W) : G X P1 P1 Hl W ρ (.Return (some e) pos :: rest) D := fun σ P H S =>
  ⟨_, pss_cons (ps_ret pe_u) pss_u, he σ P H S _ fun v P2 H2 g2 k2 => hQ v P2 H2 W (S.grow g2).fin (hT _ _ k2)⟩
theorem g_retEW {E' : XK} (he : EW X P1 P1 Hl W ρ e (.ret T2) E') (hQ : QW P1 Hl D.rt E (.ret T)) (hT : ∀ P' v W', T2 P' v W' → T P' v W') : G X P1 P1 Hl W ρ (.Return (some e) pos :: rest) D := fun σ P H S =>
  ⟨_, pss_cons (ps_ret pe_u) pss_u, he σ P H S _ fun v P2 H2 W2 S2 s2 t => hQ v P2 H2 W2 S2.fin (hT _ _ _ t)⟩
theorem g_endW (hQ : QW P1 Hl Q E (.ret T)) (hT : ∀ P', T P' .non W) : G X P1 P1 Hl W ρ [] (endsD Q) := g_nil fun σ P H S => hQ .non P H W S.fin (hT P)
/-- raise C('..') with the own objects as they stand -/
theorem g_raiseW {ms : Str} {j : Nat} {W0 : WX} (hc : X.calm = true) (tk : L2N.Takes X W0) (xC : PySem.W.excIn X.K C [.type "ValueError", .type "Exception", .type "BaseException", .type "object"] "ValueError.__new__" = true) (gC : X.mg x = some (.ref C)) (kC : PySem.W.keepIn X.K (.ref C) = true)
    (b1 : PySem.W.subIn X.K (.ref C) (.type "BaseException") = some true) (b2 : PySem.W.typeIn X.K (.ref C) = some (.type "type")) (hE : ∀ σ P H, Fin P0 H0 P H W → W0 (.ref C) none σ H) (hg : Gl X x := by rfl) (hdb : (x == ("__debug__" : Str)) = false := by decide) :
    G X B P0 H0 W ρ (.Raise (some (.Call (.Name x p1) [.Constant (.str ms) j p2] [] p3)) none pos :: rest) D := fun σ P H S =>
  ⟨_, pss_cons (L2N.ps_raise hc tk (L2N.pmk_own PySem.F.excBase_ValueError xC gC kC (raises_own b1 b2) hg hdb)) pss_u, hE σ P H S.fin⟩
/-- x = e, e changes the own objects -/
theorem g_setEW (i : Nat) {E' : XK} {U : Sl → Rows → Prop} (he : EW X B P0 H0 W ρ e (.ret T) E') (hd : ∀ P' v W', T P' v W' → ∃ s, SlAt P' s (some v) ∧ U s W') (k : ∀ s W', U s W' → G X B P0 H0 W' (ρ.set i s) rest D) (hN : X.N.Nodup := by assumption) (hi : X.N[i]? = some x := by rfl) (hx : Loc X.env.scope x := by first | exact Or.inl rfl | exact Or.inr rfl)
    (hs : swapsWith e (some (.Name x p1)) pos.line X.env = pure false := by rfl) (hf : X.fn x = true ∨ X.env.scope.names.lookup x = some .local := by first | exact .inl rfl | exact .inr rfl) : G X B P0 H0 W ρ (.Assign [.Name x p1] e pos :: rest) D := fun σ P H S =>
  ⟨_, pss_cons (ps_set (i := i) hN hi hx pe_u hs hf) pss_u, he σ P H S _ fun v P2 H2 W2 S2 s2 t => by
    obtain ⟨s, h1, h2⟩ := hd _ _ _ t
    exact k s W2 h2 _ P2 H2 (S2.put i h1)⟩
/-- e, its value dropped -/
theorem g_exprEW {E' : XK} (he : EW X B P0 H0 W ρ e (.ret T) E') (k : ∀ P' v W', T P' v W' → G X B P0 H0 W' ρ rest D) (hs : swapsWith e none pos.line X.env = pure false := by rfl) : G X B P0 H0 W ρ (.Expr e pos :: rest) D := fun σ P H S =>
  ⟨_, pss_cons (ps_expr pe_u hs) pss_u, he σ P H S _ fun v P2 H2 W2 S2 s2 t => k _ _ _ t _ P2 H2 S2⟩
/-- a name -/
theorem ew_mono {E' : XK} (he : EW X B P0 H0 W ρ e (.ret T) E') (h : ∀ P' v W', T P' v W' → T2 P' v W') : EW X B P0 H0 W ρ e (.ret T2) E' := fun σ P H S Q q => he σ P H S Q fun v P2 H2 W2 S2 s2 t => q v P2 H2 W2 S2 s2 (h _ _ _ t)
theorem ew_de {E' : XK} (he : DE X B P0 H0 W ρ true e d) : EW X B P0 H0 W ρ e (.ret fun P' v W' => Dq P' v d ∧ W' = W) E' := fun σ P H S Q q => he σ P H S Q fun v P2 H2 g2 k2 => q v P2 H2 W (S.grow g2) g2.pp ⟨k2, rfl⟩
end
theorem g_perm {X : Cx} {B P0 H0 : Hp} {W W' : Rows} {ρ : List Sl} {rest : List Stmt} {D : Ends} (h : W.Perm W') (k : G X B P0 H0 W' ρ rest D) : G X B P0 H0 W ρ rest D := fun σ P H S => k σ P H (S.perm h)
/-! a walk -/
def wF (n : Nat) (e u : Addr) : List (Str × V) := [("here", .int (n : Nat)), ("earlier", .ref e), ("undone", .ref u)]
def nsD (l : List Nat) : List PyData := l.map fun d => .int (d : Nat)
def wRows (C dx a : Addr) (n : Nat) (e u : Addr) (Es Us : List Nat) : Rows := [(a, .raw (.ins C dx (wF n e u))), (e, .lst (nsD Es)), (u, .lst (nsD Us))]
theorem s_he : ¬ ("here" : Str) = "earlier" := by decide +kernel
theorem s_hu : ¬ ("here" : Str) = "undone" := by decide +kernel
theorem s_eu : ¬ ("earlier" : Str) = "undone" := by decide +kernel
theorem put_here {n n' : Nat} {e u : Addr} : putF "here" (.int (n' : Nat)) (wF n e u) = wF n' e u := by unfold wF; rw [putF, if_pos rfl]
theorem put_earlier {n : Nat} {e e' u : Addr} : putF "earlier" (.ref e') (wF n e u) = wF n e' u := by
  unfold wF
  rw [putF, if_neg s_he, putF, if_pos rfl]
theorem put_undone {n : Nat} {e u u' : Addr} : putF "undone" (.ref u') (wF n e u) = wF n e u' := by
  unfold wF
  rw [putF, if_neg s_hu, putF, if_neg s_eu, putF, if_pos rfl]
theorem at_here {n : Nat} {e u : Addr} : List.lookup ("here" : Str) (wF n e u) = some (V.int (n : Nat)) := by
  unfold wF; rw [List.lookup, show (("here" : Str) == "here") = true by decide +kernel]
theorem at_earlier {n : Nat} {e u : Addr} : List.lookup ("earlier" : Str) (wF n e u) = some (V.ref e) := by
  unfold wF; rw [List.lookup, show (("earlier" : Str) == "here") = false by decide +kernel]; dsimp only; rw [List.lookup, show (("earlier" : Str) == "earlier") = true by decide +kernel]
theorem at_undone {n : Nat} {e u : Addr} : List.lookup ("undone" : Str) (wF n e u) = some (V.ref u) := by
  unfold wF; rw [List.lookup, show (("undone" : Str) == "here") = false by decide +kernel]; dsimp only; rw [List.lookup, show (("undone" : Str) == "earlier") = false by decide +kernel]; dsimp only; rw [List.lookup, show (("undone" : Str) == "undone") = true by decide +kernel]
theorem at_none {n : Nat} {e u : Addr} {m : Str} (h1 : (m == ("here" : Str)) = false) (h2 : (m == ("earlier" : Str)) = false) (h3 : (m == ("undone" : Str)) = false) : List.lookup m (wF n e u) = none := by
  unfold wF; rw [List.lookup, h1]; dsimp only; rw [List.lookup, h2]; dsimp only; rw [List.lookup, h3]; rfl
theorem wF_len {n : Nat} {e u : Addr} : (wF n e u).length < 1000 := by show 3 < 1000; decide
theorem wRows_plain {C dx a : Addr} {n : Nat} {e u : Addr} {Es Us : List Nat} : ∀ r ∈ wRows C dx a n e u Es Us, plainRow r := fun r hr => by
  unfold wRows at hr
  simp only [List.mem_cons, List.not_mem_nil, or_false] at hr
  rcases hr with rfl | rfl | rfl
  · intro c q z
    unfold CodeO at z
    cases z
  · trivial
  · trivial
end Dw

/-! C(..): a new instance -/
namespace Dw
open PySem PySem.Spec PyProof.Rows L2 LamX
/-- __init__ as it stands in its class -/
structure DefI (K : PySem.W.Frag) (mg : Str → Option Value) (x : Str) (C : Addr) (qual : Str) (st : Stmt) (ps : List Str) : Prop where
  atm : mg x = some (.ref C)
  ex : ∃ (f : Addr) (fd : FuncData), Mk K C f ∧ L2.Fun K "__init__" qual st f fd ∧ Binds K fd ps []
structure MakW (P : Program) (w : World) (K : PySem.W.Frag) (mg : Str → Option Value) (base : Heap) (x : Str) (C : Addr) (k n : Nat) (R : List Sl → Rows → OutW → Prop) : Prop where
  atm : mg x = some (.ref C)
  ex : ∃ (f : Addr) (fd : FuncData) (ps : List Str), Mk K C f ∧ Binds K fd ps [] ∧ FnOk P w K mg base (L2N.CX P w) k f fd ps (spG false n R)
section
variable {X : Cx} {B P0 H0 : Hp} {W : Rows} {ρ ρa : List Sl} {e : Expr} {es : List Expr} {pos p1 : Pos} {x : Str} {E : XK} {C Ce : Addr} {k j n : Nat} {R : List Sl → Rows → OutW → Prop}
theorem made_sat {σ : L2.St} {P H : Hp} (S : Sat B P0 H0 W ρ σ P H) {a dx : Addr} (ha : H a = none) (hdx : H dx = none) (hne : dx ≠ a) : Sat B P0 H0 (W ++ [(a, .raw (.ins C dx []))]) ρ σ P (upd (upd H dx (.own a)) a (.ins C dx [])) :=
  (S.grow (Gr.tmp (o := .own a) S.gr.ph hdx)).row (by rw [upd_ne (Ne.symm hne)]; exact ha) (show upd _ _ _ _ = _ from upd_same)
theorem insRow_plain {a dx : Addr} {fs : List (Str × V)} : ∀ r ∈ [((a, .raw (.ins C dx fs)) : Addr × Ob)], plainRow r := fun r hr => by
  rw [List.mem_singleton.mp hr]
  intro c q z
  unfold CodeO at z
  cases z
theorem ew_make {T : Addr → Addr → Hp → V → Rows → Prop} (M : MakW X.prog X.w X.K X.mg X.base x C k n R) (hr : Room j X.A) (hk : k + 1 ≤ j) (hp : Passes (L2N.CX X.prog X.w) X E) (ha : SA X B P0 H0 W ρ (e :: es) ρa) (hn : ρa.length + 1 = n) (hR : ∀ a dx, R (.raw (.ref a) :: ρa) [(a, .raw (.ins C dx []))] (.ret (T a dx))) (hT : ∀ a dx P' v W1, T a dx P' v W1 → v = .non)
    (hg : Gl X x := by rfl) (hdb : (x == ("__debug__" : Str)) = false := by decide) (he : starEach (e :: es) X.env = (false, eval e X.env) :: starEach es X.env := by rfl) (hpl : (backTo pos (starEach es X.env)).any (·.1) = false := by rfl) :
    EW X B P0 H0 W ρ (.Call (.Name x p1) (e :: es) [] pos) (.ret fun P' v W' => ∃ a dx W1, v = .ref a ∧ W' = W ++ W1 ∧ T a dx P' .non W1) E := fun σ P H S Q q => by
  obtain ⟨f, fd, ps, hm, hB, F⟩ := M.ex
  refine ⟨_, pe_make hm F (hr.mono hk) hg M.atm hB .nil hp pa_u hdb he hpl, ha σ P H S _ fun vs P1 H1 g1 k1 => fun a dx ha hdx hne => ?_⟩
  rw [List.append_nil]
  have S1 := S.grow g1
  have S3 := made_sat (C := C) S1 ha hdx hne
  refine ⟨P1, .raw (.ref a) :: ρa, [(a, .raw (.ins C dx []))], .ret (T a dx), by rw [List.length_cons, ← k1.1, hn], .cons rfl k1, S3.gr.ph, S3.pd, fun r hr => S3.own r (List.mem_append_right _ hr), by simp, hR a dx, ?_⟩
  refine qs_up (Wr := W) (hw := fun z => by cases z) S3 g1.pp insRow_plain (ot := .ret (T a dx)) (P := P) ?_
  rintro v P' H' W' S' s' ⟨W1, rfl, t⟩
  have ev := hT _ _ _ _ _ t
  subst ev
  exact ⟨rfl, q _ P' H' _ S' s' ⟨a, dx, W1, rfl, rfl, t⟩⟩
theorem dc_make (M : MakW X.prog X.w X.K X.mg X.base x C k n R) (hr : Room j X.A) (hk : k + 1 ≤ j) (hp : Passes (L2N.CX X.prog X.w) X E) (ha : SA X B P0 H0 W ρ (e :: es) ρa) (hn : ρa.length + 1 = n) (hR : ∀ a dx, R (.raw (.ref a) :: ρa) [(a, .raw (.ins C dx []))] (.exc Ce fun _ => True))
    (hg : Gl X x := by rfl) (hdb : (x == ("__debug__" : Str)) = false := by decide) (he : starEach (e :: es) X.env = (false, eval e X.env) :: starEach es X.env := by rfl) (hpl : (backTo pos (starEach es X.env)).any (·.1) = false := by rfl) :
    DC X B P0 H0 W ρ (.Call (.Name x p1) (e :: es) [] pos) (.exc Ce) E := fun σ P H S Q q => by
  obtain ⟨f, fd, ps, hm, hB, F⟩ := M.ex
  refine ⟨_, pe_make hm F (hr.mono hk) hg M.atm hB .nil hp pa_u hdb he hpl, ha σ P H S _ fun vs P1 H1 g1 k1 => fun a dx ha hdx hne => ?_⟩
  rw [List.append_nil]
  have S1 := S.grow g1
  have S3 := made_sat (C := C) S1 ha hdx hne
  refine ⟨P1, .raw (.ref a) :: ρa, [(a, .raw (.ins C dx []))], .exc Ce fun _ => True, by rw [List.length_cons, ← k1.1, hn], .cons rfl k1, S3.gr.ph, S3.pd, fun r hr => S3.own r (List.mem_append_right _ hr), by simp, hR a dx, fun P' H' W' Fi _ => ?_⟩
  have hle : ∀ b o, H1 b = some o → lessM false (upd (upd H1 dx (.own a)) a (.ins C dx [])) [a] b = some o := fun b o h => by
    have n1 : b ≠ a := fun z => by rw [z, ha] at h; cases h
    have n2 : b ≠ dx := fun z => by rw [z, hdx] at h; cases h
    exact lessM_at (by rw [upd_ne n1, upd_ne n2]; exact h) (by simpa using n1) (fun z => by cases z)
  refine q P' H' (g1.trans ⟨fun b o h => Fi.gr.hh b o (hle b o h), Fi.gr.pp, Fi.gr.ph, fun b o h => ?_, Fi.gr.nd⟩)
  rcases Fi.gr.nw b o h with z | z
  · exact .inl z
  · right
    cases e : H1 b with
    | none => rfl
    | some u =>
      have z : lessM false (upd (upd H1 dx (.own a)) a (.ins C dx [])) [a] b = none := z
      rw [hle b u e] at z; cases z
end
end Dw

/-! len of an instance; told over a deed that changes own objects -/
namespace Dw
open PySem PySem.Spec PyProof.Rows L2 LamX Hz
theorem len_own {prog : Program} {w : World} {A : Around} {E : Value → Shared → Prop} {s : Shared} {K : PySem.W.Frag} {x C f : Addr} {ox : Obj} {od : Option Obj} {Q : Value → Shared → Prop} (X : K.In s.heap) (I : PySem.W.InstAt s.heap x ox C od) (hs : PySem.W.findIn K (.ref C) "__len__" = some (some (.ref f))) (hf : PySem.W.isFn K (.ref f) = true)
    (h : wpAny (model prog w) A.in1 (call (.ref f) [.ref x]) (fun r s' => ∃ n u, r = Value.int n u ∧ (0 ≤ n ∧ n < 2 ^ 63) ∧ Q (.int n s'.toks) { s' with toks := s'.toks + 1 }) E s) : wpAny (model prog w) A (call (.builtin "len") [.ref x]) Q E s := by
  refine Calls.call_function_entry kind_len plain_len entry_len (args_len1 _) ?_
  unfold Builtin.«len»
  refine wpAny_bind (m := oneArg "len" _) (wpAny_pure ?_)
  refine wpAny_bind (m := callSpecial? (.ref x) (Str.ofString "__len__")) (PySem.W.special_fn X I hs (beq_iff_eq.mp hf) (wpAny_mono h (fun r s' hr => ?_) fun _ _ y => y))
  obtain ⟨n, u, rfl, ⟨h0, h1⟩, hq⟩ := hr
  refine wpAny_bind (wpAny_holding (wpAny_pure ?_))
  refine wpAny_bind (wpAny_letGo ?_)
  show wpAny _ _ (if n < 0 then _ else _) _ _ _
  rw [if_neg (by omega)]
  show wpAny _ _ (if n ≥ 2 ^ 63 then _ else _) _ _ _
  rw [if_neg (by omega)]
  exact wpAny_bind (wpAny_mkInt (wpAny_pure ⟨_, rfl, hq⟩))
def rLenOwn (C : Addr) (sp : Sp) (E : XK) : List V → Hp → VK → Prop := fun xs H Q => ∃ a dx fs, xs = [V.ref a] ∧ H a = some (.ins C dx fs) ∧ sp [.ref a] H (fun z H' => ∃ i : Int, z = .int i ∧ 0 ≤ i ∧ i < 2 ^ 63 ∧ Q z H') E
theorem call_lenOwn {X : Cx} {CX : CXT} {n : Nat} {C g : Addr} {fd : FuncData} {ps : List Str} {sp : Sp} {E : XK} (hs : PySem.W.findIn X.K (.ref C) "__len__" = some (some (.ref g))) (hf : PySem.W.isFn X.K (.ref g) = true) (hB : Binds X.K fd ps []) (F0 : FnOk X.prog X.w X.K X.mg X.base CX n g fd ps sp) (hr : Room (n + 1) X.A) (hx : Passes CX X E) : CallR X (.builtin "len") (rLenOwn C sp E) := by
  intro pins s σ H xs us Q I r h
  obtain ⟨a, dx, fs, rfl, hsl, q⟩ := h
  obtain ⟨u, rfl, ru⟩ := r.one
  cases (show u = Value.ref a from ru)
  obtain ⟨mA, O, _, _, _, _⟩ := ins_get I.hok hsl
  obtain ⟨od, J, _⟩ := O.look
  have F : FnR X.prog X.w X.K X.mg X.base CX n g sp := (F0.raw hB .nil).imp fun vs H Q E h => by rw [List.append_nil]; exact h
  refine len_own I.kIn J hs hf (wpAny_mono (wpAny_call (SlX.run_at (us := [.ref a]) (ws := [.ref a]) F (Room.in1 hr) I.env0.in1 hx I (.cons rfl .nil) q)) (fun w s' z => ?_) fun _ _ x => x)
  obtain ⟨z', H', I', rz, i, ei, q1, q2, qz⟩ := z
  subst ei
  obtain ⟨t, e⟩ := (show ∃ t, w = Value.int i t from rz)
  cases e
  exact ⟨i, t, rfl, ⟨q1, q2⟩, .int i, H', I'.tok _, ⟨_, rfl⟩, qz⟩
/-! told -/
def okWT (T : List (Addr × Str)) (r : Addr × Ob) : Prop := match r.2 with
  | .tab q => (r.1, q) ∈ T
  | .raw o => ∀ ps, o ≠ .tbl ps
  | _ => True
theorem Sat.tabsT {B P0 H0 P H H1 : Hp} {W : Rows} {ρ : List Sl} {σ : L2.St} {T : List (Addr × Str)} (S : Sat B P0 H0 W ρ σ P H) (x : ExtN H H1) (t : Tabs T H1) (hW : ∀ r ∈ W, okWT T r) (nt : noT H0) : Sat B P0 H0 W ρ σ P H1 := by
  refine { S with gr := ⟨fun a o h => x a o (S.gr.hh a o h) fun ps z => nt a ps (by rw [h, z]), S.gr.pp, fun a o h => x a o (S.gr.ph a o h) fun ps z => ?_, S.gr.nw, S.gr.nd⟩, own := fun r hr => ⟨(S.own r hr).1, ?_⟩ }
  · have := S.pd a o h
    rw [z] at this
    cases this
  · have h2 := (S.own r hr).2
    have hk := hW r hr
    obtain ⟨a, ob⟩ := r
    cases ob with
    | lst ds =>
      obtain ⟨xs, y1, y2⟩ := h2
      exact ⟨xs, x a _ y1 (fun ps z => by cases z), y2⟩
    | raw o => exact x a o h2 hk
    | vol =>
      obtain ⟨c, k, y⟩ := h2
      exact ⟨c, k, x a _ y (fun ps z => by cases z)⟩
    | tab q' => exact t (a, q') hk
/-- what told makes of a deed -/
def toldO (C : Nat → Addr) (K : PySem.W.Frag) (ot : OutW) (T' : Hp → V → Rows → Prop) : Prop := match ot with
  | .ret T => ∀ P' v W', T P' v W' → T' P' v W'
  | .exc c TX => ∃ i, c = C i ∧ KitC K C i ∧ ∀ P' v W', Dq P' v (termD i) → TX W' → T' P' v W'
section
variable {X : Cx} {B P0 H0 : Hp} {W : Rows} {ρ : List Sl} {x : Str} {ot : OutW} {T' : Hp → V → Rows → Prop}
theorem ew_told {g cd Tb t CP : Addr} {k : Nat} {C : Nat → Addr} {st : Stmt} {Ng pst : List Str} {fd ft : FuncData} {params : Arguments} {body : Expr} {scope : Scope} {p lpos pos : Pos} {a' e' pe tm q : Str} {E0' : XK} (T : List (Addr × Str))
    (Te : Tellers X x g st Ng a' e' pe tm C k fd ft t CP pst) (TB : TabB X.base X.mg cd Tb) (hcode : X.env.code = .ref cd) (hq : X.env.qual ++ "<lambda>" = q) (hr : Room (k + 2) X.A) (hd : toldO C X.K ot T') (nt : noT H0) (hWo : ∀ r ∈ W, okWT T r) (hTW : ∀ p ∈ T, (p.1, Ob.tab p.2) ∈ W) (hqT : (Tb, q) ∈ T) (huT : ∀ p ∈ T, p.1 = Tb → p.2 = q)
    (hb : ∀ (A : Around) (outer : List Env) (s0 : Shared) (H : Hp) (E : XK) (f c' : Addr), Room k (A.deeper (lamEnv X scope s0.heap.objs.size f c')) → EW (lamN X A outer s0 H E scope f c') B P0 H0 W ρ body ot E)
    (L : LamS X.env.scope scope := by first | exact lamS_by rfl | exact lamS_by (by with_unfolding_all rfl)) (hdef : defaultsOf params X.env = ([], []) := by rfl) (hbind : ∀ (q : Str) (cl : List (Str × Addr)) (pm cv ctv : Value), bindArgs (PySem.W.kla_fn "<lambda>" q params body scope cl pm cv ctv) ⟨[], []⟩ = pure [] := by intros; rfl) (hg : Gl X x := by rfl) (hdb : (x == ("__debug__" : Str)) = false := by decide) :
    EW X B P0 H0 W ρ (.Call (.Name x p) [.Lambda params body scope lpos] [] pos) (.ret T') E0' := fun σ P H S Q qq => by
  subst hq
  refine ⟨_, pe_told (T := T) Te hg TB hcode hqT huT hr L hdef hbind hdb, fun p hp => (S.own _ (hTW p hp)).2, fun H1 x1 T1 A outer s0 H00 f c' hr' => ?_⟩
  have S1 := S.tabsT x1 T1 hWo nt
  refine hb A outer s0 H00 (wTerm X.K C Q) f c' hr' σ P H1 S1 Q ?_
  cases ot with
  | ret T2 => exact fun v P' H' W' S' s' t => qq v P' H' W' S' s' (hd _ _ _ t)
  | exc c TX =>
    obtain ⟨i, rfl, Z, ht⟩ := hd
    refine fun P' H' W' S' s' t => ⟨i, rfl, rfl, Z, fun v P2 H2 g2 k2 => ?_⟩
    obtain ⟨P3, g3, s3⟩ := Gr.join (S'.gr.ph) g2
    exact qq v P3 H2 W' (S'.grow g3) (s'.trans g3.pp) (ht _ _ _ (dq_mono s3 _ _ k2) t)
end
end Dw

/-! deeds that raise and leave the own objects as they were -/
namespace Dw
open PySem PySem.Spec PyProof.Rows L2 LamX
section
variable {X : Cx} {B P0 H0 : Hp} {W : Rows} {ρ : List Sl} {e : Expr} {E : XK} {C : Addr} {TX TX2 : Rows → Prop}
theorem ew_excM (he : EW X B P0 H0 W ρ e (.exc C TX) E) (h : ∀ W', TX W' → TX2 W') : EW X B P0 H0 W ρ e (.exc C TX2) E := fun σ P H S Q q => he σ P H S Q fun P' H' W' S' s' t => q P' H' W' S' s' (h _ t)
theorem ew_dcX (he : DC X B P0 H0 W ρ e (.exc C) E) : EW X B P0 H0 W ρ e (.exc C fun W' => W'.Perm W) E := fun σ P H S Q q => he σ P H S Q fun P' H' g => q P' H' W (S.grow g) g.pp (List.Perm.refl _)
end
theorem okWT_app {T : List (Addr × Str)} {A B : Rows} (h1 : ∀ r ∈ A, okWT T r) (h2 : ∀ r ∈ B, okWT T r) : ∀ r ∈ A ++ B, okWT T r := fun r hr => by
  rcases List.mem_append.mp hr with h | h
  · exact h1 r h
  · exact h2 r h
theorem wRows_okWT {T : List (Addr × Str)} {C dx a : Addr} {n : Nat} {e u : Addr} {Es Us : List Nat} : ∀ r ∈ wRows C dx a n e u Es Us, okWT T r := fun r hr => by
  unfold wRows at hr
  simp only [List.mem_cons, List.not_mem_nil, or_false] at hr
  rcases hr with rfl | rfl | rfl
  · exact fun ps z => by cases z
  · trivial
  · trivial
end Dw

/-! an exception given back as a value by the def that catches it -/
namespace Hz
open PySem PySem.Spec PyProof.Rows L2 HotX Dw LamX
section
variable {X : Cx} {pins : List (Addr × Obj)} {σ : L2.St} {H : Hp} {s : Shared}
/-- an object of ours that was not tracked is tracked from now on -/
theorem inv_track {a : Addr} {o : HO} (I : Inv X pins σ H s) (hn : H a = none) (h0 : X.s_0.heap.get? a = none) (hL : a ≠ X.env.locals) (hC : ∀ x c, X.env.cells.lookup x = some c → c ≠ a) (hP : ∀ p ∈ X.pn ++ pins, p.1 ≠ a) (new : ObjOk X.prog X.w (upd H a o) s.heap a o) : Inv X pins σ (upd H a o) s where
  ok := I.ok
  os := I.os
  bare := I.bare
  base :=
    { keep := I.base.keep
      slot := I.base.slot
      free := fun b u e n x => by rw [upd_ne (fun z => by rw [z, h0] at e; cases e)]; exact I.base.free b u e n x
      there := I.base.there
      tups := fun b xs e => by
        have q := I.base.tups b xs e
        rw [upd_ne (ne_of_none q hn)]; exact q
      frzs := fun b u xs e => by
        have q := I.base.frzs b u xs e
        rw [upd_ne (ne_of_none q hn)]; exact q
      tbls := fun b ps e => by
        obtain ⟨m, q⟩ := I.base.tbls b ps e
        exact ⟨m, by rw [upd_ne (ne_of_none q hn)]; exact q⟩ }
  loc := I.loc
  cell := I.cell
  free := by rw [upd_ne (Ne.symm hL)]; exact I.free
  freeC := fun x c e => by rw [upd_ne (hC x c e)]; exact I.freeC x c e
  pin := fun p hp => by
    obtain ⟨q1, q2, q3, q4, q5⟩ := I.pin p hp
    exact ⟨q1, by rw [upd_ne (hP p hp)]; exact q2, q3, q4, q5⟩
  hok := fun b u e => by
    by_cases hb : b = a
    · subst hb
      rw [upd_same] at e; cases e; exact new
    · rw [upd_ne hb] at e
      exact (I.hok b u e).stay (fun _ _ _ q => q) (fun _ q => by rw [upd_ne (ne_of_none q hn)]; exact q) fun _ _ q => by rw [upd_ne (ne_of_none q hn)]; exact q
  len := I.len
theorem exV_ok {P : Program} {w : World} {H : Hp} {h : Heap} {C a : Addr} {o : Obj} {vs : Array Value} (e : h.get? a = some o) (z : Zc (.ref C) none o) (d : o.data = .fields vs) : ObjOk P w H h a (ExV C a) :=
  ⟨⟨o, vs, e, z, d⟩, ⟨o, e⟩, fun h1 h2 ⟨o1, vs1, x1, x2, x3⟩ k => ⟨o1, vs1, k o1 x1, x2, x3⟩⟩
end
/-- what the try makes of an exception -/
def wHold (K : PySem.W.Frag) (c : Value) (D : Ends) : WX := fun cls d _ H => d = none ∧ ∃ C, cls = .ref C ∧ PySem.W.exmOne K cls c = some true ∧ ∀ a, H a = none → D.rt (.ref a) (upd H a (ExV C a))
theorem ps_hold {X : Cx} {x n : Str} {c : Value} {i : Nat} {body : List Stmt} {np pos pos' p1 p2 : Pos} {tb : WX → TS} (hs : X.stack = X.env :: X.outer) (hf : X.env.frame = some X.env.locals) (hex : X.ex = []) (hN : X.N.Nodup) (hi : X.N[i]? = some n) (hln : X.env.kindOf n = some .local) (hc : Names X x c)
    (hd : (n == ("__debug__" : Str)) = false) (hcd : (n == ("__classdict__" : Str)) = false)
    (hb : ∀ (W : WX) (pn : List (Addr × Obj)) (xe : Value → Shared → Prop), L2N.Takes (X.tr pn xe) W → PassesOwn (model X.prog X.w) X.A X.env xe → PSs (X.tr pn xe) body (tb W)) :
    PS X (.Try body [.ExceptHandler (some (.Name x np)) (some n) [.Return (some (.Name n p1)) p2] pos'] [] [] pos) (fun D σ H => tb (wHold X.K c D) D σ H) := by
  refine ⟨fun pins s σ H D I h => ?_⟩
  have okX := I.ok
  have frX : X.A.frames = some (X.env :: X.outer) := by rw [okX.frames, hs]
  have locX : Loc X.env.scope n := .inl hln
  refine wpAny_Try_except (wpAny_mono ((hb (wHold X.K c D) (X.pn ++ pins) _ (fun u s1 x1 => ?_) PassesOwn.looking).run [] s σ H D (I.toTry _) h) (fun fl s1 q => ?_) (fun _ _ z => z))
  · obtain ⟨a, B, sI, ps, σ1, H1, cls, d, rfl, J1, nb, up, sky, na, os, ag, rfl, C, rfl, hm, hD⟩ := x1
    have J : Inv X pins σ1 H1 sI := J1.ofTry okX
    have sky1 : L2.Sky B (X.env :: X.outer) a (L2N.Zn (.ref C) none) X.env.locals s1.heap := by rw [← hs]; exact sky
    show wpAny (model X.prog X.w) X.A (noteFrame (.ref a) X.env) _ _ _
    refine L2N.Sky.land L2N.Zn.steady frX hf sky1 fun h2 fl2 up2 => ?_
    have J2 : Inv X pins σ1 H1 { s1 with heap := h2 } := J.landed nb fl2.1 (up.trans up2) os ag
    obtain ⟨o2, f2, e2, z2, d2⟩ := fl2.there
    have nfr : a ∉ frs (X.env :: X.outer) := fun hm2 => by
      obtain ⟨_, o', e', hnf⟩ := fl2.2.2.1.mem hm2
      rw [e2] at e'; cases e'
      exact hnf _ d2
    have nL : a ≠ X.env.locals := fun z => nfr (List.mem_filterMap.mpr ⟨X.env, List.mem_cons_self, by rw [hf, z]⟩)
    have nF : a ∉ X.fs := fun hm2 => by
      obtain ⟨e, he, q⟩ := List.mem_filterMap.mp hm2
      exact nfr (List.mem_filterMap.mpr ⟨e, List.mem_cons_of_mem _ he, q⟩)
    have gI : sI.heap.get? a = none := by
      cases q : sI.heap.get? a with
      | none => rfl
      | some o =>
        have z := nb a o q (by rw [hs]; exact nfr)
        rw [fl2.2.1] at z; cases z
    have g0 : X.s_0.heap.get? a = none := by
      cases q : X.s_0.heap.get? a with
      | none => rfl
      | some o =>
        obtain ⟨o', z⟩ := J.base.there a o q (by rw [hex]; exact fun z => nomatch z)
        rw [gI] at z; cases z
    have gC : ∀ y cc, X.env.cells.lookup y = some cc → cc ≠ a := fun y cc e z => by
      obtain ⟨v, o, q, _⟩ := J.cell y cc e
      rw [z, gI] at q; cases q
    have gP : ∀ p ∈ X.pn ++ pins, p.1 ≠ a := fun p hp z => by
      have q := (J.pin p hp).1
      rw [z, gI] at q; cases q
    have S2 := J2.suite e2 d2 na nL nF
    refine wpAny_handleBy_cons (codeAny_handlers_test ?_) (by intro q; cases q)
    have LT : PySem.W.Looks (model X.prog X.w) h2 (typeOf (.ref a)) (.ref C) := fun A Q E s k q => wpAny_typeOf_ref (k _ _ e2) (by rw [z2.1]; exact q)
    have LM := PySem.W.exm_one (M := model X.prog X.w) J2.kIn LT hm
    have ask : ∀ {Q E : Value → Shared → Prop}, Q c { s1 with heap := h2 } → wpAny (model X.prog X.w) (X.A.mark (some (.ref a))) (eval (.Name x np) X.env) Q E { s1 with heap := h2 } := fun {Q E} q => by
      rcases hc with ⟨hg, hdb, hm1 | ⟨hm1, hv1, hn1⟩⟩
      · exact ld_glob (X := X.suite a ((a, o2) :: (X.pn ++ pins))) S2 hg hm1 q hdb
      · exact ld_blt (X := X.suite a ((a, o2) :: (X.pn ++ pins))) S2 hg hm1 hv1 q hn1 hdb
    refine ask (LM.here (codeAny_handlers_suite_as (HandSPX.lands_againZ fl2 fun h3 fl3 up3 => ?_)))
    have J3 : Inv X pins σ1 H1 { s1 with heap := h3 } := J.landed nb fl3.1 ((up.trans up2).trans up3) os ag
    obtain ⟨o3, f3, e3, z3, d3⟩ := fl3.there
    have S3 := J3.suite e3 d3 na nL nF
    refine store_ok (X := X.suite a ((a, o3) :: (X.pn ++ pins))) (v := .ref a) S3 hN hi locX rfl (fun s4 S4 => ?_) (.inr hln)
    have hget : (σ1.set i (some (V.ref a)))[i]? = some (some (V.ref a)) := by
      have l1 : i < X.N.length := (List.getElem?_eq_some_iff.mp hi).1
      exact List.getElem?_set_self (by rw [J.len]; exact l1)
    have hp : PSs (X.suite a ((a, o3) :: (X.pn ++ pins))) [.Return (some (.Name n p1)) p2] (tRet (tVar i)) := pss_one (ps_ret (pe_var hi (.inl hln) hd hcd))
    refine wpAny_mono (hp.run [] s4 _ H1 { nx := fun _ _ => False, rt := fun v H' => v = .ref a ∧ H' = H1, bk := fun _ _ => False, ct := fun _ _ => False } S4 ⟨_, hget, rfl, rfl⟩) (fun fl s5 q => ?_) (fun _ _ z => False.elim z)
    cases fl with
    | next => obtain ⟨_, _, _, z⟩ := q; exact z.elim
    | brk => obtain ⟨_, _, _, z⟩ := q; exact z.elim
    | cont => obtain ⟨_, _, _, z⟩ := q; exact z.elim
    | ret u =>
      obtain ⟨v5, σ5, H5, S5, r5, rfl, rfl⟩ := q
      have p5 := (S5.pin (a, o3) (List.mem_append_left _ List.mem_cons_self)).1
      have K5 : Inv X pins σ5 (upd H5 a (ExV C a)) s5 := inv_track (S5.unsuite okX) na g0 nL gC gP (exV_ok p5 z3.zc d3)
      exact gone_ok K5 hN hi hln fun s6 K6 => ⟨_, _, _, K6, r5, hD a na⟩
  · cases fl with
    | next =>
      obtain ⟨σ', H', J, z⟩ := q
      exact wpAny_execs_nil ⟨σ', H', J.ofTry okX, z⟩
    | brk =>
      obtain ⟨σ', H', J, z⟩ := q
      exact ⟨σ', H', J.ofTry okX, z⟩
    | cont =>
      obtain ⟨σ', H', J, z⟩ := q
      exact ⟨σ', H', J.ofTry okX, z⟩
    | ret u =>
      obtain ⟨v, σ', H', J, r, z⟩ := q
      exact ⟨v, σ', H', J.ofTry okX, r, z⟩
end Hz

/-! met(lambda: deed): the exception of the deed -/
namespace Hz
open PySem PySem.Spec PyProof.Rows L2 HotX Dw LamX
/-- the text of the def -/
def MetBody (a e pe : Str) (b : List Stmt) : Prop := ∃ (p1 p2 p3 p4 p5 p6 p7 p8 p9 p10 : Pos) (j : Nat), b = [.Try [.Expr (.Call (.Name a p1) [] [] p2) p3] [.ExceptHandler (some (.Name pe p4)) (some e) [.Return (some (.Name e p5)) p6] p7] [] [] p8, .Return (some (.Constant .none j p9)) p10]
/-- the def as it stands -/
structure Metter (X : Cx) (x : Str) (g : Addr) (st : Stmt) (Ng : List Str) (a e pe : Str) (C : Nat → Addr) (fd : FuncData) (CP : Addr) : Prop where
  hg : X.mg x = some (.ref g)
  kg : PySem.W.keepIn X.K (.ref g) = true
  fn : Fun X.K x x st g fd
  bd : L2.Binds X.K fd [a] []
  sc : FnScope Ng [a] (defScope st)
  na : Ng[0]? = some a
  ne : Ng[1]? = some e
  la : (defScope st).names.lookup a = some .local
  le : (defScope st).names.lookup e = some .local
  body : MetBody a e pe (defBody st)
  gp : (defScope st).names.lookup pe = some .globalImplicit
  mp : X.mg pe = some (.ref CP)
  da : (a == ("__debug__" : Str)) = false
  ca : (a == ("__classdict__" : Str)) = false
  de : (e == ("__debug__" : Str)) = false
  ce : (e == ("__classdict__" : Str)) = false
  dp : (pe == ("__debug__" : Str)) = false
  ex : ∀ i, KitC X.K C i → PySem.W.exmOne X.K (.ref (C i)) (.ref CP) = some true
/-- what is made of an exception -/
def wMet (K : PySem.W.Frag) (C : Nat → Addr) (Q : VK) : XK := fun cls d H => d = none ∧ ∃ i, cls = .ref (C i) ∧ KitC K C i ∧ ∀ a, H a = none → Q (.ref a) (upd H a (ExV (C i) a))
theorem pe_met {X : Cx} {x a e pe : Str} {g c P CP : Addr} {k : Nat} {C : Nat → Addr} {st : Stmt} {Ng : List Str} {fd : FuncData} {params : Arguments} {body : Expr} {scope : Scope} {p lpos pos : Pos} {T : List (Addr × Str)}
    (Te : Metter X x g st Ng a e pe C fd CP) (hg : Gl X x) (TB : TabB X.base X.mg c P) (hcode : X.env.code = .ref c) (hmT : (P, X.env.qual ++ "<lambda>") ∈ T) (hu : ∀ p ∈ T, p.1 = P → p.2 = X.env.qual ++ "<lambda>")
    (hr : Room (k + 2) X.A) (L : LamS X.env.scope scope) (hdef : defaultsOf params X.env = ([], [])) (hbind : ∀ (q : Str) (cl : List (Str × Addr)) (pm cv ctv : Value), bindArgs (PySem.W.kla_fn "<lambda>" q params body scope cl pm cv ctv) ⟨[], []⟩ = pure []) (hdb : (x == ("__debug__" : Str)) = false := by decide) :
    PE X (.Call (.Name x p) [.Lambda params body scope lpos] [] pos) (fun σ H Q => Tabs T H ∧ ∀ H1, ExtN H H1 → Tabs T H1 → ∀ Q' : VK, uLam X k scope body (wMet X.K C Q) σ H1 Q') := by
  refine ⟨fun pins s σ H Q I ⟨hT, h⟩ => ?_⟩
  refine wpAny_Call_Name_kw (ld_glob I hg Te.hg ?_ hdb)
  refine PySem.W.callWith_K (h₀ := X.base) I.ok.mod.kin Te.kg ?_ (by rfl) (by rfl)
  show wpAny _ _ (spliced ((false, eval (.Lambda params body scope lpos) X.env) :: backTo pos (starEach [] X.env))) _ _ s
  refine Calls.spliced_cons (lam_make2 I TB hcode hmT hu hT hdef (L.has I.ok) fun f c' pm' ctv H1 s' I1 eN T1 hf hfn hfr hco => Calls.spliced_nil ⟨I1.kIn, ?_⟩)
  obtain ⟨oc, od, kV, doc, pm, an, cdv, ct, osl, efd, lk, hcd⟩ := Te.fn.ex
  have hbd := Te.bd
  subst efd
  have hw := h H1 eN T1
  refine wpAny_call (codeAny_mono (R := CR C8.CX0 X.stack X.prog X.w H1 s' Q C8.E0) (run_ofS (N := Ng) (ps := [a]) (us := [.ref f]) (vs := [.ref f]) lk hcd Te.sc hr I1.env0 (hbd s' [.ref f] I1.kIn rfl) (.cons rfl .nil) rfl fun hr' => ?_) fun r s2 hq => ?_)
  · obtain ⟨q1, q2, q3, q4, q5, q6, q7, q8, q9, q10, j, eb⟩ := Te.body
    rw [eb]
    have h0 : (L2.start Ng [V.ref f])[0]? = some (some (V.ref f)) := rfl
    refine ⟨_, pss_cons (ps_hold (X := cxOf C8.CX0 X.prog X.w X.K X.mg X.base Ng x (defScope st) g cdv X.A X.stack s' H1 C8.E0) (c := .ref CP) (i := 1)
      (tb := fun W D σ' H' => ∃ Ech : XK, (∀ cls d σ'' H'', Ech cls d H'' → W cls d σ'' H'') ∧ σ'[0]? = some (some (.ref f)) ∧ H' c' = some (CodeO c' (X.env.qual ++ "<lambda>")) ∧ ∀ Q' : VK, uLam X k scope body Ech σ H' Q') rfl rfl rfl Te.sc.nd Te.ne Te.le ⟨Te.gp, Te.dp, .inl Te.mp⟩ Te.de Te.ce (fun W pn xe tk _ => ?_)) pss_u, ?_⟩
    · refine ⟨fun pins s3 σ' H' D I' ⟨Ech, hW, h1, h2, h3⟩ => ?_⟩
      exact (pss_one (ps_expr (pos := q3) (pe_deed (i := 0) (p1 := q1) (p2 := q2) I1 L hf hfn hfr (hbind _ _ _ _ _) tk hW hr' Te.na (.inl Te.la) Te.da Te.ca))).run pins s3 σ' H' D I' ⟨h1, h2, h3 _⟩
    · refine ⟨wMet X.K C Q, fun cls d σ'' H'' ⟨e1, i, e2, Z, hQ⟩ => ?_, h0, hco, hw⟩
      subst e1 e2
      exact ⟨rfl, C i, rfl, Te.ex i Z, hQ⟩
  · cases r with
    | error e => exact hq.elim
    | ok fl =>
      cases fl with
      | ret u => exact I1.after hq
      | next => exact False.elim hq
      | brk => exact False.elim hq
      | cont => exact False.elim hq
end Hz
namespace Dw
open PySem PySem.Spec PyProof.Rows L2 LamX Hz
section
variable {X : Cx} {B P0 H0 : Hp} {W : Rows} {ρ : List Sl} {x : Str}
/-- met(lambda: deed), the deed raises and leaves the own objects -/
theorem dv_met {g cd Tb CP : Addr} {k i : Nat} {C : Nat → Addr} {st : Stmt} {Ng : List Str} {fd : FuncData} {params : Arguments} {body : Expr} {scope : Scope} {p lpos pos : Pos} {a' e' pe q : Str}
    (Te : Metter X x g st Ng a' e' pe C fd CP) (TB : TabB X.base X.mg cd Tb) (hcode : X.env.code = .ref cd) (hq : X.env.qual ++ "<lambda>" = q) (hr : Room (k + 2) X.A) (Z : KitC X.K C i) (kw : Nat) (nt : noT H0) (hWo : ∀ r ∈ W, okW Tb q r)
    (hb : ∀ (A : Around) (outer : List Env) (s0 : Shared) (H : Hp) (E : XK) (f c' : Addr), Room k (A.deeper (lamEnv X scope s0.heap.objs.size f c')) → EW (lamN X A outer s0 H E scope f c') B P0 H0 W ρ body (.exc (C i) fun W' => W' = W) E)
    (hW : W[kw]? = some (Tb, .tab q) := by rfl) (L : LamS X.env.scope scope := by first | exact lamS_by rfl | exact lamS_by (by with_unfolding_all rfl)) (hdef : defaultsOf params X.env = ([], []) := by rfl) (hbind : ∀ (q : Str) (cl : List (Str × Addr)) (pm cv ctv : Value), bindArgs (PySem.W.kla_fn "<lambda>" q params body scope cl pm cv ctv) ⟨[], []⟩ = pure [] := by intros; rfl) (hg : Gl X x := by rfl) (hdb : (x == ("__debug__" : Str)) = false := by decide) :
    DV X B P0 H0 W ρ (.Call (.Name x p) [.Lambda params body scope lpos] [] pos) (· = excD (C i)) := fun σ P H S Q qq => by
  refine ⟨_, pe_met (T := [(Tb, q)]) Te hg TB hcode (by rw [hq]; exact List.mem_singleton.mpr rfl) (fun p hp _ => by rw [List.mem_singleton.mp hp, hq]) hr L hdef hbind hdb, fun p hp => ?_, fun H1 x1 T1 Q' A outer s0 H00 f c' hr' => ?_⟩
  · rw [List.mem_singleton.mp hp]
    exact (S.own _ (List.mem_of_getElem? hW)).2
  · have t1 : TabS H1 Tb q := T1 (Tb, q) (List.mem_singleton.mpr rfl)
    have S1 := S.tabs x1 t1 hWo nt
    refine hb A outer s0 H00 (wMet X.K C Q) f c' hr' σ P H1 S1 Q' fun P' H' W' S' s' e => ⟨rfl, i, rfl, Z, fun a ha => ?_⟩
    subst e
    have g : Gr P' H' (upd P' a (ExV (C i) a)) (upd H' a (ExV (C i) a)) := Gr.new S'.gr.ph ha
    exact qq _ _ _ _ (S'.grow g) (s'.trans g.pp) rfl (.exc upd_same)
end
end Dw

/-! isinstance of a kept exception; own lists of what calls give; methods of what a call gives -/
namespace Dw
open PySem PySem.Spec PyProof.Rows L2 LamX Hz
/-- isinstance(e, c), e a kept exception of class D -/
def rIsV (K : PySem.W.Frag) (D : Addr) : List V → Hp → VK → Prop := fun xs H Q => ∃ (p : Addr) (c : V) (cv : Value) (b : Bool), xs = [.ref p, c] ∧ H p = some (ExV D p) ∧ (∀ u, RelV c u → u = cv) ∧ PySem.W.kitOne K (.ref D) cv = some b ∧ Q (.bl b) H
theorem call_isV {X : Cx} {D : Addr} (C : ExcC X.K D) : CallR X (.builtin "isinstance") (rIsV X.K D) := fun pins s σ H xs us Q I r h => by
  obtain ⟨p, c, cv, b, rfl, hp, hcv, e, q⟩ := h
  obtain ⟨u1, u2, rfl, r1, r2⟩ := vals2 r
  obtain rfl : u1 = Value.ref p := r1
  rw [hcv _ r2]
  obtain ⟨⟨oe, vs, hget, hz, hv⟩, _, _⟩ := I.hok p _ hp
  obtain ⟨oc, od, oda, osl⟩ := oe
  obtain ⟨h1, h2⟩ := hz
  dsimp only at h1 h2 hv hget ⊢
  subst h1 h2 hv
  exact PySem.W.kia_one (PySem.W.handS_kitx_exc C.hg C.hk C.hs C.hd C.ha C.hn C.ht C.hm) I.kIn ⟨hget, rfl, rfl, trivial⟩ e (fun z => nomatch z) fun tk => ⟨.bl b, H, I.kept (t' := tk) fun _ _ z => z, rfl, q⟩
section
variable {X : Cx} {B P0 H0 : Hp} {W Wr W1 : Rows} {ρ ρa : List Sl} {m : Bool} {a e o : Expr} {es : List Expr} {rest : List Stmt} {D : Ends} {pos p1 p2 p3 apos cpos : Pos} {d : PyData} {ds : List PyData} {x y z mn : Str} {E : XK} {C Ce : Addr} {TX : Rows → Prop} {T1 : Hp → V → Rows → Prop}
/-- isinstance(e, C), C an own class -/
theorem de_isE {D C : Addr} {b : Bool} (hm : X.mg "isinstance" = Option.none) (EC : ExcC X.K D) (gC : X.mg y = some (.ref C)) (kk : PySem.W.kitOne X.K (.ref D) (.ref C) = some b) (he : DE X B P0 H0 W ρ false e (excD D))
    (hg : Gl X "isinstance" := by rfl) (hgy : Gl X y := by rfl) (hdy : (y == ("__debug__" : Str)) = false := by decide)
    (he1 : starEach [e, .Name y p3] X.env = (false, eval e X.env) :: starEach [.Name y p3] X.env := by rfl) (he2 : starEach [.Name y p3] X.env = (false, eval (.Name y p3) X.env) :: starEach [] X.env := by rfl) (hpl : (backTo pos (starEach [.Name y p3] X.env)).any (·.1) = false := by rfl) :
    DE X B P0 H0 W ρ m (.Call (.Name "isinstance" p1) [e, .Name y p3] [] pos) (.bool b) := fun σ P H S Q q =>
  ⟨_, pe_callB (call_isV EC) hg hm (by decide +kernel) (pa_cons pe_u (pa_cons (pe_glob (v := .ref C) hgy gC rfl hdy) pa_nil he2) he1) (by decide) (by decide) he1 hpl, he σ P H S _ fun v P1 H1 g1 k1 => by
    obtain ⟨p, rfl, hp⟩ := dq_exc (dq_mono (vw_hp S.e0 (S.gr.trans g1)) _ _ k1)
    exact ⟨p, .ref C, .ref C, b, rfl, hp, (fun u h => h), kk, q _ P1 H1 g1 (.bl _)⟩⟩
/-- .., C a built-in class -/
theorem de_isET {D : Addr} {T : String} {b : Bool} (hm : X.mg "isinstance" = Option.none) (EC : ExcC X.K D) (gC : X.mg y = none) (hb : bootBuiltins y = some (.type T)) (kk : PySem.W.kitOne X.K (.ref D) (.type T) = some b) (he : DE X B P0 H0 W ρ false e (excD D))
    (hg : Gl X "isinstance" := by rfl) (hgy : Gl X y := by rfl) (hny : y ≠ "__name__" := by decide) (hdy : (y == ("__debug__" : Str)) = false := by decide)
    (he1 : starEach [e, .Name y p3] X.env = (false, eval e X.env) :: starEach [.Name y p3] X.env := by rfl) (he2 : starEach [.Name y p3] X.env = (false, eval (.Name y p3) X.env) :: starEach [] X.env := by rfl) (hpl : (backTo pos (starEach [.Name y p3] X.env)).any (·.1) = false := by rfl) :
    DE X B P0 H0 W ρ m (.Call (.Name "isinstance" p1) [e, .Name y p3] [] pos) (.bool b) := fun σ P H S Q q =>
  ⟨_, pe_callB (call_isV EC) hg hm (by decide +kernel) (pa_cons pe_u (pa_cons (pe_bltn (v := .ty T) hgy gC hb rfl hny hdy) pa_nil he2) he1) (by decide) (by decide) he1 hpl, he σ P H S _ fun v P1 H1 g1 k1 => by
    obtain ⟨p, rfl, hp⟩ := dq_exc (dq_mono (vw_hp S.e0 (S.gr.trans g1)) _ _ k1)
    exact ⟨p, .ty T, .type T, b, rfl, hp, (fun u h => h), kk, q _ P1 H1 g1 (.bl _)⟩⟩
/-- y = [e], e a call: a list of one's own -/
theorem g_setLst1 (i : Nat) (he : DV X B P0 H0 W ρ e (· = d)) (kk : ∀ p, G X B P0 H0 (W ++ [(p, .lst [d])]) (ρ.set i (.raw (.ref p))) rest D) (hN : X.N.Nodup := by assumption) (hi : X.N[i]? = some x := by rfl) (hx : Loc X.env.scope x := by first | exact Or.inl rfl | exact Or.inr rfl)
    (hs : swapsWith (.List [e] p2) (some (.Name x p1)) pos.line X.env = pure false := by rfl) (hf : X.fn x = true ∨ X.env.scope.names.lookup x = some .local := by first | exact .inl rfl | exact .inr rfl) (he1 : starEach [e] X.env = (false, eval e X.env) :: starEach [] X.env := by rfl) :
    G X B P0 H0 W ρ (.Assign [.Name x p1] (.List [e] p2) pos :: rest) D := fun σ P H S =>
  ⟨_, pss_cons (ps_set (i := i) hN hi hx (pe_lst (pa_cons pe_u pa_nil he1)) hs hf) pss_u, he σ P H S _ fun v d1 P1 H1 S1 s1 f1 k1 => ⟨by show 1 ≤ sizeLine; decide, fun p hp => by
    subst f1
    exact kk p _ P1 _ ((S1.row (ob := .lst [d1]) hp ⟨[v], upd_same, .cons k1 .nil⟩).put i (s := .raw (.ref p)) rfl)⟩⟩
/-- xs.append(e), e a call -/
theorem g_appV (i k : Nat) {p : Addr} (he : DV X B P0 H0 W ρ e (· = d)) (kk : G X B P0 H0 (W.set k (p, .lst (ds ++ [d]))) ρ rest D) (hl : ds.length < sizeLine) (hρ : ρ[i]? = some (.raw (.ref p)) := by rfl) (hW : W[k]? = some (p, .lst ds) := by rfl) (hN : X.N[i]? = some x := by rfl)
    (hv : Vis X.env.scope x := by first | exact Or.inl rfl | exact Or.inr (Or.inl rfl) | exact Or.inr (Or.inr rfl)) (hd : (x == ("__debug__" : Str)) = false := by decide) (hcd : (x == ("__classdict__" : Str)) = false := by decide)
    (hbase : attributeBase (.Name x p1) "append" X.env (eval (.Name x p1) X.env) = eval (.Name x p1) X.env := by rfl)
    (hfew : ((backTo cpos (starEach [e] X.env)).all (fun x => !x.1) && (backToKw cpos (keywordEach [] X.env)).all (fun x => x.1.isSome) && decide ([e].length + ([] : List Keyword).length + (if ([] : List Keyword).isEmpty then 0 else 1) < 30)) = true := by rfl)
    (hline : (apos.endLine == cpos.line) = true := by rfl) (hs : starEach [e] X.env = (false, eval e X.env) :: starEach [] X.env := by rfl) (hplain : (backTo cpos (starEach [] X.env)).any (·.1) = false := by rfl)
    (hsw : swapsWith (.Call (.Attribute (.Name x p1) "append" apos) [e] [] cpos) none pos.line X.env = pure false := by rfl) :
    G X B P0 H0 W ρ (.Expr (.Call (.Attribute (.Name x p1) "append" apos) [e] [] cpos) pos :: rest) D := fun σ P H S => by
  obtain ⟨x', e1, e2⟩ := S.sl i _ hρ
  obtain rfl : x' = some (.ref p) := e2
  obtain ⟨hP, xs, h1, h2⟩ := S.own _ (List.mem_of_getElem? hW)
  refine ⟨_, pss_cons (ps_expr (pe_bm PySem.F.plainAttrs_list PySem.F.slot_list_append PySem.F.type_list_append mt_append (pe_var hN hv hd hcd) (pa_cons pe_u pa_nil hs) hbase hfew hline hs hplain) hsw) pss_u, _, e1, .inl ⟨rfl, _, SqL.of h1⟩, ?_⟩
  refine he σ P H S _ fun v d1 P1 H1 S1 s1 f1 k1 => ?_
  subst f1
  obtain ⟨hP1, xs1, h1', h2'⟩ := S1.own _ (List.mem_of_getElem? hW)
  refine ⟨p, xs1, v, rfl, rfl, h1', by rw [h2'.len]; exact hl, ?_⟩
  exact kk σ P1 _ (S1.write k hW ⟨_, upd_same, h2'.app (.cons k1 .nil)⟩ fun c q => by rw [h1']; exact code_lst)
/-! ### deeds that raise -/
theorem Sat.left {σ : L2.St} {P H : Hp} (S : Sat B P0 H0 (W ++ W1) ρ σ P H) : Sat B P0 H0 W ρ σ P H :=
  { S with own := fun r hr => S.own r (List.mem_append_left _ hr), fr := fun r hr => S.fr r (List.mem_append_left _ hr), nd := by have := S.nd; rw [List.map_append, List.nodup_append] at this; exact this.1 }
theorem ew_dcS (he : DC X B P0 H0 W ρ e (.exc C) E) : EW X B P0 H0 W ρ e (.exc C fun W' => W' = W) E := fun σ P H S Q q => he σ P H S Q fun P' H' g => q P' H' W (S.grow g) g.pp rfl
/-- what a receiver is like whose method raises -/
structure Rcv (K : PySem.W.Frag) (C : Addr) (mn : Str) (W : Rows) (R : List Sl → Rows → OutW → Prop) (ρa : List Sl) (Ce : Addr) (v : V) (W' : Rows) : Prop where
  ex : ∃ (s1 dx : Addr) (fs : List (Str × V)) (W1 : Rows) (TX : Rows → Prop), v = .ref s1 ∧ W' = W ++ W1 ∧ (s1, Ob.raw (.ins C dx fs)) ∈ W1 ∧ fs.lookup mn = none ∧ (∀ r ∈ W1, plainRow r) ∧ R (.raw (.ref s1) :: ρa) W1 (.exc Ce TX)
theorem ew_methE {k j n : Nat} {R : List Sl → Rows → OutW → Prop} {pl : Sem Bool} (ho : EW X B P0 H0 W ρ o (.ret T1) E) (cl : Cls X.K C) (M : MetW X.prog X.w X.K X.mg X.base C mn k n R) (hr : Room j X.A) (hk : k ≤ j) (hp : Passes (L2N.CX X.prog X.w) X E) (ha : ∀ W', SA X B P0 H0 W' ρ (e :: es) ρa) (hn : ρa.length + 1 = n)
    (hT : ∀ P' v W', T1 P' v W' → Rcv X.K C mn W R ρa Ce v W')
    (hst : starEach (e :: es) X.env = (false, eval e X.env) :: starEach es X.env := by rfl) (hpl : (backTo pos (starEach es X.env)).any (·.1) = false := by rfl)
    (ht : eval (.Call (.Attribute o mn apos) (e :: es) [] pos) X.env = (do
      let ov ← eval o X.env
      standAt apos.atName
      let (f, first) ← holding [ov] (getMethod ov mn pl)
      callWith pos f first (backTo pos (starEach (e :: es) X.env)) (backToKw pos (keywordEach [] X.env))) := by rfl) : EW X B P0 H0 W ρ (.Call (.Attribute o mn apos) (e :: es) [] pos) (.exc Ce fun W' => W' = W) E := fun σ P H S Q q => by
  obtain ⟨f, fd, ps, hm, hB, F⟩ := M.ex
  refine ⟨_, pe_meth pe_u cl hm F (hr.mono hk) hB .nil hp pa_u hst hpl ht, ho σ P H S _ fun v P1 H1 W' S1 s1 t => ?_⟩
  obtain ⟨s, dx, fs, W1, TX, rfl, rfl, hmem, hl, hpl1, hR⟩ := (hT _ _ _ t).ex
  have ho' : H1 s = some (.ins C dx fs) := (S1.own _ (List.mem_append_right _ hmem)).2
  refine ⟨s, dx, fs, rfl, ho', hl, ha _ σ P1 H1 S1 _ fun vs P2 H2 g2 k2 => ?_⟩
  rw [List.append_nil]
  have S2 := S1.grow g2
  refine ⟨P2, .raw (.ref s) :: ρa, W1, .exc Ce TX, by rw [List.length_cons, ← k2.1, hn], .cons rfl k2, S2.gr.ph, S2.pd, fun r hr => S2.own r (List.mem_append_right _ hr), by have := S2.nd; rw [List.map_append, List.nodup_append] at this; exact this.2.1, hR, ?_⟩
  refine qs_up (ot := .exc Ce TX) S2 (s1.trans g2.pp) hpl1 (fun z => by cases z) ?_
  rintro P3 H3 _ S3 s3 ⟨W3, rfl, _⟩
  exact q P3 H3 W S3.left s3 rfl
theorem ew_methE0 {k j : Nat} {R : List Sl → Rows → OutW → Prop} {pl : Sem Bool} (ho : EW X B P0 H0 W ρ o (.ret T1) E) (cl : Cls X.K C) (M : MetW X.prog X.w X.K X.mg X.base C mn k 1 R) (hr : Room j X.A) (hk : k ≤ j) (hp : Passes (L2N.CX X.prog X.w) X E)
    (hT : ∀ P' v W', T1 P' v W' → Rcv X.K C mn W R [] Ce v W')
    (ht : eval (.Call (.Attribute o mn apos) [] [] pos) X.env = (do
      let ov ← eval o X.env
      standAt apos.atName
      let (f, first) ← holding [ov] (getMethod ov mn pl)
      callWith pos f first (backTo pos (starEach [] X.env)) (backToKw pos (keywordEach [] X.env))) := by rfl) : EW X B P0 H0 W ρ (.Call (.Attribute o mn apos) [] [] pos) (.exc Ce fun W' => W' = W) E := fun σ P H S Q q => by
  obtain ⟨f, fd, ps, hm, hB, F⟩ := M.ex
  refine ⟨_, pe_meth0 pe_u cl hm F (hr.mono hk) hB .nil hp ht, ho σ P H S _ fun v P1 H1 W' S1 s1 t => ?_⟩
  obtain ⟨s, dx, fs, W1, TX, rfl, rfl, hmem, hl, hpl1, hR⟩ := (hT _ _ _ t).ex
  have ho' : H1 s = some (.ins C dx fs) := (S1.own _ (List.mem_append_right _ hmem)).2
  refine ⟨s, dx, fs, rfl, ho', hl, ?_⟩
  refine ⟨P1, [.raw (.ref s)], W1, .exc Ce TX, rfl, .cons rfl ⟨rfl, fun i s h => by simp at h⟩, S1.gr.ph, S1.pd, fun r hr => S1.own r (List.mem_append_right _ hr), by have := S1.nd; rw [List.map_append, List.nodup_append] at this; exact this.2.1, hR, ?_⟩
  refine qs_up (ot := .exc Ce TX) S1 s1 hpl1 (fun z => by cases z) ?_
  rintro P3 H3 _ S3 s3 ⟨W3, rfl, _⟩
  exact q P3 H3 W S3.left s3 rfl
/-- a call of a def with no arguments -/
theorem ew_call0 {tb : Bool} {k j : Nat} {R : List Sl → Rows → OutW → Prop} {ot : OutW} (C : CalW X.prog X.w X.K X.mg X.base tb x k 0 R) (hr : Room j X.A) (hk : k ≤ j) (hp : Passes (L2N.CX X.prog X.w) X E) (hw : tb = true → noT H0 ∧ ∀ r ∈ W, noTab r) (hR : R [] [] ot) (hg : Gl X x := by rfl) (hdb : (x == ("__debug__" : Str)) = false := by decide) : EW X B P0 H0 W ρ (.Call (.Name x p1) [] [] pos) (ot.up W) E := fun σ P H S Q q => by
  obtain ⟨f, fd, ps, hm, hkp, hB, F⟩ := C.ex
  refine ⟨_, pe_call0 F (hr.mono hk) hg hm hkp hB .nil hp hdb, ?_⟩
  exact ⟨P, [], [], ot, rfl, ⟨rfl, fun i s h => by simp at h⟩, S.gr.ph, S.pd, (fun r hr => by cases hr), List.nodup_nil, hR, qs_up (Wr := W) (W1 := []) (by rw [List.append_nil]; exact S) (Same.refl P) (fun r hr => by cases hr) hw q⟩
/-- return x, x an own object -/
theorem g_retOwn {P1 Hl : Hp} {v : V} {T : Hp → V → Rows → Prop} (i : Nat) (hQ : QW P1 Hl D.rt E (.ret T)) (hT : ∀ P', T P' v W) (hρ : ρ[i]? = some (.raw v) := by rfl) (hN : X.N[i]? = some x := by rfl) (hv : Vis X.env.scope x := by first | exact Or.inl rfl | exact Or.inr (Or.inl rfl) | exact Or.inr (Or.inr rfl)) (hd : (x == ("__debug__" : Str)) = false := by decide) (hcd : (x == ("__classdict__" : Str)) = false := by decide) :
    G X P1 P1 Hl W ρ (.Return (some (.Name x p1)) pos :: rest) D := fun σ P H S => by
  obtain ⟨x', e1, e2⟩ := S.sl i _ hρ
  obtain rfl : x' = some v := e2
  exact ⟨_, pss_cons (ps_ret (pe_var hN hv hd hcd)) pss_u, _, e1, hQ v P H W S.fin (hT P)⟩
end
/-! ### '*' * n -/
def starN (n : Nat) : Str := if n = 1 then "*" else ⟨(List.replicate n ("*" : Str).cps).foldl (· ++ ·) #[]⟩
theorem star_len : ∀ n, n < 61 → (⟨(List.replicate n ("*" : Str).cps).foldl (· ++ ·) #[]⟩ : Str).length ≤ 60 := by decide +kernel
theorem op_star {X : Cx} : OpR X (binaryOp .Mult) (fun x y H Q => ∃ n : Nat, x = .str "*" ∧ y = .int (n : Nat) ∧ 1 ≤ n ∧ n ≤ 60 ∧ Q (.str (starN n)) H) := by
  intro pins s σ H x y v u Q I rx ry h
  obtain ⟨n, rfl, rfl, h1, h2, q⟩ := h
  obtain ⟨t, rfl⟩ := rx
  obtain ⟨t', rfl⟩ := ry
  have hl1 : ("*" : Str).length = 1 := by decide +kernel
  refine PySem.P.mul_str (by rw [decide_eq_false (by omega), decide_eq_false (by omega)]; rfl) (fun _ _ => ?_) (fun _ _ => ?_) ?_
  · rw [hl1]
    have : (1 : Int) ≤ (2 ^ 63 - 1) / (n : Int) := Int.le_ediv_of_mul_le (by omega) (by omega)
    omega
  · rw [hl1]
    show decide (1 * (n : Int).toNat > sizeLine) = false
    exact decide_eq_false (by rw [sizeLine_eq]; omega)
  · rw [if_neg (by omega)]
    by_cases e : n = 1
    · subst e
      exact ⟨.str "*", H, I, ⟨t, rfl⟩, q⟩
    · have e2 : (((n : Nat) : Int) == 1 || ("*" : Str).length == 0) = false := by
        rw [hl1, Bool.or_eq_false_iff]
        exact ⟨by simpa using (by omega : ¬ ((n : Nat) : Int) = 1), rfl⟩
      rw [e2]
      unfold starN at q
      rw [if_neg e] at q
      refine ⟨?_, .str ⟨(List.replicate n ("*" : Str).cps).foldl (· ++ ·) #[]⟩, H, I.tok _, ⟨_, rfl⟩, q⟩
      show Str.length ⟨(List.replicate n ("*" : Str).cps).foldl (· ++ ·) #[]⟩ ≤ sizeLine
      exact Nat.le_trans (star_len n (by omega)) (by decide)
theorem de_star {X : Cx} {B P0 H0 : Hp} {W : Rows} {ρ : List Sl} {m : Bool} {b : Expr} {pos p1 : Pos} {j n : Nat} (hb : DE X B P0 H0 W ρ false b (.int (n : Nat))) (h1 : 1 ≤ n) (h2 : n ≤ 60) : DE X B P0 H0 W ρ m (.BinOp (.Constant (.str "*") j p1) .Mult b pos) (.str (starN n)) := fun σ P H S Q q =>
  ⟨_, pe_op op_star pe_str pe_u, hb σ P H S _ fun v P1 H1 g1 k1 => by
    cases k1
    exact ⟨n, rfl, rfl, h1, h2, q _ P1 H1 g1 (.str _)⟩⟩
end Dw


namespace Dv
open PySem PySem.Spec PyProof.Rows L2 Dw Mi Hz LamX
def top (i : Nat) : Stmt := PySem.Challenge.pw_divisorwalks_k21_errors_apart.main.body.getD i (.Pass ⟨0, 0, 0, 0⟩)
abbrev s__wall : Stmt := top 0
abbrev s_is_whole : Stmt := top 14
abbrev s_is_number : Stmt := top 15
abbrev s_need_number : Stmt := top 16
abbrev s_factors_of : Stmt := top 17
abbrev s_divisors : Stmt := top 18
abbrev s_sum_of_all : Stmt := top 19
abbrev s_stepped : Stmt := top 20
abbrev s_step : Stmt := top 21
abbrev s_sums_to : Stmt := top 23
abbrev s_need_goal : Stmt := top 24
abbrev s_forerunners_of : Stmt := top 25
abbrev s_forerunners : Stmt := top 26
abbrev s_turned : Stmt := top 28
abbrev s_need_limit : Stmt := top 30
abbrev s_all_rounds : Stmt := top 31
abbrev s_need_both : Stmt := top 33
abbrev s_reachable : Stmt := top 34
abbrev s_chosen : Stmt := top 35
abbrev s_parts_for : Stmt := top 36
abbrev s_written : Stmt := top 38
abbrev s_integer_of : Stmt := top 39
abbrev s_power_of : Stmt := top 40
abbrev s_parse_factors : Stmt := top 41
abbrev s_Walk : Stmt := top 43
abbrev s_cell : Stmt := top 45
abbrev s_drawn : Stmt := top 46
abbrev s_roll : Stmt := top 47
abbrev s_rounds : Stmt := top 48
abbrev s_met : Stmt := top 49
abbrev s_alone : Stmt := top 50
abbrev s_stopped : Stmt := top 51
abbrev s_law : Stmt := top 52
section
variable {P : Program} {w : World} {K : PySem.W.Frag} {mg : Str → Option Value} {base : Heap}
/-- what is known of the module's names -/
structure Mg (K : PySem.W.Frag) (mg : Str → Option Value) : Prop where
  isi : mg "isinstance" = none
  int : mg "int" = none
  bool : mg "bool" = none
  range : mg "range" = none
  bound : ∃ t, mg "BOUND" = some (.int 20000 t)
/-- an own exception class -/
structure Exc (K : PySem.W.Frag) (mg : Str → Option Value) (x : Str) (C : Addr) : Prop where
  xC : PySem.W.excIn K C [.type "ValueError", .type "Exception", .type "BaseException", .type "object"] "ValueError.__new__" = true
  gC : mg x = some (.ref C)
  kC : PySem.W.keepIn K (.ref C) = true
  b : PySem.W.subIn K (.ref C) (.type "BaseException") = some true
  t : PySem.W.typeIn K (.ref C) = some (.type "type")
def isWhole (lo hi : Int) : PyData → Bool
  | .int i => decide (lo ≤ i ∧ i ≤ hi)
  | _ => false
theorem sc_is_whole : FnScope ["value", "low", "high"] ["value", "low", "high"] (defScope s_is_whole) := ⟨rfl, rfl, rfl, by decide +kernel, rfl, by decide +kernel, by decide +kernel⟩
def R_is_whole (ds : List PyData) (o : Out) : Prop := ∃ d lo hi, (∀ x, d ≠ .dict x) ∧ ds = [d, .int lo, .int hi] ∧ o = .ret (.bool (isWhole lo hi d))
theorem ok_is_whole' (hisi : mg "isinstance" = none) (hint : mg "int" = none) (hbool : mg "bool" = none) (F : Def K mg "is_whole" s_is_whole ["value", "low", "high"]) : Cal P w K mg base "is_whole" 1 3 R_is_whole := by
  refine F.cal sc_is_whole rfl fun f cdv A outer s H P1 ds o Q E hr hx tk hp hR hQ => ?_
  obtain ⟨d, lo, hi, nd, rfl, rfl⟩ := hR
  cases d with
  | int i =>
    refine g_ret (de_eq (de_and (de_isi hisi hint bb_int (de_v 0)) fun _ =>
      de_and (de_not (de_isi hisi hbool bb_bool (de_v 0))) fun _ =>
      de_one (de_chain op_le op_le (de_v 1) (de_v 0) (de_v 2))) ?_) hQ
    simp [isWhole]
  | bool i =>
    refine g_ret (de_eq (de_and (de_isi hisi hint bb_int (de_v 0)) fun _ =>
      de_and (l := false) (de_not (de_isi hisi hbool bb_bool (de_v 0))) fun h => by cases h) ?_) hQ
    simp [isWhole]
  | none =>
    refine g_ret (de_eq (de_and (l := false) (de_isi hisi hint bb_int (de_v 0)) fun h => by cases h) ?_) hQ
    simp [isWhole]
  | str _ =>
    refine g_ret (de_eq (de_and (l := false) (de_isi hisi hint bb_int (de_v 0)) fun h => by cases h) ?_) hQ
    simp [isWhole]
  | list _ =>
    refine g_ret (de_eq (de_and (l := false) (de_isi hisi hint bb_int (de_v 0)) fun h => by cases h) ?_) hQ
    simp [isWhole]
  | tuple _ =>
    refine g_ret (de_eq (de_and (l := false) (de_isi hisi hint bb_int (de_v 0)) fun h => by cases h) ?_) hQ
    simp [isWhole]
  | dict x => exact (nd x rfl).elim
theorem ok_is_whole (M : Mg K mg) (F : Def K mg "is_whole" s_is_whole ["value", "low", "high"]) : Cal P w K mg base "is_whole" 1 3 R_is_whole := ok_is_whole' M.isi M.int M.bool F
theorem sc_is_number : FnScope ["value"] ["value"] (defScope s_is_number) := ⟨rfl, rfl, rfl, by decide +kernel, rfl, by decide +kernel, by decide +kernel⟩
def R_is_number (ds : List PyData) (o : Out) : Prop := ∃ d, (∀ x, d ≠ .dict x) ∧ ds = [d] ∧ o = .ret (.bool (isWhole 1 20000 d))
theorem ok_is_number (M : Mg K mg) (F : Def K mg "is_number" s_is_number ["value"]) (c1 : Cal P w K mg base "is_whole" 1 3 R_is_whole) : Cal P w K mg base "is_number" 2 1 R_is_number := by
  refine F.cal sc_is_number rfl fun f cdv A outer s H P1 ds o Q E hr hx tk hp hR hQ => ?_
  obtain ⟨d, nd, rfl, rfl⟩ := hR
  exact g_ret (de_call c1 hr (by decide) (da_cons (de_v 0) (da_cons de_int (da_cons (de_globI M.bound) da_nil))) rfl ⟨d, 1, 20000, nd, rfl, rfl⟩) hQ
theorem sc_need_number : FnScope ["number"] ["number"] (defScope s_need_number) := ⟨rfl, rfl, rfl, by decide +kernel, rfl, by decide +kernel, by decide +kernel⟩
def R_need_number (C : Addr) (ds : List PyData) (o : Out) : Prop := ∃ d, (∀ x, d ≠ .dict x) ∧ ds = [d] ∧ o = if isWhole 1 20000 d = true then .ret .none else .exc C
theorem ok_need_number {C : Addr} (M : Mg K mg) (XC : Exc K mg "InvalidNumber" C) (F : Def K mg "need_number" s_need_number ["number"]) (c1 : Cal P w K mg base "is_number" 2 1 R_is_number) : Cal P w K mg base "need_number" 3 1 (R_need_number C) := by
  refine F.cal sc_need_number rfl fun f cdv A outer s H P1 ds o Q E hr hx tk hp hR hQ => ?_
  obtain ⟨d, nd, rfl, rfl⟩ := hR
  refine g_if (dt_not (dt_val (m := true) (de_call c1 hr (by decide) (da_cons (de_v 0) da_nil) rfl ⟨d, nd, rfl, rfl⟩))) (fun h => ?_) fun h => ?_
  · have h' : isWhole 1 20000 d = false := by simpa using h
    rw [h'] at hQ
    exact g_raise rfl tk XC.xC XC.gC XC.kC XC.b XC.t fun σ P H g => hQ P H g
  · have h' : isWhole 1 20000 d = true := by simpa using h
    rw [h'] at hQ
    exact g_to (g_nil fun σ P H S => hQ _ P H S.gr .non)
def pairD (q : Nat × Nat) : PyData := .tuple [.int q.1, .int q.2]
def facD (l : List (Nat × Nat)) : PyData := .list (l.map pairD)
theorem sc_factors_of : FnScope ["number", "found", "prime", "many"] ["number"] (defScope s_factors_of) := ⟨rfl, rfl, rfl, by decide +kernel, rfl, by decide +kernel, by decide +kernel⟩
def R_factors_of (ds : List PyData) (o : Out) : Prop := ∃ n : Nat, 1 ≤ n ∧ n ≤ 20000 ∧ ds = [.int n] ∧ o = .ret (facD (fac n))
structure FSt where
  n : Nat
  p : Nat
  acc : List (Nat × Nat)
theorem cmul_le {i j : Int} (h : -(2 ^ 64) < i ∧ i < 2 ^ 64) : CMul i j := .inl h
theorem len_le {f n p N : Nat} : (facF f n p).length ≤ f + 1 := by
  induction f generalizing n p with
  | zero =>
    unfold facF tailF
    split <;> simp
  | succ f ih =>
    unfold facF
    split
    · rw [List.length_append]
      have := ih (n := (stripF n p n 0).1) (p := p + 1)
      split <;> simp <;> omega
    · unfold tailF
      split <;> simp
theorem ok_factors_of (F : Def K mg "factors_of" s_factors_of ["number"]) : Cal P w K mg base "factors_of" 1 1 R_factors_of := by
  refine F.cal sc_factors_of rfl fun f cdv A outer s H P1 ds o Q E hr hx tk hp hR hQ => ?_
  obtain ⟨N, hN1, hN2, rfl, rfl⟩ := hR
  refine g_parK 1 2 (dk_lst da_nil) (dk_dat de_int) (fun O s1 O' s' ⟨_, _, _, k1⟩ ⟨_, _, _, k2⟩ => ?_) rfl sc_factors_of.nd
  cases k1 with
  | @own _ fo _ _ _ =>
  cases k2
  -- while prime * prime <= number
  refine g_while (α := FSt) (fun s => 2 ≤ s.p ∧ 1 ≤ s.n ∧ s.n ≤ N ∧ s.p ≤ 20002 ∧ s.acc.length ≤ s.p ∧ ∃ f, s.n + 2 ≤ f + s.p ∧ s.acc ++ facF f s.n s.p = fac N) (fun s => s.n + 1 - s.p)
    (fun s => [(fo, .lst (s.acc.map pairD))]) (fun s => [.dat (.int s.n), .raw (.ref fo), .dat (.int s.p), .no]) ⟨N, 2, []⟩ hp
    ⟨Nat.le_refl _, hN1, Nat.le_refl _, by show (2 : Nat) ≤ 20002; decide, by simp, N, Nat.le_refl _, rfl⟩ rfl ⟨.inr rfl, .inr rfl, .inr rfl, .inr rfl, trivial⟩ ?_
  rintro ⟨n, p, acc⟩ ⟨h1, h2, h3, h4, h5, fu, h6, h7⟩
  dsimp only at h1 h2 h3 h4 h5 h6 h7 ⊢
  refine ⟨_, dt_le (de_mul (de_v 2) (de_v 2) (cmul_le (by omega))) (de_v 0), fun hb => ?_, fun hb => ?_⟩
  · -- one turn
    have hpp : p * p ≤ n := by
      have := of_decide_eq_true hb
      exact_mod_cast this
    have hpn : p ≤ n := Nat.le_trans (Nat.le_mul_self p) hpp
    refine g_set 3 de_int ?_ sc_factors_of.nd
    -- while number % prime == 0
    refine g_while (α := Nat × Nat) (fun s => 1 ≤ s.1 ∧ s.1 ≤ n ∧ s.2 ≤ 20000 ∧ s.2 + s.1 ≤ n ∧ ∃ f, s.1 ≤ f ∧ stripF f p s.1 s.2 = stripF n p n 0) (fun s => s.1)
      (fun s => [(fo, .lst (acc.map pairD))]) (fun s => [.dat (.int s.1), .raw (.ref fo), .dat (.int p), .dat (.int s.2)]) (n, 0) hp
      ⟨h2, Nat.le_refl _, by show (0 : Nat) ≤ 20000; decide, by show 0 + n ≤ n; omega, n, Nat.le_refl _, rfl⟩ rfl ⟨.inr rfl, .inr rfl, .inr rfl, .inr rfl, trivial⟩ ?_
    rintro ⟨m, k⟩ ⟨i1, i2, i3, i4, g, i5, i6⟩
    dsimp only at i1 i2 i3 i4 i5 i6 ⊢
    have em : ((m : Nat) : Int) % (p : Int) = ((m % p : Nat) : Int) := by push_cast; rfl
    refine ⟨_, dt_eqI (de_mod (de_v 0) (de_v 2) (by omega)) de_int, fun hb2 => ?_, fun hb2 => ?_⟩
    · have hm : m % p = 0 := by
        have := of_decide_eq_true hb2
        rw [em] at this
        exact_mod_cast this
      have hd : p * (m / p) = m := Nat.mul_div_cancel' (Nat.dvd_of_mod_eq_zero hm)
      have hlt := div_lt' i1 h1
      have h0 : 1 ≤ m / p := by
        rcases Nat.eq_zero_or_pos (m / p) with z | z
        · rw [z] at hd; omega
        · exact z
      refine g_par 0 3 (de_eq (de_div (de_v 0) (de_v 2) ⟨by omega, by omega⟩) (d1 := .int ((m / p : Nat) : Int)) (by push_cast; rfl)) (de_eq (de_add (de_v 3) de_int) (d1 := .int ((k + 1 : Nat) : Int)) (by push_cast; rfl)) ?_ rfl sc_factors_of.nd
      obtain ⟨g', rfl⟩ : ∃ g', g = g' + 1 := ⟨g - 1, by omega⟩
      rw [stripF_yes hm] at i6
      exact g_again (m / p, k + 1) ⟨h0, by show m / p ≤ n; omega, by show k + 1 ≤ 20000; omega, by show k + 1 + m / p ≤ n; omega, g', by show m / p ≤ g'; omega, i6⟩ hlt ⟨.inr rfl, .inr rfl, .inr rfl, .inr rfl, trivial⟩
    · have hm : ¬ m % p = 0 := fun z => by
        have := of_decide_eq_false hb2
        rw [em, z] at this
        exact this rfl
      rw [stripF_no hm] at i6
      obtain ⟨a1, a2, a3, a4, a5⟩ := strip_spec n p n 0 h1 h2 (Nat.le_refl _)
      rw [← i6] at a1 a2 a3 a4 a5
      have hacc : (acc ++ (if 0 < k then [(p, k)] else [])).length ≤ p + 1 := by
        rw [List.length_append]
        split <;> simp <;> omega
      have fin : ∀ acc', acc' = acc ++ (if 0 < k then [(p, k)] else []) → ∃ f, m + 2 ≤ f + (p + 1) ∧ acc' ++ facF f m (p + 1) = fac N := fun acc' e => by
        obtain ⟨fu', rfl⟩ : ∃ fu', fu = fu' + 1 := ⟨fu - 1, by omega⟩
        refine ⟨fu', by omega, ?_⟩
        rw [facF, if_pos hpp, ← i6] at h7
        rw [e, List.append_assoc]
        exact h7
      -- if many > 0
      refine g_if (dt_gt (de_v 3) de_int) (fun hb3 => ?_) fun hb3 => ?_
      · have hk : 0 < k := by
          have := of_decide_eq_true hb3
          omega
        refine g_app (ds := acc.map pairD) 1 0 (de_tup (da_cons (de_v 2) (da_cons (de_v 3) da_nil))) ?_ (by rw [List.length_map]; exact Nat.lt_of_le_of_lt h5 (Nat.lt_of_le_of_lt h4 (by decide)))
        refine g_to ?_
        refine g_aug 2 de_int ?_ sc_factors_of.nd
        exact g_again ⟨m, p + 1, acc ++ [(p, k)]⟩ ⟨by show 2 ≤ p + 1; omega, i1, by show m ≤ N; omega, by show p + 1 ≤ 20002; omega, by rw [if_pos hk] at hacc; exact hacc, fin _ (by rw [if_pos hk])⟩ (by show m + 1 - (p + 1) < n + 1 - p; omega) ⟨.inr rfl, .inr rfl, .inr (by push_cast; rfl), .inl rfl, trivial⟩ (by rw [List.map_append]; rfl)
      · have hk : ¬ 0 < k := by
          have := of_decide_eq_false hb3
          omega
        refine g_to ?_
        refine g_aug 2 de_int ?_ sc_factors_of.nd
        exact g_again ⟨m, p + 1, acc⟩ ⟨by show 2 ≤ p + 1; omega, i1, by show m ≤ N; omega, by show p + 1 ≤ 20002; omega, by rw [if_neg hk, List.append_nil] at hacc; exact hacc, fin _ (by rw [if_neg hk, List.append_nil])⟩ (by show m + 1 - (p + 1) < n + 1 - p; omega) ⟨.inr rfl, .inr rfl, .inr (by push_cast; rfl), .inl rfl, trivial⟩
  · -- the end
    have hpp : ¬ p * p ≤ n := fun z => by
      have := of_decide_eq_false hb
      exact this (by exact_mod_cast z)
    have e : facF fu n p = tailF n := by
      cases fu with
      | zero => rfl
      | succ fu => rw [facF, if_neg hpp]
    rw [e] at h7
    refine g_ret (de_eq (de_cat (m := false) (de_own 1 0) (de_if (d := .list ((tailF n).map pairD)) (dt_gt (de_v 0) de_int) (fun hk => de_eq (de_lst (da_cons (de_tup (da_cons (de_v 0) (da_cons de_int da_nil))) da_nil)) ?_) (fun hk => de_eq (de_lst da_nil) ?_)) ?_) ?_) hQ
    · have : 1 < n := by
        have := of_decide_eq_true hk
        omega
      rw [tailF, if_pos this]
      rfl
    · have : ¬ 1 < n := by
        have := of_decide_eq_false hk
        omega
      rw [tailF, if_neg this]
      rfl
    · have : (tailF n).length ≤ 1 := by
        unfold tailF
        split <;> simp
      rw [List.length_map, List.length_map]
      exact Nat.le_trans (by omega : _ ≤ 20003) (by decide)
    · rw [← List.map_append, h7]
      rfl
abbrev N_divisors : List Str := ["number", "found", "prime", "many", "level", "turn", "one"]
def natsD (l : List Nat) : PyData := .list (l.map fun d => .int (d : Nat))
theorem natsD_eq (l : List Nat) : natsD l = .list ((l.map (fun d : Nat => (d : Int))).map PyData.int) := by unfold natsD; rw [List.map_map]; rfl
theorem natsD_ints (l : List Nat) : (l.map fun d => PyData.int (d : Nat)) = (l.map (fun d : Nat => (d : Int))).map PyData.int := by rw [List.map_map]; rfl
theorem facD_at {l : List (Nat × Nat)} {i : Nat} {d : PyData} (h : (l.map pairD)[i]? = some d) : ∃ q, l[i]? = some q ∧ d = .tuple [.int q.1, .int q.2] := by
  rw [List.getElem?_map] at h
  cases e : l[i]? with
  | none => rw [e] at h; cases h
  | some q =>
    rw [e] at h
    exact ⟨q, rfl, (Option.some.inj h).symm⟩
theorem sum_cast : ∀ l : List Nat, (l.map (fun d : Nat => (d : Int))).sum = ((l.sum : Nat) : Int)
  | [] => rfl
  | a :: l => by
    rw [List.map_cons, List.sum_cons, List.sum_cons, sum_cast l]
    push_cast
    rfl
theorem nats_get {l : List Nat} {i : Nat} {d : PyData} (h : (l.map fun d => PyData.int (d : Nat))[i]? = some d) : ∃ a, l[i]? = some a ∧ d = .int (a : Nat) := by
  rw [List.getElem?_map] at h
  cases e : l[i]? with
  | none => rw [e] at h; cases h
  | some a =>
    rw [e] at h
    exact ⟨a, rfl, (Option.some.inj h).symm⟩
theorem mem_nats (l : List Nat) (y : Nat) : decide ((y : Int) ∈ l.map (fun d : Nat => (d : Int))) = decide (y ∈ l) := by
  refine decide_eq_decide.mpr ⟨fun z => ?_, fun z => List.mem_map.mpr ⟨y, z, rfl⟩⟩
  obtain ⟨d, hd, e⟩ := List.mem_map.mp z
  have : d = y := by exact_mod_cast e
  rw [← this]; exact hd
/-! sum_of_all -/
abbrev N_sum_of_all : List Str := ["number", "total", "prime", "many", "own", "turn"]
theorem sc_sum_of_all : FnScope N_sum_of_all ["number"] (defScope s_sum_of_all) := ⟨rfl, rfl, rfl, by decide +kernel, rfl, by decide +kernel, by decide +kernel⟩
def R_sum_of_all (ds : List PyData) (o : Out) : Prop := ∃ n : Nat, 1 ≤ n ∧ n ≤ 20000 ∧ ds = [.int n] ∧ o = .ret (.int (sigma n : Nat))
theorem ok_sum_of_all (M : Mg K mg) (F : Def K mg "sum_of_all" s_sum_of_all ["number"]) (c1 : Cal P w K mg base "factors_of" 1 1 R_factors_of) : Cal P w K mg base "sum_of_all" 2 1 R_sum_of_all := by
  refine F.cal sc_sum_of_all rfl fun f cdv A outer s H P1 ds o Q E hr hx tk hp hR hQ => ?_
  obtain ⟨n, hn1, hn2, rfl, rfl⟩ := hR
  refine g_set 1 de_int ?_ sc_sum_of_all.nd
  refine g_forI (α := Nat) (fun i t => t = sigF ((fac n).take i) 1) (fun _ => []) (fun t => [.dat (.int n), .dat (.int t), .no, .no, .no, .no]) 1 hp rfl
    (di_list (de_call c1 hr (by decide) (da_cons (de_v 0) da_nil) rfl ⟨n, hn1, hn2, rfl, rfl⟩)) (gt_pair 2 3 rfl sc_sum_of_all.nd) rfl rfl ⟨.inr rfl, .inr rfl, .inr rfl, .inr rfl, .inr rfl, .inr rfl, trivial⟩ ?_ ?_
  · rintro B hB i t d hd ht0
    obtain ⟨q, hq, rfl⟩ := facD_at hd
    have hm := List.mem_of_getElem? hq
    obtain ⟨pr, hk1, hpk, hpn, hkn⟩ := fac_mem hn1 hm
    refine ⟨_, ⟨_, _, rfl, rfl⟩, ?_⟩
    refine g_set 4 de_int ?_ sc_sum_of_all.nd
    have hbig : (n + 1) * n ≤ 20001 * 20000 := Nat.mul_le_mul (by omega) hn2
    refine g_forI (α := Nat) (fun i j => j = i) (fun _ => []) (fun j => [.dat (.int n), .dat (.int t), .dat (.int q.1), .dat (.int q.2), .dat (.int (geo q.1 j 1 : Nat)), .no]) 0 hp rfl
      (di_range M.range (de_v 3) (by omega)) (gt_name 5 sc_sum_of_all.nd) rfl rfl ⟨.inr rfl, .inr rfl, .inr rfl, .inr rfl, .inr rfl, .inr rfl, trivial⟩ ?_ ?_
    · rintro B2 hB2 _ j d2 hd2 rfl
      have hj : j < q.2 := by
        have := (List.getElem?_eq_some_iff.mp hd2).1
        simpa using this
      refine ⟨_, rfl, ?_⟩
      refine g_set 4 (de_eq (de_add (de_mul (de_v 4) (de_v 2) (.inr (by omega))) de_int) (d1 := .int (geo q.1 (j + 1) 1 : Nat)) (by rw [geo_snoc]; push_cast; rfl)) ?_ sc_sum_of_all.nd
      exact g_next (j + 1) rfl ⟨.inr rfl, .inr rfl, .inr rfl, .inr rfl, .inr rfl, .inl rfl, trivial⟩
    · rintro B2 hB2 j rfl
      have ez : ((List.range (q.2 : Int).toNat).map fun i => PyData.int (i : Nat)).length = q.2 := by simp
      rw [ez]
      have hg := geo_le hn1 hm (Nat.le_refl q.2)
      refine g_set 1 (de_mul (de_v 1) (de_v 4) (.inr (by omega))) ?_ sc_sum_of_all.nd
      exact g_next (t * geo q.1 q.2 1) (by rw [sigF_snoc hq, ht0]) ⟨.inr rfl, .inr (by push_cast; rfl), .inl rfl, .inl rfl, .inl rfl, .inl rfl, trivial⟩
  · rintro B hB t ht
    have et : (fac n).take ((fac n).map pairD).length = fac n := by rw [List.length_map, List.take_length]
    rw [et, sigF_sigma hn1] at ht
    subst ht
    exact g_ret (de_v 1) hQ
/-! stepped, parts, step -/
theorem sc_stepped : FnScope ["number"] ["number"] (defScope s_stepped) := ⟨rfl, rfl, rfl, by decide +kernel, rfl, by decide +kernel, by decide +kernel⟩
def R_stepped (ds : List PyData) (o : Out) : Prop := ∃ n : Nat, 1 ≤ n ∧ n ≤ 20000 ∧ ds = [.int n] ∧ o = .ret (.int (Mi.s n : Nat))
theorem ok_stepped (F : Def K mg "stepped" s_stepped ["number"]) (c1 : Cal P w K mg base "sum_of_all" 2 1 R_sum_of_all) : Cal P w K mg base "stepped" 3 1 R_stepped := by
  refine F.cal sc_stepped rfl fun f cdv A outer s H P1 ds o Q E hr hx tk hp hR hQ => ?_
  obtain ⟨n, hn1, hn2, rfl, rfl⟩ := hR
  refine g_ret (de_eq (de_sub (de_call c1 hr (by decide) (da_cons (de_v 0) da_nil) rfl ⟨n, hn1, hn2, rfl, rfl⟩) (de_v 0)) ?_) hQ
  have := sigma_eq hn1
  unfold Mi.s
  congr 1
  omega
theorem cut_dropLast (ds : List PyData) : Dw.cutD ds none (some (-1)) = ds.dropLast := by
  unfold Dw.cutD
  rw [List.dropLast_eq_take]
  simp only [HT.sIx]
  rw [if_pos (by decide), List.drop_zero]
  congr 1
  omega
/-- what a def with one number gives: InvalidNumber, or f -/
def R_num (C : Addr) (fn : Nat → PyData) (ds : List PyData) (o : Out) : Prop := ∃ d, (∀ x, d ≠ .dict x) ∧ ds = [d] ∧ ((isWhole 1 20000 d = false ∧ o = .exc C) ∨ ∃ n : Nat, 1 ≤ n ∧ n ≤ 20000 ∧ d = .int n ∧ o = .ret (fn n))
theorem whole_nat {n : Nat} (h1 : 1 ≤ n) (h2 : n ≤ 20000) : isWhole 1 20000 (.int n) = true := by
  show decide _ = true
  exact decide_eq_true ⟨by omega, by omega⟩
/-- need_number(x) ahead of the rest: both ways -/
theorem g_need {X : Cx} {B P0 H0 : Hp} {W : List (Addr × Ob)} {ρ : List Sl} {rest : List Stmt} {D : Ends} {C : Addr} {j : Nat} {d : PyData} {a : Expr} {p1 p2 pos : Pos} {E : XK} (c1 : Cal X.prog X.w X.K X.mg X.base "need_number" 3 1 (R_need_number C)) (hr : Room j X.A) (hk : 3 ≤ j) (hp : Passes (L2N.CX X.prog X.w) X E) (ha : DE X B P0 H0 W ρ true a d) (nd : ∀ x, d ≠ .dict x)
    (h1 : isWhole 1 20000 d = false → ∀ P H, Gr P0 H0 P H → E (.ref C) none H) (h2 : isWhole 1 20000 d = true → G X B P0 H0 W ρ rest D) (hg : Gl X "need_number" := by rfl)
    (he : starEach [a] X.env = (false, eval a X.env) :: starEach [] X.env := by rfl) (hpl : (backTo p2 (starEach [] X.env)).any (·.1) = false := by rfl) (hs : swapsWith (.Call (.Name "need_number" p1) [a] [] p2) none pos.line X.env = pure false := by rfl) :
    G X B P0 H0 W ρ (.Expr (.Call (.Name "need_number" p1) [a] [] p2) pos :: rest) D := by
  cases e : isWhole 1 20000 d with
  | false => exact g_callX (Cx := C) c1 hr hk hp (da_cons ha da_nil he) rfl ⟨d, nd, rfl, by rw [if_neg (by rw [e]; decide)]⟩ (h1 e) hg (by decide) he hpl hs
  | true => exact g_expr (de_call (d := .none) c1 hr hk (da_cons ha da_nil he) rfl ⟨d, nd, rfl, by rw [if_pos e]⟩ hg (by decide) he hpl) (h2 e) hs
/-- the shape: need_number(number), then the rest -/
theorem num_cases {C : Addr} {fn : Nat → PyData} {ds : List PyData} {o : Out} {P1 H : Hp} {Q : VK} {E : XK} (hR : R_num C fn ds o)
    (hQ : QE P1 H Q E o) :
    ∃ d, ds = [d] ∧ (∀ x, d ≠ .dict x) ∧ (isWhole 1 20000 d = false → ∀ P' H', Gr P1 H P' H' → E (.ref C) none H') ∧ (isWhole 1 20000 d = true → ∃ n : Nat, 1 ≤ n ∧ n ≤ 20000 ∧ d = .int n ∧ ∀ v P' H', Gr P1 H P' H' → Dq P' v (fn n) → Q v H') := by
  obtain ⟨d, nd, rfl, ⟨e, rfl⟩ | ⟨n, h1, h2, rfl, rfl⟩⟩ := hR
  · exact ⟨d, rfl, nd, fun _ => hQ, fun z => by rw [e] at z; cases z⟩
  · exact ⟨_, rfl, nd, fun z => (by rw [whole_nat h1 h2] at z; cases z), fun _ => ⟨n, h1, h2, rfl, hQ⟩⟩
theorem R_num_ok {C : Addr} {fn : Nat → PyData} {n : Nat} (h1 : 1 ≤ n) (h2 : n ≤ 20000) : R_num C fn [.int n] (.ret (fn n)) := ⟨_, (fun x h => by cases h), rfl, .inr ⟨n, h1, h2, rfl, rfl⟩⟩
theorem R_num_bad {C : Addr} {fn : Nat → PyData} {d : PyData} (nd : ∀ x, d ≠ .dict x) (h : isWhole 1 20000 d = false) : R_num C fn [d] (.exc C) := ⟨d, nd, rfl, .inl ⟨h, rfl⟩⟩
theorem sc_step : FnScope ["number"] ["number"] (defScope s_step) := ⟨rfl, rfl, rfl, by decide +kernel, rfl, by decide +kernel, by decide +kernel⟩
theorem ok_step {C : Addr} (F : Def K mg "step" s_step ["number"]) (c1 : Cal P w K mg base "need_number" 3 1 (R_need_number C)) (c2 : Cal P w K mg base "stepped" 3 1 R_stepped) : Cal P w K mg base "step" 4 1 (R_num C fun n => .int (Mi.s n : Nat)) := by
  refine F.cal sc_step rfl fun f cdv A outer s H P1 ds o Q E hr hx tk hp hR hQ => ?_
  obtain ⟨d, rfl, nd, k1, k2⟩ := num_cases hR hQ
  refine g_need c1 hr (by decide) hx (de_v 0) nd k1 fun e => ?_
  obtain ⟨n, h1, h2, rfl, hQ⟩ := k2 e
  exact g_ret (de_call c2 hr (by decide) (da_cons (de_v 0) da_nil) rfl ⟨n, h1, h2, rfl, rfl⟩) hQ
theorem ixN_last {n : Nat} (h : 0 < n) : ixN n (-1) = some (n - 1) := by
  unfold ixN
  rw [if_neg (by omega), if_pos (by omega)]
  congr 1
  omega
abbrev N_cell : List Str := ["_law_script", "_law_k"]
abbrev N_drawn : List Str := ["_law_cell_here", "_law_k", "_law_more"]
abbrev N_roll : List Str := ["_law_dice", "_law_many", "_law_told"]
abbrev N_rounds : List Str := ["_law_script", "_law_most", "_law_k"]
/-- the names that the law's own helpers lean on -/
structure Mb (mg : Str → Option Value) : Prop where
  len : mg "len" = none
  max : mg "max" = none
  min : mg "min" = none
  range : mg "range" = none
theorem sc_cell : FnScope N_cell N_cell (defScope s_cell) := ⟨rfl, rfl, rfl, by decide +kernel, rfl, by decide +kernel, by decide +kernel⟩
def cellI (cs : List Int) (k : Nat) : Int := if cs = [] then (k : Int) * 7919 else cs.getD (k % cs.length) 0 + (k : Int) / cs.length * 104729
def R_cell (cs : List Int) (i : Int) (o : PyData) : Prop := ∃ k : Nat, cs.length ≤ 64 ∧ k ≤ 64 ∧ i = k ∧ o = .int (cellI cs k)
theorem eqv_nil (cs : List Int) : PyData.eqv (.list (cs.map .int)) (.list []) = decide (cs = []) := eqv_ints cs []
theorem ok_cell (M : Mb mg) (F : Def K mg "_law_cell" s_cell N_cell) : CalS P w K mg base "_law_cell" 1 R_cell := by
  refine F.calS sc_cell rfl fun f cdv A outer s H a cs i o Q E hr hp hS hR hQ => ?_
  obtain ⟨k, hc, hk, rfl, rfl⟩ := hR
  unfold cellI at hQ
  refine g_if (dt_eqS hr.units hS (ds_v 0) (de_lst da_nil) (sh_ints (n := 0) []).ok) (fun h => ?_) fun h => ?_
  · rw [eqv_nil] at h
    have h' := of_decide_eq_true h
    rw [if_pos h'] at hQ
    exact g_retN (de_mul (de_v 1) de_int (.inr ⟨by omega, by omega⟩)) hQ
  · rw [eqv_nil] at h
    have h' : ¬ cs = [] := of_decide_eq_false h
    rw [if_neg h'] at hQ
    have hl : 0 < cs.length := List.length_pos_iff.mpr h'
    refine g_to (g_retN (de_add (de_ixS (z := cs.getD (k % cs.length) 0) hS (ds_v 0) (de_mod (de_v 1) (de_lenS M.len hS (ds_v 0)) (by omega)) ?_) (de_mul (de_div (de_v 1) (de_lenS M.len hS (ds_v 0)) ⟨by omega, by omega⟩) de_int (.inr ⟨by omega, by omega⟩))) hQ)
    have e : ((k : Nat) : Int) % (cs.length : Int) = ((k % cs.length : Nat) : Int) := by simp
    have hlt : k % cs.length < cs.length := Nat.mod_lt _ hl
    rw [e]
    unfold atI
    rw [ixN_nat (by simpa using hlt)]
    show (cs.map V.int)[k % cs.length]? = _
    rw [List.getElem?_map, List.getD_eq_getElem?_getD, List.getElem?_eq_getElem hlt]
    rfl
theorem sc_drawn : FnScope N_drawn ["_law_cell_here", "_law_k"] (defScope s_drawn) := ⟨rfl, rfl, rfl, by decide +kernel, rfl, by decide +kernel, by decide +kernel⟩
def drawnB (b : Int) : Int := (b % 18446744073709551557 + 1) * (b / 18446744073709551557 + 1) * b % 340282366920938463463374607431768211507
def drawnA (a : Int) : Int := drawnB (a * a % 340282366920938463463374607431768211297)
def drawnI (c k : Int) : Int := drawnA ((c * 6364136223846793005 + (k + 1) * 1442695040888963407) % 340282366920938463463374607431768211507)
def R_drawn (ds : List PyData) (o : Out) : Prop := ∃ (c k : Int), ds = [.int c, .int k] ∧ o = .ret (.int (drawnI c k))
theorem lt129 {a : Int} (h0 : 0 ≤ a) (h : a < 340282366920938463463374607431768211507) : a.natAbs < 2 ^ 129 := by omega
theorem ok_drawn (F : Def K mg "_law_drawn" s_drawn ["_law_cell_here", "_law_k"]) : Cal P w K mg base "_law_drawn" 1 2 R_drawn := by
  refine F.cal sc_drawn rfl fun f cdv A outer s H P1 ds o Q E hr hx tk hp hR hQ => ?_
  obtain ⟨c, k, rfl, rfl⟩ := hR
  unfold drawnI at hQ
  refine g_set 2 (de_mod (de_add (de_mul (de_v 0) de_int (.inr ⟨by decide, by decide⟩)) (de_mul (de_add (de_v 1) de_int) de_int (.inr ⟨by decide, by decide⟩))) de_int (by decide)) ?_ sc_drawn.nd
  generalize hA : (c * 6364136223846793005 + (k + 1) * 1442695040888963407) % 340282366920938463463374607431768211507 = a at hQ ⊢
  unfold drawnA at hQ
  have a0 : 0 ≤ a := by rw [← hA]; exact Int.emod_nonneg _ (by decide)
  have a1 : a < 340282366920938463463374607431768211507 := by rw [← hA]; exact Int.emod_lt_of_pos _ (by decide)
  have a2 := lt129 a0 a1
  refine g_set 2 (de_mod (de_mulW (de_v 2) (de_v 2) (wide_mul a2 a2 (by decide) (by decide) (by decide))) de_int (by decide)) ?_ sc_drawn.nd
  generalize hB : a * a % 340282366920938463463374607431768211297 = b at hQ ⊢
  unfold drawnB at hQ
  have b0 : 0 ≤ b := by rw [← hB]; exact Int.emod_nonneg _ (by decide)
  have b1 : b < 340282366920938463463374607431768211297 := by rw [← hB]; exact Int.emod_lt_of_pos _ (by decide)
  have b2 := lt129 b0 (by omega)
  have e0 : 0 ≤ b % 18446744073709551557 := Int.emod_nonneg _ (by decide)
  have e1 : b % 18446744073709551557 < 18446744073709551557 := Int.emod_lt_of_pos _ (by decide)
  have f0 : 0 ≤ b / 18446744073709551557 := Int.ediv_nonneg b0 (by decide)
  have f1 : b / 18446744073709551557 < 18446744073709552000 := by omega
  have e2 : (b % 18446744073709551557 + 1).natAbs < 2 ^ 66 := by omega
  have f2 : (b / 18446744073709551557 + 1).natAbs < 2 ^ 66 := by omega
  refine g_set 2 (de_mulW (de_mulW (de_add (de_mod (de_v 2) de_int (by decide)) de_int) (de_add (de_divW (de_v 2) de_int (wide_div (b := 65) (by decide) (by decide) (by decide) (by decide))) de_int) (wide_mul e2 f2 (by decide) (by decide) (by decide))) (de_v 2) (wide_mul (wide_lt e2 f2) b2 (by decide) (by decide) (by decide))) ?_ sc_drawn.nd
  exact g_ret (de_mod (de_v 2) de_int (by decide)) hQ
/-! roll -/
def P_roll (m : Int) : Prop := 1 ≤ m ∧ m < 1073741824
def Φ_roll (m r : Int) : Prop := 0 ≤ r ∧ r < m
theorem sc_roll : FnScope N_roll ["_law_dice", "_law_many"] (defScope s_roll) := ⟨rfl, rfl, rfl, by decide +kernel, rfl, by decide +kernel, by decide +kernel⟩
theorem roll_ok {m : Int} (h : P_roll m) (c : Int) : Φ_roll m (c % m) := ⟨Int.emod_nonneg _ (by have := h.1; omega), Int.emod_lt_of_pos _ (by have := h.1; omega)⟩
theorem ok_roll (F : Def K mg "_law_roll" s_roll ["_law_dice", "_law_many"]) (c1 : Cal P w K mg base "_law_drawn" 1 2 R_drawn) : CalD P w K mg base "_law_roll" 2 Φ_roll P_roll := by
  refine F.calD sc_roll rfl fun f cdv A outer s H p c k m Q E hr hp hm hQ => ?_
  refine g_if (dt_ge (de_ixL (d := .int c) (m := false) (de_own 0 0) de_int rfl) (de_pow de_int de_int ⟨by decide, by decide, by decide⟩)) (fun _ => ?_) fun _ => ?_
  · refine g_set 2 (de_mod (de_ixL (d := .int c) (m := false) (de_own 0 0) de_int rfl) (de_v 1) (by have := hm.1; omega)) ?_ sc_roll.nd
    refine g_item (ds := [.int c, .int k]) (j := 0) 0 0 (de_div (de_ixL (d := .int c) (m := false) (de_own 0 0) de_int rfl) (de_v 1) ⟨by have := hm.1; omega, hm.2⟩) de_int ?_ rfl (by simp)
    exact g_retD1 (N := N_roll) (c := c / m) (k := k) hQ rfl (de_v 2) (roll_ok hm c)
  · refine g_to ?_
    refine g_item (ds := [.int c, .int k]) (j := 1) 0 0 (de_add (de_ixL (d := .int k) (m := false) (de_own 0 0) de_int rfl) de_int) de_int ?_ rfl (by simp)
    exact g_retD1 (N := N_roll) (c := c) (k := k + 1) hQ rfl (de_mod (de_div (de_call c1 hr (by decide) (da_cons (de_sc (de_ixL (d := .int c) (m := false) (de_own 0 0) de_int rfl)) (da_cons (de_sc (de_ixL (d := .int (k + 1)) (m := false) (de_own 0 0) de_int rfl)) da_nil)) rfl ⟨c, k + 1, rfl, rfl⟩) de_int ⟨by decide, by decide⟩) (de_v 1) (by have := hm.1; omega)) (roll_ok hm _)
/-! rounds -/
theorem sc_rounds : FnScope N_rounds ["_law_script", "_law_most"] (defScope s_rounds) := ⟨rfl, rfl, rfl, by decide +kernel, rfl, by decide +kernel, by decide +kernel⟩
def diceD (c : Int) : PyData := .list [.int c, .int 0]
def R_rounds (cs : List Int) (n : Int) (o : PyData) : Prop := cs.length ≤ 63 ∧ 1 ≤ n ∧ n ≤ 60 ∧ o = .list (((List.range (max 1 (min n cs.length)).toNat).map (cellI cs)).map diceD)
def cellV (cs : List Int) : PyData → PyData
  | .int i => diceD (cellI cs i.toNat)
  | d => d
theorem ok_rounds (M : Mb mg) (F : Def K mg "_law_rounds" s_rounds ["_law_script", "_law_most"]) (c1 : CalS P w K mg base "_law_cell" 1 R_cell) : CalS P w K mg base "_law_rounds" 2 R_rounds := by
  refine F.calS sc_rounds rfl fun f cdv A outer s H a cs n o Q E hr hp hS hR hQ => ?_
  obtain ⟨hc, hn1, hn2, rfl⟩ := hR
  refine g_retN (de_eq (de_lc (g := gName 2) [("_law_k", 2)] (fun _ => true) (cellV cs) rfl sc_rounds.nd (di_range M.range (de_max2 M.max rfl de_int (de_min2 M.min rfl (de_v 1) (de_lenS M.len hS (ds_v 0)))) (by omega)) (by rw [List.length_map, List.length_range]; exact Nat.lt_of_le_of_lt (by omega : _ ≤ 64) (by decide)) (blkOk_by (N := N_rounds) (sc := defScope s_rounds) (by decide +kernel)) (fun _ _ _ _ _ => pg_name sc_rounds.nd rfl (Or.inl rfl)) (gb_name 2 (by decide)) fun d hd => ?_) ?_) hQ
  · obtain ⟨i, hi, rfl⟩ := List.mem_map.mp hd
    have hi := List.mem_range.mp hi
    refine ⟨_, rfl, fun _ _ _ _ _ _ => ⟨dts_nil, fun _ => ?_⟩⟩
    exact de_lst (da_cons (de_callS c1 hr (by decide) hS (ds_v 0) (de_v 2) ⟨i, by omega, by omega, rfl, rfl⟩) (da_cons de_int da_nil))
  · unfold compD
    rw [List.filter_eq_self.mpr (fun _ _ => rfl), List.map_map, List.map_map]
    congr 1
theorem nats_len (l : List Nat) : (l.map fun d => PyData.int (d : Nat)).length = l.length := List.length_map _
theorem nats_app (a b : List Nat) : ((a ++ b).map fun d => PyData.int (d : Nat)) = (a.map fun d => PyData.int (d : Nat)) ++ b.map fun d => PyData.int (d : Nat) := List.map_append
theorem nats_scal (a : List Nat) : (a.map fun d => PyData.int (d : Nat)).all scalD = true := by
  rw [List.all_map]
  exact List.all_eq_true.mpr fun _ _ => rfl
def kindS (n : Nat) : Str := if Mi.s n < n then "poor" else if n < Mi.s n then "rich" else "even-handed"
theorem sh_kind (n : Nat) : Sh 0 (.str (kindS n)) := .str (by
  unfold kindS
  split
  · decide +kernel
  · split <;> decide +kernel)
theorem eqv_str (a b : Str) : PyData.eqv (.str a) (.str b) = (a == b) := by simp only [PyData.eqv]
theorem eqv_bl (a b : Bool) : PyData.eqv (.bool a) (.bool b) = (a == b) := by simp only [PyData.eqv]
/-- two numbers: InvalidNumber, or f -/
def R_num2 (C : Addr) (fn : Nat → Nat → PyData) (ds : List PyData) (o : Out) : Prop := ∃ d e, (∀ x, d ≠ .dict x) ∧ (∀ x, e ≠ .dict x) ∧ ds = [d, e] ∧ (((isWhole 1 20000 d = false ∨ isWhole 1 20000 e = false) ∧ o = .exc C) ∨ ∃ a b : Nat, 1 ≤ a ∧ a ≤ 20000 ∧ 1 ≤ b ∧ b ≤ 20000 ∧ d = .int a ∧ e = .int b ∧ o = .ret (fn a b))
theorem R_num2_ok {C : Addr} {fn : Nat → Nat → PyData} {a b : Nat} (h1 : 1 ≤ a) (h2 : a ≤ 20000) (h3 : 1 ≤ b) (h4 : b ≤ 20000) : R_num2 C fn [.int a, .int b] (.ret (fn a b)) := ⟨_, _, (fun x h => by cases h), (fun x h => by cases h), rfl, .inr ⟨a, b, h1, h2, h3, h4, rfl, rfl, rfl⟩⟩
theorem sc_need_both : FnScope ["number", "goal"] ["number", "goal"] (defScope s_need_both) := ⟨rfl, rfl, rfl, by decide +kernel, rfl, by decide +kernel, by decide +kernel⟩
def R_need_both (C C1 : Addr) (ds : List PyData) (o : Out) : Prop := ∃ d e, (∀ x, d ≠ .dict x) ∧ (∀ x, e ≠ .dict x) ∧ ds = [d, e] ∧ ((isWhole 1 20000 d = false ∧ o = .exc C) ∨ (isWhole 1 20000 d = true ∧ isWhole 0 20000 e = false ∧ o = .exc C1) ∨ (isWhole 1 20000 d = true ∧ isWhole 0 20000 e = true ∧ o = .ret .none))
theorem ok_need_both {C C1 : Addr} (M : Mg K mg) (XC : Exc K mg "InvalidGoal" C1) (F : Def K mg "need_both" s_need_both ["number", "goal"]) (c0 : Cal P w K mg base "is_whole" 1 3 R_is_whole) (c1 : Cal P w K mg base "need_number" 3 1 (R_need_number C)) : Cal P w K mg base "need_both" 4 2 (R_need_both C C1) := by
  refine F.cal sc_need_both rfl fun f cdv A outer s H P1 ds o Q E hr hx tk hp hR hQ => ?_
  obtain ⟨d, e, nd, ne, rfl, hcase⟩ := hR
  refine g_need c1 hr (by decide) hx (de_v 0) nd (fun hb => ?_) fun hw1 => ?_
  · rcases hcase with ⟨_, rfl⟩ | ⟨h, _⟩ | ⟨h, _⟩
    · exact hQ
    · rw [hb] at h; cases h
    · rw [hb] at h; cases h
  refine g_if (dt_not (dt_val (m := true) (de_call c0 hr (by decide) (da_cons (de_v 1) (da_cons de_int (da_cons (de_globI M.bound) da_nil))) rfl ⟨e, 0, 20000, ne, rfl, rfl⟩))) (fun h => ?_) fun h => ?_
  · have h' : isWhole 0 20000 e = false := by simpa using h
    rcases hcase with ⟨q, _⟩ | ⟨_, _, rfl⟩ | ⟨_, q, _⟩
    · rw [hw1] at q; cases q
    · exact g_raise rfl tk XC.xC XC.gC XC.kC XC.b XC.t fun σ P H g => hQ P H g
    · rw [h'] at q; cases q
  · have h' : isWhole 0 20000 e = true := by simpa using h
    rcases hcase with ⟨q, _⟩ | ⟨_, q, _⟩ | ⟨_, _, rfl⟩
    · rw [hw1] at q; cases q
    · rw [h'] at q; cases q
    · exact g_to (g_nil fun σ P H S => hQ _ P H S.gr .non)
/-- a number and a goal: an exception, or f -/
def R_goal (C C1 : Addr) (fn : Nat → Nat → PyData) (ds : List PyData) (o : Out) : Prop := ∃ d e, (∀ x, d ≠ .dict x) ∧ (∀ x, e ≠ .dict x) ∧ ds = [d, e] ∧ ((isWhole 1 20000 d = false ∧ o = .exc C) ∨ (isWhole 1 20000 d = true ∧ isWhole 0 20000 e = false ∧ o = .exc C1) ∨ ∃ n g : Nat, 1 ≤ n ∧ n ≤ 20000 ∧ g ≤ 20000 ∧ d = .int n ∧ e = .int g ∧ o = .ret (fn n g))
theorem whole_goal {g : Nat} (h2 : g ≤ 20000) : isWhole 0 20000 (.int g) = true := by
  show decide _ = true
  exact decide_eq_true ⟨by omega, by omega⟩
theorem R_goal_ok {C C1 : Addr} {fn : Nat → Nat → PyData} {n g : Nat} (h1 : 1 ≤ n) (h2 : n ≤ 20000) (h3 : g ≤ 20000) : R_goal C C1 fn [.int n, .int g] (.ret (fn n g)) := ⟨_, _, (fun x h => by cases h), (fun x h => by cases h), rfl, .inr (.inr ⟨n, g, h1, h2, h3, rfl, rfl, rfl⟩)⟩
theorem R_goal_bad {C C1 : Addr} {fn : Nat → Nat → PyData} {n : Nat} {e : PyData} (h1 : 1 ≤ n) (h2 : n ≤ 20000) (ne : ∀ x, e ≠ .dict x) (h3 : isWhole 0 20000 e = false) : R_goal C C1 fn [.int n, e] (.exc C1) := ⟨_, _, (fun x h => by cases h), ne, rfl, .inr (.inl ⟨whole_nat h1 h2, h3, rfl⟩)⟩
/-- need_both(number, goal) ahead of the rest -/
theorem g_both {X : Cx} {B P0 H0 : Hp} {W : List (Addr × Ob)} {ρ : List Sl} {rest : List Stmt} {D : Ends} {C C1 : Addr} {j : Nat} {ds : List PyData} {o : Out} {a b : Expr} {p1 p2 pos : Pos} {Q : VK} {E : XK} {fn : Nat → Nat → PyData} (c1 : Cal X.prog X.w X.K X.mg X.base "need_both" 4 2 (R_need_both C C1)) (hr : Room j X.A) (hk : 4 ≤ j) (hp : Passes (L2N.CX X.prog X.w) X E) (hR : R_goal C C1 fn ds o) (hQ : QE P0 H0 Q E o)
    (ha : DA X B P0 H0 W ρ true [a, b] ds)
    (h2 : ∀ n g : Nat, 1 ≤ n → n ≤ 20000 → g ≤ 20000 → ds = [.int n, .int g] → (∀ v P' H', Gr P0 H0 P' H' → Dq P' v (fn n g) → Q v H') → G X B P0 H0 W ρ rest D) (hg : Gl X "need_both" := by rfl)
    (he : starEach [a, b] X.env = (false, eval a X.env) :: starEach [b] X.env := by rfl) (hpl : (backTo p2 (starEach [b] X.env)).any (·.1) = false := by rfl) (hs : swapsWith (.Call (.Name "need_both" p1) [a, b] [] p2) none pos.line X.env = pure false := by rfl) :
    G X B P0 H0 W ρ (.Expr (.Call (.Name "need_both" p1) [a, b] [] p2) pos :: rest) D := by
  obtain ⟨d, e, nd, ne, rfl, ⟨q1, rfl⟩ | ⟨q1, q2, rfl⟩ | ⟨n, g, a1, a2, a3, rfl, rfl, rfl⟩⟩ := hR
  · exact g_callX (Cx := C) c1 hr hk hp ha rfl ⟨d, e, nd, ne, rfl, .inl ⟨q1, rfl⟩⟩ hQ hg (by decide) he hpl hs
  · exact g_callX (Cx := C1) c1 hr hk hp ha rfl ⟨d, e, nd, ne, rfl, .inr (.inl ⟨q1, q2, rfl⟩)⟩ hQ hg (by decide) he hpl hs
  · exact g_expr (de_call (d := .none) c1 hr hk ha rfl ⟨_, _, nd, ne, rfl, .inr (.inr ⟨whole_nat a1 a2, whole_goal a3, rfl⟩)⟩ hg (by decide) he hpl) (h2 n g a1 a2 a3 rfl hQ) hs
theorem sc_need_limit : FnScope ["limit", "most"] ["limit", "most"] (defScope s_need_limit) := ⟨rfl, rfl, rfl, by decide +kernel, rfl, by decide +kernel, by decide +kernel⟩
def R_need_limit (C : Addr) (ds : List PyData) (o : Out) : Prop := ∃ d, ∃ m : Int, (∀ x, d ≠ .dict x) ∧ ds = [d, .int m] ∧ o = if isWhole 1 m d = true then .ret .none else .exc C
theorem ok_need_limit {C : Addr} (XC : Exc K mg "InvalidLimit" C) (F : Def K mg "need_limit" s_need_limit ["limit", "most"]) (c0 : Cal P w K mg base "is_whole" 1 3 R_is_whole) : Cal P w K mg base "need_limit" 2 2 (R_need_limit C) := by
  refine F.cal sc_need_limit rfl fun f cdv A outer s H P1 ds o Q E hr hx tk hp hR hQ => ?_
  obtain ⟨d, m, nd, rfl, rfl⟩ := hR
  refine g_if (dt_not (dt_val (m := true) (de_call c0 hr (by decide) (da_cons (de_v 0) (da_cons de_int (da_cons (de_v 1) da_nil))) rfl ⟨d, 1, m, nd, rfl, rfl⟩))) (fun h => ?_) fun h => ?_
  · have h' : isWhole 1 m d = false := by simpa using h
    rw [h'] at hQ
    exact g_raise rfl tk XC.xC XC.gC XC.kC XC.b XC.t fun σ P H g => hQ P H g
  · have h' : isWhole 1 m d = true := by simpa using h
    rw [h'] at hQ
    exact g_to (g_nil fun σ P H S => hQ _ P H S.gr .non)
/-- what a def with one limit gives: InvalidLimit, or f -/
def R_lim (C : Addr) (m : Nat) (fn : Nat → PyData) (ds : List PyData) (o : Out) : Prop := ∃ d, (∀ x, d ≠ .dict x) ∧ ds = [d] ∧ ((isWhole 1 m d = false ∧ o = .exc C) ∨ ∃ n : Nat, 1 ≤ n ∧ n ≤ m ∧ d = .int n ∧ o = .ret (fn n))
theorem whole_lim {m n : Nat} (h1 : 1 ≤ n) (h2 : n ≤ m) : isWhole 1 m (.int n) = true := by
  show decide _ = true
  exact decide_eq_true ⟨by omega, by omega⟩
theorem R_lim_ok {C : Addr} {m : Nat} {fn : Nat → PyData} {n : Nat} (h1 : 1 ≤ n) (h2 : n ≤ m) : R_lim C m fn [.int n] (.ret (fn n)) := ⟨_, (fun x h => by cases h), rfl, .inr ⟨n, h1, h2, rfl, rfl⟩⟩
theorem R_lim_bad {C : Addr} {m : Nat} {fn : Nat → PyData} {d : PyData} (nd : ∀ x, d ≠ .dict x) (h : isWhole 1 m d = false) : R_lim C m fn [d] (.exc C) := ⟨d, nd, rfl, .inl ⟨h, rfl⟩⟩
/-- need_limit(limit, m) ahead of the rest -/
theorem g_limit {X : Cx} {B P0 H0 : Hp} {W : List (Addr × Ob)} {ρ : List Sl} {rest : List Stmt} {D : Ends} {C : Addr} {j m : Nat} {d : PyData} {o : Out} {a b : Expr} {p1 p2 pos : Pos} {Q : VK} {E : XK} {fn : Nat → PyData} (c1 : Cal X.prog X.w X.K X.mg X.base "need_limit" 2 2 (R_need_limit C)) (hr : Room j X.A) (hk : 2 ≤ j) (hp : Passes (L2N.CX X.prog X.w) X E) (hR : R_lim C m fn [d] o) (hQ : QE P0 H0 Q E o)
    (ha : DE X B P0 H0 W ρ true a d) (hb : DE X B P0 H0 W ρ true b (.int (m : Nat)))
    (h2 : ∀ n : Nat, 1 ≤ n → n ≤ m → d = .int n → (∀ v P' H', Gr P0 H0 P' H' → Dq P' v (fn n) → Q v H') → G X B P0 H0 W ρ rest D) (hg : Gl X "need_limit" := by rfl)
    (he1 : starEach [a, b] X.env = (false, eval a X.env) :: starEach [b] X.env := by rfl) (he2 : starEach [b] X.env = (false, eval b X.env) :: starEach [] X.env := by rfl) (hpl : (backTo p2 (starEach [b] X.env)).any (·.1) = false := by rfl) (hs : swapsWith (.Call (.Name "need_limit" p1) [a, b] [] p2) none pos.line X.env = pure false := by rfl) :
    G X B P0 H0 W ρ (.Expr (.Call (.Name "need_limit" p1) [a, b] [] p2) pos :: rest) D := by
  obtain ⟨d', nd, e, ⟨q1, rfl⟩ | ⟨n, a1, a2, rfl, rfl⟩⟩ := hR
  · cases e
    exact g_callX (Cx := C) c1 hr hk hp (da_cons ha (da_cons hb da_nil he2) he1) rfl ⟨d, m, nd, rfl, by rw [q1]; rfl⟩ hQ hg (by decide) he1 hpl hs
  · cases e
    exact g_expr (de_call (d := .none) c1 hr hk (da_cons ha (da_cons hb da_nil he2) he1) rfl ⟨_, m, nd, rfl, by rw [whole_lim a1 a2]; rfl⟩ hg (by decide) he1 hpl) (h2 n a1 a2 rfl hQ) hs
abbrev N_written : List Str := ["number", "words", "prime", "many"]
theorem sc_written : FnScope N_written ["number"] (defScope s_written) := ⟨rfl, rfl, rfl, by decide +kernel, rfl, by decide +kernel, by decide +kernel⟩
def R_written (ds : List PyData) (o : Out) : Prop := ∃ n : Nat, 1 ≤ n ∧ n ≤ 20000 ∧ ds = [.int n] ∧ o = .ret (.str (writtenS n))
def wordV : PyData → PyData
  | .tuple [.int p, .int k] => .str (wordS (p.toNat, k.toNat))
  | _ => .none
theorem words_comp (l : List (Nat × Nat)) : compD (l.map pairD) (fun _ => true) wordV = (l.map wordS).map .str := by
  unfold compD
  rw [List.filter_eq_self.mpr (fun _ _ => rfl), List.map_map, List.map_map]
  rfl
theorem strOk_of {s : Str} (h : ∀ c ∈ TL.tl s, c < 256) : PyData.strOk s = true := by
  unfold PyData.strOk
  rw [Array.all_eq_true]
  intro i hi
  have hm : s.cps[i] ∈ TL.tl s := by
    rw [← Array.getElem_toList]
    exact List.getElem_mem _
  exact decide_eq_true (Nat.lt_trans (h _ hm) (by decide))
theorem okC_lt {c : Nat} (h : OkC c) : c < 128 := by unfold OkC at h; omega
theorem sh_words (l : List (Nat × Nat)) : Sh 1 (.list ((l.map wordS).map .str)) := .lst fun d hd => by
  obtain ⟨s, hs, rfl⟩ := List.mem_map.mp hd
  obtain ⟨q, _, rfl⟩ := List.mem_map.mp hs
  exact .str (strOk_of fun c hc => by have := word_okC c hc; omega)
theorem sh_nilL : Sh 1 (.list []) := .lst fun d hd => by cases hd
theorem words_sum {l : List (Nat × Nat)} (h : ∀ q ∈ l, q.1 < 100000 ∧ 1 ≤ q.2 ∧ q.2 ≤ 14) : ((l.map wordS).map (·.length)).sum ≤ 8 * l.length := by
  induction l with
  | nil => exact Nat.le_refl _
  | cons q l ih =>
    have h1 := word_len (h q (by simp))
    have h2 := ih fun x hx => h x (List.mem_cons_of_mem _ hx)
    have h3 : (wordS q).length ≤ 8 := by rw [TL.len_tl]; exact h1
    simp only [List.map_cons, List.sum_cons, List.length_cons]
    omega
theorem numS_len {p : Nat} (h : p < 100000) : (numS p).length ≤ 5 := by rw [TL.len_tl, tl_numS]; exact TL.numL_len (by decide) h
/-- the list of words, joined -/
theorem de_written {X : Cx} {B P0 H0 : Hp} {W : List (Addr × Ob)} {ρ : List Sl} {m : Bool} {n : Nat} {a b : Expr} {p1 p2 p3 p4 p5 apos cpos : Pos} {j1 j2 : Nat} (hu : X.A.units + 64 < cLine) (h1 : 1 ≤ n) (h2 : n ≤ 20000) (ha : DE X B P0 H0 W ρ false a (.list (((fac n).map wordS).map .str))) (hb : DE X B P0 H0 W ρ false b (.list (((fac n).map wordS).map .str)))
    (hbase : attributeBase (.Constant (.str "*") j1 p1) "join" X.env (eval (.Constant (.str "*") j1 p1) X.env) = eval (.Constant (.str "*") j1 p1) X.env := by rfl)
    (hfew : ((backTo cpos (starEach [a] X.env)).all (fun x => !x.1) && (backToKw cpos (keywordEach [] X.env)).all (fun x => x.1.isSome)
      && decide ([a].length + ([] : List Keyword).length + (if ([] : List Keyword).isEmpty then 0 else 1) < 30)) = true := by rfl)
    (hline : (apos.endLine == cpos.line) = true := by rfl) (hs : starEach [a] X.env = (false, eval a X.env) :: starEach [] X.env := by rfl) (hplain : (backTo cpos (starEach [] X.env)).any (·.1) = false := by rfl) :
    DE X B P0 H0 W ρ m (.IfExp (.Compare b [.NotEq] [.List [] p2] p3) (.Call (.Attribute (.Constant (.str "*") j1 p1) "join" apos) [a] [] cpos) (.Constant (.str "1") j2 p4) p5) (.str (writtenS n)) := by
  refine de_if (dt_neD hu hb (de_lst da_nil) (sh_words _).ok sh_nilL.ok) (fun hk => ?_) fun hk => ?_
  · have hne : ¬ (fac n).map wordS = [] := fun z => by
      rw [z] at hk
      have : (!PyData.eqv (.list (([] : List Str).map .str)) (.list [])) = true := hk
      exact absurd this (by decide)
    have e : writtenS n = Txt.join "*" ((fac n).map wordS) := by unfold writtenS; rw [if_neg hne]
    rw [e]
    refine de_join de_str ha ?_ hbase hfew hline hs hplain
    have a1 := words_sum (fac_small h1 h2)
    have a2 := fac_len h1 h2
    have a3 : ("*" : Str).length = 1 := by decide +kernel
    rw [a3, List.length_map]
    omega
  · have he : (fac n).map wordS = [] := by
      cases hc : (fac n).map wordS with
      | nil => rfl
      | cons s l =>
        rw [hc] at hk
        have : (!PyData.eqv (.list (((s :: l)).map .str)) (.list [])) = false := hk
        exact absurd this (by simp [PyData.eqv, PyData.eqvAll])
    have e : writtenS n = "1" := by unfold writtenS; rw [if_pos he]
    rw [e]
    exact de_str
theorem de_word {X : Cx} {B P0 H0 : Hp} {W : List (Addr × Ob)} {ρ : List Sl} {m : Bool} {p k : Nat} {a b c : Expr} {p1 p2 p3 p4 p5 p6 p7 p8 p9 q1 : Pos} {j1 j2 : Nat} (hstr : X.mg "str" = none) (h1 : p < 100000) (h2 : k ≤ 20) (ha : DE X B P0 H0 W ρ false a (.int (p : Nat))) (hb : DE X B P0 H0 W ρ false b (.int (k : Nat))) (hc : DE X B P0 H0 W ρ false c (.int (k : Nat)))
    (hg : Gl X "str" := by rfl) (he1 : starEach [a] X.env = (false, eval a X.env) :: starEach [] X.env := by rfl) (he2 : starEach [b] X.env = (false, eval b X.env) :: starEach [] X.env := by rfl) (hpl1 : (backTo p2 (starEach [] X.env)).any (·.1) = false := by rfl) (hpl2 : (backTo p6 (starEach [] X.env)).any (·.1) = false := by rfl) (kk : Nat) (jj : Nat) (hcmp : True := trivial) {q2 : Pos} {j3 : Nat} :
    DE X B P0 H0 W ρ m (.BinOp (.Call (.Name "str" p1) [a] [] p2) .Add (.IfExp (.Compare c [.Gt] [.Constant (.int 1) j3 q2] p3) (.BinOp (.Constant (.str "^") j1 p4) .Add (.Call (.Name "str" p5) [b] [] p6) p7) (.Constant (.str "") j2 p8) p9) q1) (.str (wordS (p, k))) := by
  have hz : 20003 < sizeLine := by decide
  have l1 := numS_len h1
  have l2 : (numS k).length ≤ 5 := numS_len (by omega)
  have l3 : ("^" : Str).length = 1 := by decide +kernel
  have l4 : ("" : Str).length = 0 := by decide +kernel
  have l5 : (("^" : Str) ++ numS k).length = ("^" : Str).length + (numS k).length := by rw [TL.len_tl, TL.tl_append, List.length_append, ← TL.len_tl, ← TL.len_tl]
  have e : wordS (p, k) = numS p ++ (if decide ((k : Int) > 1) = true then ("^" : Str) ++ numS k else "") := by
    unfold wordS
    congr 1
    by_cases h : 1 < k
    · rw [decide_eq_true (by omega : (k : Int) > 1)]
      show (if 1 < k then _ else _) = _
      rw [if_pos h, if_pos rfl]
    · rw [decide_eq_false (by omega : ¬ (k : Int) > 1)]
      show (if 1 < k then _ else _) = _
      rw [if_neg h, if_neg Bool.false_ne_true]
  rw [e]
  refine de_addS (de_strI (by omega) hstr ha hg he1 hpl1) (de_if (dt_gt hc de_int) (fun h => ?_) fun h => ?_) ?_
  · rw [if_pos h]
    exact de_addS de_str (de_strI (by omega) hstr hb hg he2 hpl2) (by omega)
  · rw [h, if_neg Bool.false_ne_true]
    exact de_str
  · split
    · omega
    · omega
theorem ok_written (hstr : mg "str" = none) (F : Def K mg "written" s_written ["number"]) (c1 : Cal P w K mg base "factors_of" 1 1 R_factors_of) : Cal P w K mg base "written" 2 1 R_written := by
  refine F.cal sc_written rfl fun f cdv A outer s H P1 ds o Q E hr hx tk hp hR hQ => ?_
  obtain ⟨n, h1, h2, rfl, rfl⟩ := hR
  have nd := sc_written.nd
  have hu := hr.units
  have hz : 20003 < sizeLine := by decide
  refine g_setLc 1 [("prime", 2), ("many", 3)] (fun _ => true) wordV rfl nd (di_list (de_call c1 hr (by decide) (da_cons (de_v 0) da_nil) rfl ⟨n, h1, h2, rfl, rfl⟩)) ?_ (blkOk_by (N := N_written) (sc := defScope s_written) (by decide +kernel)) (fun _ _ _ _ _ => pg_tup rfl (pgs_cons (pg_name nd rfl (Or.inl rfl)) (pgs_cons (pg_name nd rfl (Or.inl rfl)) pgs_nil))) (gb_pair K 2 3 (by decide) (by decide)) (fun d hd => ?_) ?_
  · have := fac_len h1 h2
    rw [List.length_map]; omega
  · obtain ⟨q, hq, rfl⟩ := List.mem_map.mp hd
    obtain ⟨a1, a2, a3⟩ := fac_small h1 h2 q hq
    obtain ⟨p, k⟩ := q
    refine ⟨_, ⟨_, _, rfl, rfl⟩, fun _ _ _ _ _ _ => ⟨dts_nil, fun _ => ?_⟩⟩
    show DE _ _ _ _ _ _ true _ (.str (wordS ((p : Int).toNat, (k : Int).toNat)))
    rw [Int.toNat_natCast, Int.toNat_natCast]
    exact de_word (kk := 0) (jj := 0) hstr a1 (by show k ≤ 20; have : k ≤ 14 := a3; omega) (de_v 2) (de_v 3) (de_v 3)
  rw [words_comp]
  exact g_ret (de_written hu h1 h2 (de_v 1) (de_v 1)) hQ
abbrev N_integer_of : List Str := ["word", "sign"]
theorem sc_integer_of : FnScope N_integer_of ["word"] (defScope s_integer_of) := ⟨rfl, rfl, rfl, by decide +kernel, rfl, by decide +kernel, by decide +kernel⟩
def outO (C : Addr) (f : Nat → PyData) : Option Nat → Out
  | some n => .ret (f n)
  | none => .exc C
def R_integer_of (C : Addr) (ds : List PyData) (o : Out) : Prop := ∃ t : Str, t.length ≤ 1000 ∧ ds = [.str t] ∧ o = outO C (fun n => .int (n : Nat)) (intW t)
def digV : PyData → PyData
  | .str s => .bool ((TL.tl s).all fun c => decide (c ∈ TL.tl "0123456789"))
  | _ => .none
theorem digs_comp (t : Str) : compD (signsD t) (fun _ => true) digV = ((TL.tl t).map fun c => decide (c ∈ TL.tl "0123456789")).map .bool := by
  unfold compD signsD
  rw [List.filter_eq_self.mpr (fun _ _ => rfl), List.map_map, List.map_map]
  refine List.map_congr_left fun c _ => ?_
  show PyData.bool ((TL.tl ⟨#[c]⟩).all _) = _
  simp [TL.tl]
theorem ok_integer_of {C : Addr} (hlen : mg "len" = none) (hall : mg "all" = none) (hint : mg "int" = none) (XC : Exc K mg "InvalidText" C) (F : Def K mg "integer_of" s_integer_of ["word"]) : Cal P w K mg base "integer_of" 1 1 (R_integer_of C) := by
  refine F.cal sc_integer_of rfl fun f cdv A outer s H P1 ds o Q E hr hx tk hp hR hQ => ?_
  obtain ⟨t, ht, rfl, rfl⟩ := hR
  have nd := sc_integer_of.nd
  have hz : 20003 < sizeLine := by decide
  refine g_if (k := !(decide (1 ≤ t.length ∧ t.length ≤ 5) && digS t)) (dt_eq (dt_w (dw_or (dt_not (dt_chain op_le op_le de_int (de_lenStr hlen (de_v 0) (by omega)) de_int)) fun _ => dw_or1 (dt_not (dt_val (m := false) (de_all (bs := (TL.tl t).map fun c => decide (c ∈ TL.tl "0123456789")) hall rfl (de_eq (de_lc (m := false) (g := gName 1) [("sign", 1)] (fun _ => true) digV rfl nd (di_str (de_v 0)) ?_ (blkOk_by (N := N_integer_of) (sc := defScope s_integer_of) (by decide +kernel)) (fun _ _ _ _ _ => pg_name nd rfl (Or.inl rfl)) (gb_name 1 (by decide)) fun d hd => ?_) (congrArg PyData.list (digs_comp t)))))))) ?_) (fun hk => ?_) fun hk => g_to ?_
  · unfold signsD
    rw [List.length_map, ← TL.len_tl]; omega
  · unfold signsD at hd
    obtain ⟨c, _, rfl⟩ := List.mem_map.mp hd
    refine ⟨_, rfl, fun _ _ _ _ _ _ => ⟨dts_nil, fun _ => de_eq (de_inSign (c := c) (de_v 1) de_str) ?_⟩⟩
    show _ = PyData.bool ((TL.tl ⟨#[c]⟩).all _)
    simp [TL.tl]
  · have e1 : ((TL.tl t).map fun c => decide (c ∈ TL.tl "0123456789")).all id = digS t := by
      unfold digS
      rw [List.all_map]; rfl
    rw [e1, Bool.decide_and]
    have e2 : decide ((1 : Int) ≤ (t.length : Nat)) = decide (1 ≤ t.length) := decide_eq_decide.mpr (by omega)
    have e3 : decide (((t.length : Nat) : Int) ≤ 5) = decide (t.length ≤ 5) := decide_eq_decide.mpr (by omega)
    rw [e2, e3]
    cases decide (1 ≤ t.length) <;> cases decide (t.length ≤ 5) <;> cases digS t <;> rfl
  · have e : intW t = none := by
      unfold intW
      refine if_neg fun q => ?_
      rw [decide_eq_true (show 1 ≤ t.length ∧ t.length ≤ 5 from ⟨q.1, q.2.1⟩), q.2.2] at hk
      cases hk
    rw [e] at hQ
    exact g_raise rfl tk XC.xC XC.gC XC.kC XC.b XC.t fun σ P H g => hQ P H g
  · have hk2 : (decide (1 ≤ t.length ∧ t.length ≤ 5) && digS t) = true := by simpa using hk
    rw [Bool.and_eq_true] at hk2
    have b1 := of_decide_eq_true hk2.1
    have e : intW t = some (NumText.digitsVal (TL.tl t)) := by
      unfold intW
      exact if_pos ⟨b1.1, b1.2, hk2.2⟩
    rw [e] at hQ
    refine g_ret (de_intS hint (de_v 0) (intText_digits (digS_iff.mp hk2.2) (fun z => ?_) (by omega)) (by omega)) hQ
    have h0 : (TL.tl t).length = 0 := by
      show t.cps.toList.length = 0
      rw [z]; rfl
    rw [TL.len_tl] at b1
    omega
abbrev N_power_of : List Str := ["word", "ends", "base", "many", "found", "turn"]
theorem sc_power_of : FnScope N_power_of ["word"] (defScope s_power_of) := ⟨rfl, rfl, rfl, by decide +kernel, rfl, by decide +kernel, by decide +kernel⟩
def R_power_of (C : Addr) (ds : List PyData) (o : Out) : Prop := ∃ t : Str, t.length ≤ 998 ∧ ds = [.str t] ∧ o = outO C (fun n => .int (n : Nat)) (powW t)
theorem spl_len (S : List Nat) : ∀ (l : List Nat) (k : Nat) (acc : List Nat), ∀ p ∈ TL.spl S k acc l, p.length ≤ acc.length + l.length
  | [], k, acc, p, h => by
    rw [TL.spl_nil] at h
    rw [List.mem_singleton.mp h]; exact Nat.le_add_right _ _
  | c :: r, 0, acc, p, h => by
    cases e : TL.pre S (c :: r) with
    | true =>
      rw [TL.spl_hit e] at h
      rcases List.mem_cons.mp h with q | q
      · rw [q]; exact Nat.le_add_right _ _
      · have := spl_len S r _ _ p q
        rw [List.length_cons]
        have h0 : ([] : List Nat).length = 0 := rfl
        omega
    | false =>
      rw [TL.spl_miss e] at h
      have := spl_len S r _ _ p h
      rw [List.length_append] at this
      rw [List.length_cons]
      have h1 : [c].length = 1 := rfl
      omega
  | c :: r, k + 1, acc, p, h => by
    have h : p ∈ TL.spl S k acc r := h
    have := spl_len S r _ _ p h
    rw [List.length_cons]; omega
theorem spl_ne (S : List Nat) : ∀ (l : List Nat) (k : Nat) (acc : List Nat), TL.spl S k acc l ≠ []
  | [], k, acc => by rw [TL.spl_nil]; simp
  | c :: r, 0, acc => by
    cases e : TL.pre S (c :: r) with
    | true => rw [TL.spl_hit e]; simp
    | false => rw [TL.spl_miss e]; exact spl_ne S r _ _
  | c :: r, k + 1, acc => spl_ne S r k acc
theorem split_tl {t y : Str} (hy : TL.tl y ≠ []) (hk : y.cps.all (· < 256) = true) : (Txt.split t y).map TL.tl = TL.spl (TL.tl y) 0 [] (TL.tl t) := TL.split_spl t y hy (TL.kind_ok hk)
theorem split_short {t y : Str} (hy : TL.tl y ≠ []) (hk : y.cps.all (· < 256) = true) : ∀ s ∈ Txt.split t y, s.length ≤ t.length := fun s hs => by
  have h := spl_len (TL.tl y) (TL.tl t) 0 [] (TL.tl s) (by rw [← split_tl hy hk]; exact List.mem_map.mpr ⟨s, hs, rfl⟩)
  rw [TL.len_tl, TL.len_tl]
  simpa using h
theorem split_ne {t y : Str} (hy : TL.tl y ≠ []) (hk : y.cps.all (· < 256) = true) : Txt.split t y ≠ [] := fun z => by
  have h := split_tl (t := t) hy hk
  rw [z] at h
  exact spl_ne _ _ _ _ h.symm
theorem fold_lt : ∀ (l : List Nat) (a : Nat), NumText.AllDigits l → l.foldl (fun acc c => acc * 10 + (c - 48)) a + 1 ≤ (a + 1) * 10 ^ l.length
  | [], a, _ => by simp
  | c :: l, a, h => by
    have hc := h.head
    have ih := fold_lt l (a * 10 + (c - 48)) h.tail
    rw [List.foldl_cons, List.length_cons, Nat.pow_succ]
    refine Nat.le_trans ih ?_
    have h1 : a * 10 + (c - 48) + 1 ≤ (a + 1) * 10 := by omega
    have h2 := Nat.mul_le_mul_right (10 ^ l.length) h1
    rw [Nat.mul_assoc, Nat.mul_comm 10] at h2
    exact h2
theorem intW_lt {t : Str} {n : Nat} (h : intW t = some n) : n < 100000 := by
  unfold intW at h
  split at h
  · rename_i hc
    obtain ⟨_, c2, c3⟩ := hc
    have e := Option.some.inj h
    have h1 := fold_lt (TL.tl t) 0 (digS_iff.mp c3)
    have h2 : (TL.tl t).length ≤ 5 := by rw [← TL.len_tl]; exact c2
    have h3 : 10 ^ (TL.tl t).length ≤ 10 ^ 5 := Nat.pow_le_pow_right (by decide) h2
    have h4 : NumText.digitsVal (TL.tl t) = (TL.tl t).foldl (fun acc c => acc * 10 + (c - 48)) 0 := rfl
    rw [← e, h4]
    omega
  · cases h
theorem pow_lt {x k : Nat} (h1 : x < 100000) (h2 : k ≤ 14) : x ^ k < 2 ^ 240 := by
  have a1 : x ^ k ≤ 100000 ^ k := Nat.pow_le_pow_left (by omega) k
  have a2 : 100000 ^ k ≤ 100000 ^ 14 := Nat.pow_le_pow_right (by decide) h2
  have a3 : 100000 ^ 14 < 2 ^ 240 := by decide +kernel
  omega
theorem powW_lt {t : Str} {n : Nat} (h : powW t = some n) : n < 2 ^ 240 := by
  unfold powW powE at h
  split at h
  · have := intW_lt h
    have a3 : 100000 < 2 ^ 240 := by decide +kernel
    omega
  · split at h
    · rename_i x hx
      split at h
      · split at h
        · cases h
        · rename_i k hk hle
          rw [← Option.some.inj h]
          exact pow_lt (intW_lt hx) (by omega)
      · cases h
    · cases h
  · cases h
theorem cap_len : (("^" : Str).length == 0) = false := by decide +kernel
theorem star_len : (("*" : Str).length == 0) = false := by decide +kernel
theorem atI_strs {l : List Str} {j : Nat} {s : Str} (h : l[j]? = some s) : atI (l.map PyData.str) (j : Int) = some (.str s) := by
  unfold atI
  have hj := (List.getElem?_eq_some_iff.mp h).1
  rw [ixN_nat (by rw [List.length_map]; exact hj)]
  show (l.map PyData.str)[j]? = _
  rw [List.getElem?_map, h]; rfl
theorem ok_power_of {C : Addr} (hlen : mg "len" = none) (hrange : mg "range" = none) (XC : Exc K mg "InvalidText" C) (F : Def K mg "power_of" s_power_of ["word"]) (c1 : Cal P w K mg base "integer_of" 1 1 (R_integer_of C)) : Cal P w K mg base "power_of" 2 1 (R_power_of C) := by
  refine F.cal sc_power_of rfl fun f cdv A outer s H P1 ds o Q E hr hx tk hp hR hQ => ?_
  obtain ⟨t, ht, rfl, rfl⟩ := hR
  have nd := sc_power_of.nd
  have hz : 20003 < sizeLine := by decide
  have hy : TL.tl "^" ≠ [] := by rw [tl_cap]; simp
  refine g_set 1 (de_split (de_v 0) de_str cap_len (by omega)) ?_ nd
  have hsh := split_short (t := t) hy cap_ok
  have hne := split_ne (t := t) hy cap_ok
  unfold powW at hQ
  generalize Txt.split t "^" = L at *
  refine g_if (dt_gt (de_lenL hlen (de_v 1)) de_int) (fun hk => ?_) fun hk => g_to ?_
  · have hk := of_decide_eq_true hk
    rw [List.length_map] at hk
    have e : powE L = none := by
      match L, hk with
      | a :: b :: c :: l, _ => rfl
    rw [e] at hQ
    exact g_raise rfl tk XC.xC XC.gC XC.kC XC.b XC.t fun σ P H g => hQ P H g
  have hk := of_decide_eq_false hk
  rw [List.length_map] at hk
  obtain ⟨a, ha⟩ : ∃ a, L[0]? = some a := by
    cases L with
    | nil => exact (hne rfl).elim
    | cons a l => exact ⟨a, rfl⟩
  have hal := hsh a (List.mem_of_getElem? ha)
  have hat0 : atI (L.map PyData.str) 0 = some (.str a) := atI_strs (j := 0) ha
  cases hx0 : intW a with
  | none =>
    have e : powE L = none := by
      match L, hne, hk, ha with
      | [a'], _, _, ha =>
        have : a' = a := by simpa using ha
        subst this
        exact hx0
      | [a', b], _, _, ha =>
        have : a' = a := by simpa using ha
        subst this
        show (match intW a' with
          | some x => (match intW b with
            | some k => if 14 < k then none else some (x ^ k)
            | none => none)
          | none => none) = none
        rw [hx0]
      | _ :: _ :: _ :: _, _, hk, _ => simp at hk; omega
    rw [e] at hQ
    exact g_parX 2 3 (dax_hd (dx_call c1 hr (by decide) hx (da_cons (de_sc (de_ixL (d := .str a) (m := false) (de_v 1) de_int hat0)) da_nil) rfl ⟨a, by omega, rfl, by rw [hx0]; rfl⟩)) (fun P H g => hQ P H g) rfl nd
  | some x =>
    have hxl := intW_lt hx0
    have hcase : (∃ b, L[1]? = some b ∧ L.length = 2 ∧ intW b = none ∧ powE L = none) ∨ ∃ k, (L.length = 2 → ∃ b, L[1]? = some b ∧ intW b = some k) ∧ (L.length ≠ 2 → k = 1) ∧ powE L = if 14 < k then none else some (x ^ k) := by
      match L, hne, hk, ha with
      | [a'], _, _, ha =>
        have : a' = a := by simpa using ha
        subst this
        refine .inr ⟨1, (fun h => by simp at h), fun _ => rfl, ?_⟩
        show intW a' = _
        rw [hx0, if_neg (by decide), Nat.pow_one]
      | [a', b], _, _, ha =>
        have : a' = a := by simpa using ha
        subst this
        have eP : powE [a', b] = (match intW b with
            | some k => if 14 < k then none else some (x ^ k)
            | none => none) := by
          show (match intW a' with
            | some x => (match intW b with
              | some k => if 14 < k then none else some (x ^ k)
              | none => none)
            | none => none) = _
          rw [hx0]
        cases hb : intW b with
        | none => exact .inl ⟨b, rfl, rfl, hb, by rw [eP, hb]⟩
        | some k => exact .inr ⟨k, fun _ => ⟨b, rfl, hb⟩, (fun h => (h rfl).elim), by rw [eP, hb]⟩
      | _ :: _ :: _ :: _, _, hk, _ => simp at hk; omega
    rcases hcase with ⟨b, hb1, hb2, hb3, e⟩ | ⟨k, hk1, hk2, e⟩
    · rw [e] at hQ
      have hat1 : atI (L.map PyData.str) 1 = some (.str b) := atI_strs (j := 1) hb1
      have hbl := hsh b (List.mem_of_getElem? hb1)
      refine g_parX 2 3 (dax_tl (m := true) (d := .int (x : Nat)) (de_call c1 hr (by decide) (da_cons (de_sc (de_ixL (d := .str a) (m := false) (de_v 1) de_int hat0)) da_nil) rfl ⟨a, by omega, rfl, by rw [hx0]; rfl⟩) (dax_hd (dx_if1 (dt_eqI (de_lenL hlen (de_v 1)) de_int) ?_ (dx_call c1 hr (by decide) hx (da_cons (de_sc (de_ixL (d := .str b) (m := false) (de_v 1) de_int hat1)) da_nil) rfl ⟨b, by omega, rfl, by rw [hb3]; rfl⟩)))) (fun P H g => hQ P H g) rfl nd
      rw [List.length_map, hb2]
      rfl
    rw [e] at hQ
    refine g_par 2 3 (d1 := .int (x : Nat)) (d2 := .int (k : Nat)) (de_call c1 hr (by decide) (da_cons (de_sc (de_ixL (d := .str a) (m := false) (de_v 1) de_int hat0)) da_nil) rfl ⟨a, by omega, rfl, by rw [hx0]; rfl⟩) (de_if (dt_eqI (de_lenL hlen (de_v 1)) de_int) (fun h => ?_) fun h => ?_) ?_ rfl nd
    · have h := of_decide_eq_true h
      rw [List.length_map] at h
      obtain ⟨b, hb1, hb2⟩ := hk1 (by omega)
      have hat1 : atI (L.map PyData.str) 1 = some (.str b) := atI_strs (j := 1) hb1
      have hbl := hsh b (List.mem_of_getElem? hb1)
      exact de_call c1 hr (by decide) (da_cons (de_sc (de_ixL (d := .str b) (m := false) (de_v 1) de_int hat1)) da_nil) rfl ⟨b, by omega, rfl, by rw [hb2]; rfl⟩
    · have h := of_decide_eq_false h
      rw [List.length_map] at h
      rw [hk2 (by omega)]
      exact de_int
    refine g_if (dt_gt (de_v 3) de_int) (fun hk => ?_) fun hk => g_to ?_
    · have hk := of_decide_eq_true hk
      rw [if_pos (by omega)] at hQ
      exact g_raise rfl tk XC.xC XC.gC XC.kC XC.b XC.t fun σ P H g => hQ P H g
    have hk := of_decide_eq_false hk
    have hk14 : k ≤ 14 := by omega
    rw [if_neg (by omega)] at hQ
    refine g_set 4 de_int ?_ nd
    refine g_forI (α := Nat) (fun i t => t = i) (fun _ => []) (fun u => [.dat (.str t), .dat (.list (L.map .str)), .dat (.int (x : Nat)), .dat (.int (k : Nat)), .dat (.int ((x ^ u : Nat) : Int)), .no]) 0 hp rfl
      (di_range hrange (de_v 3) (by omega)) (gt_name 5 nd) rfl rfl ⟨.inr rfl, .inr rfl, .inr rfl, .inr rfl, .inr rfl, .inr rfl, trivial⟩ ?_ ?_
    · rintro B hB _ u d hd rfl
      refine ⟨_, rfl, ?_⟩
      refine g_set 4 (de_eq (de_mul (de_v 4) (de_v 2) (.inr (by omega))) (d1 := .int ((x ^ (u + 1) : Nat) : Int)) (by rw [Nat.pow_succ]; push_cast; rfl)) ?_ nd
      exact g_next (u + 1) rfl ⟨.inr rfl, .inr rfl, .inr rfl, .inr rfl, .inr rfl, .inl rfl, trivial⟩
    · rintro B hB u hu
      have eu : ((List.range (k : Int).toNat).map fun i => PyData.int (i : Nat)).length = k := by simp
      rw [eu] at hu
      subst hu
      exact g_ret (de_v 4) hQ
abbrev N_parse : List Str := ["text", "number", "word"]
theorem sc_parse : FnScope N_parse ["text"] (defScope s_parse_factors) := ⟨rfl, rfl, rfl, by decide +kernel, rfl, by decide +kernel, by decide +kernel⟩
def isStrD : PyData → Bool
  | .str _ => true
  | _ => false
def R_parse (C : Addr) (ds : List PyData) (o : Out) : Prop := ∃ d, (∀ x, d ≠ .dict x) ∧ ds = [d] ∧ ((isStrD d = false ∧ o = .exc C) ∨ ∃ t : Str, d = .str t ∧ PyData.strOk t = true ∧ t.length ≤ 1000 ∧ o = outO C (fun n => .int (n : Nat)) (parseS t))
theorem R_parse_bad {C : Addr} {d : PyData} (nd : ∀ x, d ≠ .dict x) (h : isStrD d = false) : R_parse C [d] (.exc C) := ⟨d, nd, rfl, .inl ⟨h, rfl⟩⟩
theorem R_parse_str {C : Addr} {t : Str} (h1 : PyData.strOk t = true) (h2 : t.length ≤ 1000) : R_parse C [.str t] (outO C (fun n => .int (n : Nat)) (parseS t)) := ⟨_, (fun x h => by cases h), rfl, .inr ⟨t, rfl, h1, h2, rfl⟩⟩
theorem foldW_lt : ∀ (l : List Str) (a n : Nat), foldW l a = some n → True := fun _ _ _ _ => trivial
theorem bb_str : bootBuiltins "str" = some (.type "str") := by decide +kernel
theorem log_lt {n k : Nat} (h : n < 2 ^ k) (hk : 0 < k) : n.log2 < k := by
  rcases Nat.eq_zero_or_pos n with z | z
  · subst z; simpa using hk
  · exact (Nat.log2_lt (by omega)).mpr h
theorem isi_str {X : Cx} {B P0 H0 : Hp} {W : List (Addr × Ob)} {ρ : List Sl} {m : Bool} {a : Expr} {p1 p2 pos : Pos} {d : PyData} (nd : ∀ x, d ≠ .dict x) (hm : X.mg "isinstance" = none) (hT : X.mg "str" = none) (ha : DE X B P0 H0 W ρ false a d) (hg : Gl X "isinstance" := by rfl) (hgT : Gl X "str" := by rfl)
    (he1 : starEach [a, .Name "str" p2] X.env = (false, eval a X.env) :: starEach [.Name "str" p2] X.env := by rfl) (he2 : starEach [.Name "str" p2] X.env = (false, eval (.Name "str" p2) X.env) :: starEach [] X.env := by rfl) (hpl : (backTo pos (starEach [.Name "str" p2] X.env)).any (·.1) = false := by rfl) :
    DE X B P0 H0 W ρ m (.Call (.Name "isinstance" p1) [a, .Name "str" p2] [] pos) (.bool (isStrD d)) := by
  cases d with
  | int i => exact de_isi (hg := hg) (hgT := hgT) (he1 := he1) (he2 := he2) (hpl := hpl) hm hT bb_str ha
  | bool i => exact de_isi (hg := hg) (hgT := hgT) (he1 := he1) (he2 := he2) (hpl := hpl) hm hT bb_str ha
  | none => exact de_isi (hg := hg) (hgT := hgT) (he1 := he1) (he2 := he2) (hpl := hpl) hm hT bb_str ha
  | str _ => exact de_isi (hg := hg) (hgT := hgT) (he1 := he1) (he2 := he2) (hpl := hpl) hm hT bb_str ha
  | list _ => exact de_isi (hg := hg) (hgT := hgT) (he1 := he1) (he2 := he2) (hpl := hpl) hm hT bb_str ha
  | tuple _ => exact de_isi (hg := hg) (hgT := hgT) (he1 := he1) (he2 := he2) (hpl := hpl) hm hT bb_str ha
  | dict x => exact (nd x rfl).elim
theorem ok_parse_factors {C : Addr} (hisi : mg "isinstance" = none) (hstr : mg "str" = none) (hlen : mg "len" = none) (XC : Exc K mg "InvalidText" C) (F : Def K mg "parse_factors" s_parse_factors ["text"]) (c1 : Cal P w K mg base "power_of" 2 1 (R_power_of C)) (c2 : Cal P w K mg base "is_number" 2 1 R_is_number) (c3 : Cal P w K mg base "written" 2 1 R_written) : Cal P w K mg base "parse_factors" 3 1 (R_parse C) := by
  refine F.cal sc_parse rfl fun f cdv A outer s H P1 ds o Q E hr hx tk hp hR hQ => ?_
  obtain ⟨d, ndd, rfl, hcase⟩ := hR
  have nd := sc_parse.nd
  have hu := hr.units
  have hz : 20003 < sizeLine := by decide
  rcases hcase with ⟨hb, rfl⟩ | ⟨t, rfl, hok, ht, rfl⟩
  · refine g_if (k := true) (dt_eq (dt_w (dw_or (l := true) (dt_not (dt_val (m := false) (isi_str ndd hisi hstr (de_v 0)))) fun h => by rw [hb] at h; cases h)) (by rw [hb]; rfl)) (fun _ => ?_) fun h => by cases h
    exact g_raise rfl tk XC.xC XC.gC XC.kC XC.b XC.t fun σ P H g => hQ P H g
  refine g_if (dt_eq (k' := decide (60 < t.length)) (dt_w (dw_or (dt_not (dt_val (m := false) (isi_str ndd hisi hstr (de_v 0)))) fun h => dw_or1 (dt_gt (de_lenStr hlen (de_v 0) (by omega)) de_int))) ?_) (fun hk => ?_) fun hk => g_to ?_
  · show (false || decide (((t.length : Nat) : Int) > 60)) = _
    rw [Bool.false_or]
    exact decide_eq_decide.mpr (by omega)
  · have hk := of_decide_eq_true hk
    have e : parseS t = none := by unfold parseS; rw [if_pos hk]
    rw [e] at hQ
    exact g_raise rfl tk XC.xC XC.gC XC.kC XC.b XC.t fun σ P H g => hQ P H g
  have hk := of_decide_eq_false hk
  have hy : TL.tl "*" ≠ [] := by rw [tl_star]; simp
  have hsh := split_short (t := t) hy star_ok
  have hsl := PyProof.Rows.split_le t "*"
  have hpn : foldW (Txt.split t "*") 1 = none → parseS t = none := parse_no hk
  have hpa : ∀ a, foldW (Txt.split t "*") 1 = some a → parseS t = if 1 ≤ a ∧ a ≤ 20000 ∧ writtenS a = t then some a else none := fun a => parse_at hk
  refine g_set 1 de_int ?_ nd
  generalize hL : Txt.split t "*" = L at *
  refine g_forI (α := Nat) (fun i a => foldW (L.drop i) a = foldW L 1 ∧ a < 2 ^ (240 * i + 1)) (fun _ => []) (fun a => [.dat (.str t), .dat (.int (a : Nat)), .no]) 1 hp rfl
    (di_list (de_eq (de_split (de_v 0) de_str star_len (by omega)) (congrArg (fun l => PyData.list (l.map .str)) hL))) (gt_name 2 nd) ⟨rfl, by decide⟩ rfl ⟨.inr rfl, .inr rfl, .inr rfl, trivial⟩ ?_ ?_
  · rintro B hB i a d hd ⟨i1, i2⟩
    rw [List.getElem?_map] at hd
    obtain ⟨wd, hw, rfl⟩ := Option.map_eq_some_iff.mp hd
    have hi := (List.getElem?_eq_some_iff.mp hw).1
    have hdrop : L.drop i = wd :: L.drop (i + 1) := by
      obtain ⟨q1, q2⟩ := List.getElem?_eq_some_iff.mp hw
      rw [← q2]; exact List.drop_eq_getElem_cons q1
    rw [hdrop] at i1
    have hwl := hsh wd (List.mem_of_getElem? hw)
    have i1 : (match powW wd with
      | some b => foldW (L.drop (i + 1)) (a * b)
      | none => none) = foldW L 1 := i1
    refine ⟨_, rfl, ?_⟩
    cases hpw : powW wd with
    | none =>
      rw [hpw] at i1
      have e : parseS t = none := hpn i1.symm
      rw [e] at hQ
      exact g_setX 1 (dx_mulR (de_v 1) (dx_call c1 hr (by decide) hx (da_cons (de_v 2) da_nil) rfl ⟨wd, by omega, rfl, by rw [hpw]; rfl⟩)) (fun P H g => hQ P H g) nd
    | some b =>
      rw [hpw] at i1
      have hb := powW_lt hpw
      have hi62 : i ≤ 62 := by omega
      have l1 := log_lt i2 (by omega)
      have l2 := log_lt hb (by decide)
      refine g_set 1 (de_eq (de_mulW (de_v 1) (de_call c1 hr (by decide) (da_cons (de_v 2) da_nil) rfl ⟨wd, by omega, rfl, by rw [hpw]; rfl⟩) ?_) (d1 := .int ((a * b : Nat) : Int)) (by push_cast; rfl)) ?_ nd
      · show a.log2 + b.log2 < 1000000
        omega
      refine g_next (a * b) ⟨i1, ?_⟩ ⟨.inr rfl, .inr rfl, .inl rfl, trivial⟩
      have e2 : 2 ^ (240 * (i + 1) + 1) = 2 ^ (240 * i + 1) * 2 ^ 240 := by rw [← Nat.pow_add]; congr 1
      rw [e2]
      exact Nat.mul_lt_mul'' i2 hb
  · rintro B hB a ⟨i1, i2⟩
    rw [List.length_map, List.drop_length] at i1
    have i1 : some a = foldW L 1 := i1
    have hps := hpa a i1.symm
    by_cases hn : 1 ≤ a ∧ a ≤ 20000
    · have hwn : isWhole 1 20000 (.int (a : Nat)) = true := decide_eq_true ⟨by omega, by omega⟩
      have s1 : Sh 0 (.str (writtenS a)) := .str (strOk_of fun c hc => Nat.lt_trans (okC_lt (written_okC a c hc)) (by decide))
      have s2 : Sh 0 (.str t) := .str hok
      refine g_if (k := !decide (writtenS a = t)) (dt_eq (dt_w (dw_or (dt_not (dt_val (m := true) (de_call c2 hr (by decide) (da_cons (de_v 1) da_nil) rfl ⟨_, (fun x h => by cases h), rfl, rfl⟩))) fun _ => dw_or1 (dt_neD hu (de_call c3 hr (by decide) (da_cons (de_v 1) da_nil) rfl ⟨a, hn.1, hn.2, rfl, rfl⟩) (de_v 0) s1.ok s2.ok))) ?_) (fun h => ?_) fun h => g_to ?_
      · rw [hwn]
        show (false || !(writtenS a == t)) = _
        rw [Bool.false_or]
        congr 1
      · have h : ¬ writtenS a = t := by simpa using h
        rw [if_neg (fun q => h q.2.2)] at hps
        rw [hps] at hQ
        exact g_raise rfl tk XC.xC XC.gC XC.kC XC.b XC.t fun σ P H g => hQ P H g
      · have h : writtenS a = t := by simpa using h
        rw [if_pos ⟨hn.1, hn.2, h⟩] at hps
        rw [hps] at hQ
        exact g_ret (de_v 1) hQ
    · have hwn : isWhole 1 20000 (.int (a : Nat)) = false := decide_eq_false fun q => hn ⟨by omega, by omega⟩
      rw [if_neg (fun q => hn ⟨q.1, q.2.1⟩)] at hps
      rw [hps] at hQ
      refine g_if (k := true) (dt_eq (dt_w (dw_or (l := true) (dt_not (dt_val (m := true) (de_call c2 hr (by decide) (da_cons (de_v 1) da_nil) rfl ⟨_, (fun x h => by cases h), rfl, rfl⟩))) fun h => by rw [hwn] at h; cases h)) (by rw [hwn]; rfl)) (fun _ => ?_) fun h => by cases h
      exact g_raise rfl tk XC.xC XC.gC XC.kC XC.b XC.t fun σ P H g => hQ P H g
def s_W (i : Nat) : Stmt := (clsBody s_Walk).getD i (.Pass ⟨0, 0, 0, 0⟩)
structure WK (K : PySem.W.Frag) (Cw : Addr) : Prop where
  cls : Cls K Cw
  nh : NoAttr K Cw "here"
  ne : NoAttr K Cw "earlier"
  nu : NoAttr K Cw "undone"
inductive WO where
  | ok (r : PyData) (n : Nat) (Es Us : List Nat)
  | exc (C : Addr)
def wOut (Cw dx a : Addr) (n : Nat) (e u : Addr) (Es Us : List Nat) : WO → OutW
  | .ok r n' Es' Us' => .ret fun P' v W' => Dq P' v r ∧ ∃ e' u', W' = wRows Cw dx a n' e' u' Es' Us'
  | .exc C => .exc C fun W' => W' = wRows Cw dx a n e u Es Us
def R_met (Cw : Addr) (g : Nat → List Nat → List Nat → List PyData → WO → Prop) (ρ : List Sl) (W : Rows) (o : OutW) : Prop := ∃ dx a n e u Es Us ds w, ρ = .raw (.ref a) :: ds.map .dat ∧ W = wRows Cw dx a n e u Es Us ∧ Es.length ≤ 100000 ∧ Us.length ≤ 100000 ∧ g n Es Us ds w ∧ o = wOut Cw dx a n e u Es Us w
theorem nsD_scal (l : List Nat) : (nsD l).all scalD = true := List.all_eq_true.mpr fun d hd => by
  obtain ⟨_, _, rfl⟩ := List.mem_map.mp hd
  rfl
theorem nsD_len (l : List Nat) : (nsD l).length = l.length := List.length_map ..
theorem nsD_snoc (l : List Nat) (n : Nat) : nsD l ++ [PyData.int (n : Nat)] = nsD (l ++ [n]) := by unfold nsD; rw [List.map_append]; rfl
/-! change -/
theorem sc_W_change : FnScope ["self", "number"] ["self", "number"] (defScope (s_W 1)) := ⟨rfl, rfl, rfl, by decide +kernel, rfl, by decide +kernel, by decide +kernel⟩
def g_change (n : Nat) (Es Us : List Nat) (ds : List PyData) (w : WO) : Prop := ∃ k : Nat, ds = [.int k] ∧ w = .ok (.int k) k (Es ++ [n]) []
theorem ok_W_change {Cw : Addr} (Wk : WK K Cw) (F : DefM K Cw "change" "Walk.change" (s_W 1) ["self", "number"]) : MetW P w K mg base Cw "change" 1 2 (R_met Cw g_change) := by
  obtain ⟨f, fd, hM, hF, hB⟩ := F.ex
  refine ⟨f, fd, _, hM, hB, fun_spG hF sc_W_change rfl fun cdv A outer s H P1 Hl ρ W o Q E hr hx tk hp hρ hR hQ => ?_⟩
  obtain ⟨dx, a, n, e, u, Es, Us, ds, wo, rfl, rfl, h1, h2, ⟨k, rfl, rfl⟩, rfl⟩ := hR
  have nd := sc_W_change.nd
  have hz : 200003 < sizeLine := by decide
  refine g_fldO 0 0 Wk.cls Wk.ne (dk_cat (ds := nsD Es) (es' := [.int (n : Nat)]) (de_fldL 0 0 1 Wk.cls Wk.ne at_earlier) (de_lst (da_cons (de_fld 0 0 Wk.cls Wk.nh at_here) da_nil)) (by rw [nsD_len]; show _ + 1 ≤ _; omega) (nsD_scal _) rfl) wF_len fun q => ?_
  rw [put_earlier]
  refine g_drop 1 ?_
  refine g_fldO 0 0 (fs := wF n q u) Wk.cls Wk.nu (dk_lst da_nil) wF_len fun q2 => ?_
  rw [put_undone]
  refine g_drop 1 ?_
  refine g_fld 0 0 (fs := wF n q q2) Wk.cls Wk.nh (de_v 1) wF_len ?_
  rw [put_here]
  refine g_retW (de_v 1) hQ fun P' v hv => ⟨hv, q, q2, ?_⟩
  show [(a, Ob.raw _), (q, Ob.lst (nsD Es ++ [.int (n : Nat)])), (q2, Ob.lst [])] = _
  rw [nsD_snoc]
  rfl
/-! now, len -/
theorem sc_W_now : FnScope ["self"] ["self"] (defScope (s_W 4)) := ⟨rfl, rfl, rfl, by decide +kernel, rfl, by decide +kernel, by decide +kernel⟩
def R_obs (Cw : Addr) (g : Nat → List Nat → PyData) (ρ : List Sl) (W : Rows) (o : OutW) : Prop := ∃ dx a n e u Es Us, ρ = [.raw (.ref a)] ∧ W = wRows Cw dx a n e u Es Us ∧ o = .ret fun P' v W' => Dq P' v (g n Es) ∧ W' = wRows Cw dx a n e u Es Us
theorem sc_W_len : FnScope ["self"] ["self"] (defScope (s_W 7)) := ⟨rfl, rfl, rfl, by decide +kernel, rfl, by decide +kernel, by decide +kernel⟩
theorem ok_W_len {Cw : Addr} (hlen : mg "len" = none) (Wk : WK K Cw) (F : DefM K Cw "__len__" "Walk.__len__" (s_W 7) ["self"]) : MetW P w K mg base Cw "__len__" 1 1 (R_obs Cw fun _ Es => .int (Es.length : Nat)) := by
  obtain ⟨f, fd, hM, hF, hB⟩ := F.ex
  refine ⟨f, fd, _, hM, hB, fun_spG hF sc_W_len rfl fun cdv A outer s H P1 Hl ρ W o Q E hr hx tk hp hρ hR hQ => ?_⟩
  obtain ⟨dx, a, n, e, u, Es, Us, rfl, rfl, rfl⟩ := hR
  exact g_retW (de_eq (de_lenL hlen (de_fldL (ds := nsD Es) 0 0 1 Wk.cls Wk.ne at_earlier)) (by rw [nsD_len])) hQ fun P' v hv => ⟨hv, rfl⟩
/-! undo, redo -/
theorem eq_nil_ns (l : List Nat) : PyData.eqv (.list (nsD l)) (.list []) = decide (l = []) := by
  cases l with
  | nil => rfl
  | cons a l => simp [nsD, PyData.eqv, PyData.eqvAll]
theorem sh_ns (l : List Nat) : Sh 1 (.list (nsD l)) := .lst fun d hd => by
  obtain ⟨_, _, rfl⟩ := List.mem_map.mp hd
  exact .int
theorem sh_nl : Sh 1 (.list []) := .lst fun d hd => by cases hd
theorem ns_last {l : List Nat} (h : l ≠ []) : ∃ x, l.getLast? = some x ∧ atI (nsD l) (-1) = some (.int (x : Nat)) := by
  have e := List.getLast?_eq_some_getLast h
  refine ⟨_, e, ?_⟩
  unfold atI
  have hl : 0 < (nsD l).length := by rw [nsD_len]; exact List.length_pos_iff.mpr h
  rw [ixN_last hl]
  show (nsD l)[(nsD l).length - 1]? = _
  rw [nsD_len]
  unfold nsD
  rw [List.getElem?_map, ← List.getLast?_eq_getElem?, e]
  rfl
theorem ns_cut (l : List Nat) : Dw.cutD (nsD l) none (some (-1)) = nsD l.dropLast := by
  rw [cut_dropLast]
  unfold nsD
  rw [List.map_dropLast]
theorem sc_W_undo : FnScope ["self"] ["self"] (defScope (s_W 5)) := ⟨rfl, rfl, rfl, by decide +kernel, rfl, by decide +kernel, by decide +kernel⟩
def g_undo (C8 : Addr) (n : Nat) (Es Us : List Nat) (ds : List PyData) (w : WO) : Prop := ds = [] ∧ ((Es = [] ∧ w = .exc C8) ∨ ∃ x, Es.getLast? = some x ∧ w = .ok (.int (x : Nat)) x Es.dropLast (Us ++ [n]))
theorem ok_W_undo {Cw C8 : Addr} (Wk : WK K Cw) (XC : Exc K mg "NothingToUndo" C8) (F : DefM K Cw "undo" "Walk.undo" (s_W 5) ["self"]) : MetW P w K mg base Cw "undo" 1 1 (R_met Cw (g_undo C8)) := by
  obtain ⟨f, fd, hM, hF, hB⟩ := F.ex
  refine ⟨f, fd, _, hM, hB, fun_spG hF sc_W_undo rfl fun cdv A outer s H P1 Hl ρ W o Q E hr hx tk hp hρ hR hQ => ?_⟩
  obtain ⟨dx, a, n, e, u, Es, Us, ds, wo, rfl, rfl, h1, h2, ⟨rfl, hcase⟩, rfl⟩ := hR
  have nd := sc_W_undo.nd
  have hu := hr.units
  have hz : 200003 < sizeLine := by decide
  refine g_if (dt_eq (dt_eqD hu (de_fldL (ds := nsD Es) 0 0 1 Wk.cls Wk.ne at_earlier) (de_lst da_nil) (sh_ns Es).ok sh_nl.ok) (eq_nil_ns Es)) (fun hb => ?_) fun hb => g_to ?_
  · have hb := of_decide_eq_true hb
    rcases hcase with ⟨_, rfl⟩ | ⟨x, hx2, _⟩
    · exact g_raiseW rfl tk XC.xC XC.gC XC.kC XC.b XC.t fun σ P H F => hQ P H _ F rfl
    · rw [hb] at hx2; cases hx2
  have hb := of_decide_eq_false hb
  obtain ⟨y, hy1, hy2⟩ := ns_last hb
  rcases hcase with ⟨q, _⟩ | ⟨x, hx2, rfl⟩
  · exact (hb q).elim
  have exy : y = x := by rw [hy1] at hx2; exact Option.some.inj hx2
  subst exy
  refine g_fldO 0 0 Wk.cls Wk.nu (dk_cat (ds := nsD Us) (es' := [.int (n : Nat)]) (de_fldL 0 0 2 Wk.cls Wk.nu at_undone) (de_lst (da_cons (de_fld 0 0 Wk.cls Wk.nh at_here) da_nil)) (by rw [nsD_len]; show _ + 1 ≤ _; omega) (nsD_scal _) rfl) wF_len fun q => ?_
  rw [put_undone]
  refine g_drop 2 ?_
  refine g_fld 0 0 (fs := wF n e q) (v := (y : Nat)) Wk.cls Wk.nh (de_sc (de_ixL (d := .int (y : Nat)) (m := false) (de_fldL (ds := nsD Es) 0 0 1 Wk.cls Wk.ne at_earlier) (de_neg de_int) hy2)) wF_len ?_
  rw [put_here]
  refine g_fldO 0 0 (fs := wF y e q) Wk.cls Wk.ne (dk_slS (de_fldL (ds := nsD Es) 0 0 1 Wk.cls Wk.ne at_earlier) do_no (do_at (de_neg de_int)) (by rw [ns_cut]; exact nsD_scal _)) wF_len fun q2 => ?_
  rw [put_earlier, ns_cut]
  refine g_drop 1 ?_
  refine g_perm (W' := wRows Cw dx a y q2 q Es.dropLast (Us ++ [n])) ?_ ?_
  · show List.Perm [(a, Ob.raw (.ins Cw dx (wF y q2 q))), (q, Ob.lst (nsD Us ++ [.int (n : Nat)])), (q2, Ob.lst (nsD Es.dropLast))] [(a, Ob.raw (.ins Cw dx (wF y q2 q))), (q2, Ob.lst (nsD Es.dropLast)), (q, Ob.lst (nsD (Us ++ [n])))]
    rw [nsD_snoc]
    exact (List.Perm.swap _ _ _).cons _
  exact g_retW (de_fld 0 0 (fs := wF y q2 q) Wk.cls Wk.nh at_here) hQ fun P' v hv => ⟨hv, q2, q, rfl⟩
theorem sc_W_redo : FnScope ["self"] ["self"] (defScope (s_W 6)) := ⟨rfl, rfl, rfl, by decide +kernel, rfl, by decide +kernel, by decide +kernel⟩
def g_redo (C8 : Addr) (n : Nat) (Es Us : List Nat) (ds : List PyData) (w : WO) : Prop := ds = [] ∧ ((Us = [] ∧ w = .exc C8) ∨ ∃ x, Us.getLast? = some x ∧ w = .ok (.int (x : Nat)) x (Es ++ [n]) Us.dropLast)
theorem ok_W_redo {Cw C8 : Addr} (Wk : WK K Cw) (XC : Exc K mg "NothingToUndo" C8) (F : DefM K Cw "redo" "Walk.redo" (s_W 6) ["self"]) : MetW P w K mg base Cw "redo" 1 1 (R_met Cw (g_redo C8)) := by
  obtain ⟨f, fd, hM, hF, hB⟩ := F.ex
  refine ⟨f, fd, _, hM, hB, fun_spG hF sc_W_redo rfl fun cdv A outer s H P1 Hl ρ W o Q E hr hx tk hp hρ hR hQ => ?_⟩
  obtain ⟨dx, a, n, e, u, Es, Us, ds, wo, rfl, rfl, h1, h2, ⟨rfl, hcase⟩, rfl⟩ := hR
  have nd := sc_W_redo.nd
  have hu := hr.units
  have hz : 200003 < sizeLine := by decide
  refine g_if (dt_eq (dt_eqD hu (de_fldL (ds := nsD Us) 0 0 2 Wk.cls Wk.nu at_undone) (de_lst da_nil) (sh_ns Us).ok sh_nl.ok) (eq_nil_ns Us)) (fun hb => ?_) fun hb => g_to ?_
  · have hb := of_decide_eq_true hb
    rcases hcase with ⟨_, rfl⟩ | ⟨x, hx2, _⟩
    · exact g_raiseW rfl tk XC.xC XC.gC XC.kC XC.b XC.t fun σ P H F => hQ P H _ F rfl
    · rw [hb] at hx2; cases hx2
  have hb := of_decide_eq_false hb
  obtain ⟨y, hy1, hy2⟩ := ns_last hb
  rcases hcase with ⟨q, _⟩ | ⟨x, hx2, rfl⟩
  · exact (hb q).elim
  have exy : y = x := by rw [hy1] at hx2; exact Option.some.inj hx2
  subst exy
  refine g_fldO 0 0 Wk.cls Wk.ne (dk_cat (ds := nsD Es) (es' := [.int (n : Nat)]) (de_fldL 0 0 1 Wk.cls Wk.ne at_earlier) (de_lst (da_cons (de_fld 0 0 Wk.cls Wk.nh at_here) da_nil)) (by rw [nsD_len]; show _ + 1 ≤ _; omega) (nsD_scal _) rfl) wF_len fun q => ?_
  rw [put_earlier]
  refine g_drop 1 ?_
  refine g_fld 0 0 (fs := wF n q u) (v := (y : Nat)) Wk.cls Wk.nh (de_sc (de_ixL (d := .int (y : Nat)) (m := false) (de_fldL (ds := nsD Us) 0 0 1 Wk.cls Wk.nu at_undone) (de_neg de_int) hy2)) wF_len ?_
  rw [put_here]
  refine g_fldO 0 0 (fs := wF y q u) Wk.cls Wk.nu (dk_slS (de_fldL (ds := nsD Us) 0 0 1 Wk.cls Wk.nu at_undone) do_no (do_at (de_neg de_int)) (by rw [ns_cut]; exact nsD_scal _)) wF_len fun q2 => ?_
  rw [put_undone, ns_cut]
  refine g_drop 1 ?_
  refine g_retW (de_fld 0 0 (fs := wF y q q2) Wk.cls Wk.nh at_here) hQ fun P' v hv => ⟨hv, q, q2, ?_⟩
  show [(a, Ob.raw _), (q, Ob.lst (nsD Es ++ [.int (n : Nat)])), (q2, Ob.lst _)] = _
  rw [nsD_snoc]
  rfl
/-! go, times -/
theorem sc_W_go : FnScope ["self"] ["self"] (defScope (s_W 2)) := ⟨rfl, rfl, rfl, by decide +kernel, rfl, by decide +kernel, by decide +kernel⟩
def g_goW (C6 : Addr) (n : Nat) (Es Us : List Nat) (ds : List PyData) (w : WO) : Prop := ds = [] ∧ w = if 1 ≤ n ∧ n ≤ 20000 then .ok (.int (Mi.s n : Nat)) (Mi.s n) (Es ++ [n]) [] else .exc C6
theorem whole_dec (n : Nat) : isWhole 1 20000 (.int (n : Nat)) = decide (1 ≤ n ∧ n ≤ 20000) := by
  show decide _ = _
  exact decide_eq_decide.mpr ⟨fun h => ⟨by omega, by omega⟩, fun h => ⟨by omega, by omega⟩⟩
theorem up_nil {Cw dx a : Addr} {r : PyData} {n' : Nat} {Es' Us' : List Nat} {P' : Hp} {v : V} {W' : Rows} (h : ∃ W1, W' = [] ++ W1 ∧ (Dq P' v r ∧ ∃ e' u', W1 = wRows Cw dx a n' e' u' Es' Us')) : Dq P' v r ∧ ∃ e' u', W' = wRows Cw dx a n' e' u' Es' Us' := by
  obtain ⟨W1, rfl, h⟩ := h
  exact h
theorem ok_W_go {Cw C6 : Addr} (Wk : WK K Cw) (XC : Exc K mg "Stopped" C6) (F : DefM K Cw "go" "Walk.go" (s_W 2) ["self"]) (c1 : Cal P w K mg base "is_number" 2 1 R_is_number) (c2 : Cal P w K mg base "stepped" 3 1 R_stepped) (mc : MetW P w K mg base Cw "change" 1 2 (R_met Cw g_change)) : MetW P w K mg base Cw "go" 4 1 (R_met Cw (g_goW C6)) := by
  obtain ⟨f, fd, hM, hF, hB⟩ := F.ex
  refine ⟨f, fd, _, hM, hB, fun_spG hF sc_W_go rfl fun cdv A outer s H P1 Hl ρ W o Q E hr hx tk hp hρ hR hQ => ?_⟩
  obtain ⟨dx, a, n, e, u, Es, Us, ds, wo, rfl, rfl, h1, h2, ⟨rfl, rfl⟩, rfl⟩ := hR
  have nd := sc_W_go.nd
  refine g_if (dt_not (dt_val (m := true) (de_eq (de_call c1 hr (by decide) (da_cons (de_fld 0 0 Wk.cls Wk.nh at_here) da_nil) rfl ⟨_, (fun x h => by cases h), rfl, rfl⟩) (congrArg PyData.bool (whole_dec n))))) (fun hb => ?_) fun hb => g_to ?_
  · have hb : ¬ (1 ≤ n ∧ n ≤ 20000) := of_decide_eq_false (by rw [← Bool.not_eq_true']; exact hb)
    rw [if_neg hb] at hQ
    exact g_raiseW rfl tk XC.xC XC.gC XC.kC XC.b XC.t fun σ P H F => hQ P H _ F rfl
  have hb : 1 ≤ n ∧ n ≤ 20000 := of_decide_eq_true (by rw [← Bool.not_eq_false']; exact hb)
  rw [if_pos hb] at hQ
  refine g_retEW (E' := E) (ew_meth (Wr := []) (ρa := [.dat (.int (Mi.s n : Nat))]) (s1 := a) (C := Cw) (dx := dx) (fs := wF n e u) (ot := wOut Cw dx a n e u Es Us (.ok (.int (Mi.s n : Nat)) (Mi.s n) (Es ++ [n]) [])) 0 0 Wk.cls mc hr (by decide) hx (List.Perm.refl _) wRows_plain (sa_dat (de_call c2 hr (by decide) (da_cons (de_fld 0 0 Wk.cls Wk.nh at_here) da_nil) rfl ⟨n, hb.1, hb.2, rfl, rfl⟩) sa_nil) rfl ⟨dx, a, n, e, u, Es, Us, [.int (Mi.s n : Nat)], _, rfl, rfl, h1, h2, ⟨_, rfl, rfl⟩, rfl⟩ (at_none (by decide +kernel) (by decide +kernel) (by decide +kernel))) hQ fun P' v W' h => up_nil (a := a) h
theorem sc_W_times : FnScope ["self", "factor"] ["self", "factor"] (defScope (s_W 3)) := ⟨rfl, rfl, rfl, by decide +kernel, rfl, by decide +kernel, by decide +kernel⟩
def timesO (C6 C7 : Addr) (n k : Nat) (Es : List Nat) : WO := if 1 ≤ n ∧ n ≤ 20000 then (if 20000 < n * k then .exc C7 else .ok (.int (n * k : Nat)) (n * k) (Es ++ [n]) []) else .exc C6
def g_times (C3 C6 C7 : Addr) (n : Nat) (Es Us : List Nat) (ds : List PyData) (w : WO) : Prop := ∃ d, (∀ x, d ≠ .dict x) ∧ ds = [d] ∧ ((isWhole 2 10 d = false ∧ w = .exc C3) ∨ ∃ k : Nat, 2 ≤ k ∧ k ≤ 10 ∧ d = .int k ∧ w = timesO C6 C7 n k Es)
theorem ok_W_times {Cw C3 C6 C7 : Addr} (M : Mg K mg) (Wk : WK K Cw) (X3 : Exc K mg "InvalidFactor" C3) (X6 : Exc K mg "Stopped" C6) (X7 : Exc K mg "TooGreat" C7) (F : DefM K Cw "times" "Walk.times" (s_W 3) ["self", "factor"]) (c0 : Cal P w K mg base "is_whole" 1 3 R_is_whole) (c1 : Cal P w K mg base "is_number" 2 1 R_is_number) (mc : MetW P w K mg base Cw "change" 1 2 (R_met Cw g_change)) : MetW P w K mg base Cw "times" 3 2 (R_met Cw (g_times C3 C6 C7)) := by
  obtain ⟨f, fd, hM, hF, hB⟩ := F.ex
  refine ⟨f, fd, _, hM, hB, fun_spG hF sc_W_times rfl fun cdv A outer s H P1 Hl ρ W o Q E hr hx tk hp hρ hR hQ => ?_⟩
  obtain ⟨dx, a, n, e, u, Es, Us, ds, wo, rfl, rfl, h1, h2, ⟨d, ndd, rfl, hcase⟩, rfl⟩ := hR
  have nd := sc_W_times.nd
  refine g_if (dt_not (dt_val (m := true) (de_call c0 hr (by decide) (da_cons (de_v 1) (da_cons de_int (da_cons de_int da_nil))) rfl ⟨d, 2, 10, ndd, rfl, rfl⟩))) (fun hb => ?_) fun hb => g_to ?_
  · have hb : isWhole 2 10 d = false := by simpa using hb
    rcases hcase with ⟨_, rfl⟩ | ⟨k, k1, k2, rfl, _⟩
    · exact g_raiseW rfl tk X3.xC X3.gC X3.kC X3.b X3.t fun σ P H F => hQ P H _ F rfl
    · have : isWhole 2 10 (.int (k : Nat)) = true := decide_eq_true ⟨by omega, by omega⟩
      rw [this] at hb; cases hb
  have hb : isWhole 2 10 d = true := by simpa using hb
  rcases hcase with ⟨q, _⟩ | ⟨k, k1, k2, rfl, rfl⟩
  · rw [q] at hb; cases hb
  unfold timesO at hQ
  refine g_if (dt_not (dt_val (m := true) (de_eq (de_call c1 hr (by decide) (da_cons (de_fld 0 0 Wk.cls Wk.nh at_here) da_nil) rfl ⟨_, (fun x h => by cases h), rfl, rfl⟩) (congrArg PyData.bool (whole_dec n))))) (fun hb => ?_) fun hb => g_to ?_
  · have hb : ¬ (1 ≤ n ∧ n ≤ 20000) := of_decide_eq_false (by rw [← Bool.not_eq_true']; exact hb)
    rw [if_neg hb] at hQ
    exact g_raiseW rfl tk X6.xC X6.gC X6.kC X6.b X6.t fun σ P H F => hQ P H _ F rfl
  have hb : 1 ≤ n ∧ n ≤ 20000 := of_decide_eq_true (by rw [← Bool.not_eq_false']; exact hb)
  rw [if_pos hb] at hQ
  have hmul : ((n : Nat) : Int) * ((k : Nat) : Int) = ((n * k : Nat) : Int) := by push_cast; rfl
  refine g_if (dt_eq (k' := decide (20000 < n * k)) (dt_gt (de_eq (de_mul (de_fld 0 0 Wk.cls Wk.nh at_here) (de_v 1) (.inr (by omega))) (congrArg PyData.int hmul)) (de_globI M.bound)) (decide_eq_decide.mpr (by omega))) (fun hb2 => ?_) fun hb2 => g_to ?_
  · rw [if_pos (of_decide_eq_true hb2)] at hQ
    exact g_raiseW rfl tk X7.xC X7.gC X7.kC X7.b X7.t fun σ P H F => hQ P H _ F rfl
  rw [if_neg (of_decide_eq_false hb2)] at hQ
  refine g_retEW (E' := E) (ew_meth (Wr := []) (ρa := [.dat (.int (n * k : Nat))]) (s1 := a) (C := Cw) (dx := dx) (fs := wF n e u) (ot := wOut Cw dx a n e u Es Us (.ok (.int (n * k : Nat)) (n * k) (Es ++ [n]) [])) 0 0 Wk.cls mc hr (by decide) hx (List.Perm.refl _) wRows_plain (sa_dat (de_eq (de_mul (de_fld 0 0 Wk.cls Wk.nh at_here) (de_v 1) (.inr (by omega))) (congrArg PyData.int hmul)) sa_nil) rfl ⟨dx, a, n, e, u, Es, Us, [.int (n * k : Nat)], _, rfl, rfl, h1, h2, ⟨_, rfl, rfl⟩, rfl⟩ (at_none (by decide +kernel) (by decide +kernel) (by decide +kernel))) hQ fun P' v W' h => up_nil (a := a) h
/-! __init__ -/
theorem sc_W_init : FnScope ["self", "number"] ["self", "number"] (defScope (s_W 0)) := ⟨rfl, rfl, rfl, by decide +kernel, rfl, by decide +kernel, by decide +kernel⟩
def R_init (Cw C0 : Addr) (ρ : List Sl) (W : Rows) (o : OutW) : Prop := ∃ dx a d, ρ = [.raw (.ref a), .dat d] ∧ W = [(a, .raw (.ins Cw dx []))] ∧ (∀ x, d ≠ .dict x) ∧ ((isWhole 1 20000 d = false ∧ o = .exc C0 fun _ => True) ∨ ∃ n : Nat, 1 ≤ n ∧ n ≤ 20000 ∧ d = .int n ∧ o = .ret fun P' v W' => v = .non ∧ ∃ e u, W' = wRows Cw dx a n e u [] [])
theorem ok_W_init {Cw C0 : Addr} (Wk : WK K Cw) (F : DefI K mg "Walk" Cw "Walk.__init__" (s_W 0) ["self", "number"]) (c1 : Cal P w K mg base "need_number" 3 1 (R_need_number C0)) : MakW P w K mg base "Walk" Cw 4 2 (R_init Cw C0) := by
  obtain ⟨f, fd, hM, hF, hB⟩ := F.ex
  refine ⟨F.atm, f, fd, _, hM, hB, fun_spG hF sc_W_init rfl fun cdv A outer s H P1 Hl ρ W o Q E hr hx tk hp hρ hR hQ => ?_⟩
  obtain ⟨dx, a, d, rfl, rfl, ndd, hcase⟩ := hR
  have nd := sc_W_init.nd
  refine g_need c1 hr (by decide) hx (de_v 1) ndd (fun hb => ?_) fun hb => ?_
  · rcases hcase with ⟨_, rfl⟩ | ⟨n, n1, n2, rfl, _⟩
    · exact fun P' H' g => hQ P' H' [] ⟨g, fun r hr => (by cases hr), fun r hr => (by cases hr), List.nodup_nil⟩ trivial
    · rw [whole_nat n1 n2] at hb; cases hb
  rcases hcase with ⟨q, _⟩ | ⟨n, n1, n2, rfl, rfl⟩
  · rw [q] at hb; cases hb
  refine g_fld 0 0 (fs := []) Wk.cls Wk.nh (de_v 1) (by decide) ?_
  refine g_fldO 0 0 (fs := putF "here" (.int (n : Nat)) []) Wk.cls Wk.ne (dk_lst da_nil) (by show 1 < 1000; decide) fun q => ?_
  refine g_fldO 0 0 (fs := putF "earlier" (.ref q) (putF "here" (.int (n : Nat)) [])) Wk.cls Wk.nu (dk_lst da_nil) (by
    have := length_putF "earlier" (V.ref q) (putF "here" (.int (n : Nat)) [])
    have h2 : (putF "here" (V.int (n : Nat)) []).length = 1 := rfl
    omega) fun q2 => ?_
  have e1 : putF "undone" (.ref q2) (putF "earlier" (.ref q) (putF "here" (.int (n : Nat)) [])) = wF n q q2 := by
    rw [putF, putF, if_neg s_he, putF, putF, if_neg s_hu, putF, if_neg s_eu, putF]
    rfl
  refine g_endW hQ fun P' => ⟨rfl, q, q2, ?_⟩
  show [(a, Ob.raw (.ins Cw dx (putF "undone" (.ref q2) (putF "earlier" (.ref q) (putF "here" (.int (n : Nat)) []))))), (q, Ob.lst []), (q2, Ob.lst [])] = _
  rw [e1]
  rfl
theorem sc_need_goal : FnScope ["goal"] ["goal"] (defScope s_need_goal) := ⟨rfl, rfl, rfl, by decide +kernel, rfl, by decide +kernel, by decide +kernel⟩
/-- a goal: an exception, or f -/
def R_fore (C C5 : Addr) (fn : Nat → PyData) (ds : List PyData) (o : Out) : Prop := ∃ d, (∀ x, d ≠ .dict x) ∧ ds = [d] ∧ ((isWhole 0 100 d = false ∧ o = .exc C) ∨ (d = .int 1 ∧ o = .exc C5) ∨ ∃ n : Nat, n ≠ 1 ∧ n ≤ 100 ∧ d = .int n ∧ o = .ret (fn n))
theorem R_fore_ok {C C5 : Addr} {fn : Nat → PyData} {n : Nat} (h1 : n ≠ 1) (h2 : n ≤ 100) : R_fore C C5 fn [.int n] (.ret (fn n)) := ⟨_, (fun x h => by cases h), rfl, .inr (.inr ⟨n, h1, h2, rfl, rfl⟩)⟩
theorem R_fore_bad {C C5 : Addr} {fn : Nat → PyData} {d : PyData} (nd : ∀ x, d ≠ .dict x) (h : isWhole 0 100 d = false) : R_fore C C5 fn [d] (.exc C) := ⟨d, nd, rfl, .inl ⟨h, rfl⟩⟩
theorem R_fore_one {C C5 : Addr} {fn : Nat → PyData} : R_fore C C5 fn [.int 1] (.exc C5) := ⟨_, (fun x h => by cases h), rfl, .inr (.inl ⟨rfl, rfl⟩)⟩
theorem ok_need_goal {C C5 : Addr} (XC : Exc K mg "InvalidGoal" C) (XC5 : Exc K mg "AllPrimes" C5) (F : Def K mg "need_goal" s_need_goal ["goal"]) (c0 : Cal P w K mg base "is_whole" 1 3 R_is_whole) : Cal P w K mg base "need_goal" 2 1 (R_fore C C5 fun _ => .none) := by
  refine F.cal sc_need_goal rfl fun f cdv A outer s H P1 ds o Q E hr hx tk hp hR hQ => ?_
  obtain ⟨d, nd, rfl, hcase⟩ := hR
  refine g_if (dt_not (dt_val (m := true) (de_call c0 hr (by decide) (da_cons (de_v 0) (da_cons de_int (da_cons de_int da_nil))) rfl ⟨d, 0, 100, nd, rfl, rfl⟩))) (fun h => ?_) fun h => g_to ?_
  · have h' : isWhole 0 100 d = false := by simpa using h
    rcases hcase with ⟨_, rfl⟩ | ⟨rfl, _⟩ | ⟨n, _, hn, rfl, _⟩
    · exact g_raise rfl tk XC.xC XC.gC XC.kC XC.b XC.t fun σ P H g => hQ P H g
    · cases h'
    · have : isWhole 0 100 (.int n) = true := decide_eq_true ⟨by omega, by omega⟩
      rw [this] at h'; cases h'
  · have h' : isWhole 0 100 d = true := by simpa using h
    rcases hcase with ⟨q, _⟩ | ⟨rfl, rfl⟩ | ⟨n, h1, hn, rfl, rfl⟩
    · rw [h'] at q; cases q
    · refine g_yes (dt_eq (dt_eqI (de_v 0) de_int) rfl) ?_
      exact g_raise rfl tk XC5.xC XC5.gC XC5.kC XC5.b XC5.t fun σ P H g => hQ P H g
    · refine g_no (dt_eq (dt_eqI (de_v 0) de_int) (decide_eq_false (by omega))) ?_
      exact g_nil fun σ P H S => hQ _ P H S.gr .non
/-- need_goal(goal) ahead of the rest -/
theorem g_goal {X : Cx} {B P0 H0 : Hp} {W : List (Addr × Ob)} {ρ : List Sl} {rest : List Stmt} {D : Ends} {C C5 : Addr} {j : Nat} {d : PyData} {o : Out} {a : Expr} {p1 p2 pos : Pos} {Q : VK} {E : XK} {fn : Nat → PyData} (c1 : Cal X.prog X.w X.K X.mg X.base "need_goal" 2 1 (R_fore C C5 fun _ => .none)) (hr : Room j X.A) (hk : 2 ≤ j) (hp : Passes (L2N.CX X.prog X.w) X E) (hR : R_fore C C5 fn [d] o) (hQ : QE P0 H0 Q E o)
    (ha : DE X B P0 H0 W ρ true a d) (h2 : ∀ n : Nat, n ≠ 1 → n ≤ 100 → d = .int n → (∀ v P' H', Gr P0 H0 P' H' → Dq P' v (fn n) → Q v H') → G X B P0 H0 W ρ rest D) (hg : Gl X "need_goal" := by rfl)
    (he : starEach [a] X.env = (false, eval a X.env) :: starEach [] X.env := by rfl) (hpl : (backTo p2 (starEach [] X.env)).any (·.1) = false := by rfl) (hs : swapsWith (.Call (.Name "need_goal" p1) [a] [] p2) none pos.line X.env = pure false := by rfl) :
    G X B P0 H0 W ρ (.Expr (.Call (.Name "need_goal" p1) [a] [] p2) pos :: rest) D := by
  obtain ⟨d', nd, e, ⟨q1, rfl⟩ | ⟨rfl, rfl⟩ | ⟨n, a1, a2, rfl, rfl⟩⟩ := hR
  · cases e
    exact g_callX (Cx := C) c1 hr hk hp (da_cons ha da_nil he) rfl (R_fore_bad nd q1) hQ hg (by decide) he hpl hs
  · cases e
    exact g_callX (Cx := C5) c1 hr hk hp (da_cons ha da_nil he) rfl R_fore_one hQ hg (by decide) he hpl hs
  · cases e
    exact g_expr (de_call (d := .none) c1 hr hk (da_cons ha da_nil he) rfl (R_fore_ok (fn := fun _ => .none) a1 a2) hg (by decide) he hpl) (h2 n a1 a2 rfl hQ) hs
theorem sc_parts_for : FnScope ["number", "goal"] ["number", "goal"] (defScope s_parts_for) := ⟨rfl, rfl, rfl, by decide +kernel, rfl, by decide +kernel, by decide +kernel⟩
/-- a goal that is none -/
def R_badgoal (C1 : Addr) (ds : List PyData) (o : Out) : Prop := ∃ (n : Nat) (e : PyData), 1 ≤ n ∧ n ≤ 20000 ∧ (∀ x, e ≠ .dict x) ∧ ds = [.int n, e] ∧ isWhole 0 20000 e = false ∧ o = .exc C1
theorem ok_parts_for_x {C C1 : Addr} (F : Def K mg "parts_for" s_parts_for ["number", "goal"]) (c1 : Cal P w K mg base "need_both" 4 2 (R_need_both C C1)) : Cal P w K mg base "parts_for" 5 2 (R_badgoal C1) := by
  refine F.cal sc_parts_for rfl fun f cdv A outer s H P1 ds o Q E hr hx tk hp hR hQ => ?_
  obtain ⟨n, e, h1, h2, ne, rfl, he, rfl⟩ := hR
  exact g_callX (Cx := C1) c1 hr (by decide) hx (da_cons (de_v 0) (da_cons (de_v 1) da_nil)) rfl ⟨_, e, (fun x h => by cases h), ne, rfl, .inr (.inl ⟨whole_nat h1 h2, he, rfl⟩)⟩ hQ
abbrev N_all_rounds_x : List Str := ["limit", "steps", "done", "found", "start", "number", "some"]
theorem sc_all_rounds_x : FnScope N_all_rounds_x ["limit"] (defScope s_all_rounds) := ⟨rfl, rfl, rfl, by decide +kernel, rfl, by decide +kernel, by decide +kernel⟩
/-- a limit that is none -/
def R_badlimit (C : Addr) (ds : List PyData) (o : Out) : Prop := ∃ e : PyData, (∀ x, e ≠ .dict x) ∧ ds = [e] ∧ isWhole 1 20000 e = false ∧ o = .exc C
theorem ok_all_rounds_x {C : Addr} (M : Mg K mg) (F : Def K mg "all_rounds" s_all_rounds ["limit"]) (c1 : Cal P w K mg base "need_limit" 2 2 (R_need_limit C)) : Cal P w K mg base "all_rounds" 3 1 (R_badlimit C) := by
  refine F.cal sc_all_rounds_x rfl fun f cdv A outer s H P1 ds o Q E hr hx tk hp hR hQ => ?_
  obtain ⟨e, ne, rfl, he, rfl⟩ := hR
  exact g_callX (Cx := C) c1 hr (by decide) hx (da_cons (de_v 0) (da_cons (de_globI M.bound) da_nil)) rfl ⟨e, 20000, ne, rfl, by rw [he]; rfl⟩ hQ
theorem sc_forerunners_x : FnScope ["goal"] ["goal"] (defScope s_forerunners) := ⟨rfl, rfl, rfl, by decide +kernel, rfl, by decide +kernel, by decide +kernel⟩
def R_primes (C5 : Addr) (ds : List PyData) (o : Out) : Prop := ds = [.int 1] ∧ o = .exc C5
theorem ok_forerunners_x {C1 C5 : Addr} (F : Def K mg "forerunners" s_forerunners ["goal"]) (c1 : Cal P w K mg base "need_goal" 2 1 (R_fore C1 C5 fun _ => .none)) : Cal P w K mg base "forerunners" 3 1 (R_primes C5) := by
  refine F.cal sc_forerunners_x rfl fun f cdv A outer s H P1 ds o Q E hr hx tk hp hR hQ => ?_
  obtain ⟨rfl, rfl⟩ := hR
  exact g_callX (Cx := C5) c1 hr (by decide) hx (da_cons (de_v 0) da_nil) rfl R_fore_one hQ
abbrev N_alone : List Str := ["_law_e", "_law_own", "_law_some", "_law_at"]
theorem sc_alone : FnScope N_alone ["_law_e", "_law_own"] (defScope s_alone) := ⟨rfl, rfl, rfl, by decide +kernel, rfl, by decide +kernel, by decide +kernel⟩
def R_alone (K : PySem.W.Frag) (C : Nat → Addr) (ds : List PyData) (o : Out) : Prop := ∃ i : Nat, KitC K C i ∧ ds = [excD (C i), .int (i : Nat)] ∧ o = .ret (.bool true)
def ownV (i : Nat) : PyData → PyData
  | .int z => .bool (decide (z = i))
  | d => d
theorem own_list : ∀ i, i < 9 → (compD ((List.range ((9 : Int)).toNat).map fun j => PyData.int (j : Nat)) (fun _ => true) (ownV i)) = (flagsB i).map .bool
  | 0, _ => rfl
  | 1, _ => rfl
  | 2, _ => rfl
  | 3, _ => rfl
  | 4, _ => rfl
  | 5, _ => rfl
  | 6, _ => rfl
  | 7, _ => rfl
  | 8, _ => rfl
  | i + 9, h => absurd h (by omega)
theorem ok_alone {C : Nat → Addr} (M : Kit9 K mg C) (hrange : mg "range" = none) (F : Def K mg "_law_alone" s_alone ["_law_e", "_law_own"]) : Cal P w K mg base "_law_alone" 1 2 (R_alone K C) := by
  refine F.cal sc_alone rfl fun f cdv A outer s H P1 ds o Q E hr hx tk hp hR hQ => ?_
  obtain ⟨i, Z, rfl, rfl⟩ := hR
  have hi := Z.lt
  have nd := sc_alone.nd
  have hu := hr.units
  refine g_set 2 (de_lst (da_cons (de_isE M.isi Z.ec M.n0 (Z.kk 0 (by decide)) (de_v 0)) (da_cons (de_isE M.isi Z.ec M.n1 (Z.kk 1 (by decide)) (de_v 0)) (da_cons (de_isE M.isi Z.ec M.n2 (Z.kk 2 (by decide)) (de_v 0)) da_nil)))) ?_ nd
  refine g_set 2 (de_cat (de_v 2) (de_lst (da_cons (de_isE M.isi Z.ec M.n3 (Z.kk 3 (by decide)) (de_v 0)) (da_cons (de_isE M.isi Z.ec M.n4 (Z.kk 4 (by decide)) (de_v 0)) (da_cons (de_isE M.isi Z.ec M.n5 (Z.kk 5 (by decide)) (de_v 0)) da_nil)))) (Nat.le_of_ble_eq_true rfl)) ?_ nd
  refine g_set 2 (de_eq (d1 := .list ((flagsB i).map .bool)) (de_cat (de_v 2) (de_lst (da_cons (de_isE M.isi Z.ec M.n6 (Z.kk 6 (by decide)) (de_v 0)) (da_cons (de_isE M.isi Z.ec M.n7 (Z.kk 7 (by decide)) (de_v 0)) (da_cons (de_isE M.isi Z.ec M.n8 (Z.kk 8 (by decide)) (de_v 0)) da_nil)))) (Nat.le_of_ble_eq_true rfl)) rfl) ?_ nd
  have sh : Sh 1 (.list ((flagsB i).map .bool)) := .lst fun d hd => by
    obtain ⟨b, _, rfl⟩ := List.mem_map.mp hd
    exact .bl
  refine g_ret (de_eq (de_and (de_isET M.isi Z.ec M.ve (by decide +kernel) Z.ve (de_v 0)) fun _ => de_one (de_eqD hu (de_v 2) (de_eq (de_lc (g := gName 3) [("_law_at", 3)] (fun _ => true) (ownV i) rfl nd (di_range hrange de_int (by decide)) (by decide +kernel) (blkOk_by (N := N_alone) (sc := defScope s_alone) (by decide +kernel)) (fun _ _ _ _ _ => pg_name nd rfl (Or.inl rfl)) (gb_name 3 (by decide)) fun d hd => ?_) (congrArg PyData.list (own_list i hi))) sh.ok sh.ok)) ?_) hQ
  · obtain ⟨j, hj, rfl⟩ := List.mem_map.mp hd
    exact ⟨_, rfl, fun _ _ _ _ _ _ => ⟨dts_nil, fun _ => de_eqI (de_v 3) (de_v 1)⟩⟩
  · have e : PyData.eqv (.list ((flagsB i).map .bool)) (.list ((flagsB i).map .bool)) = true := by
      have := sh.ne
      simpa using this
    rw [e]
    rfl
theorem sc_stopped : FnScope ["_law_walk"] [] (defScope s_stopped) := ⟨rfl, rfl, rfl, by decide +kernel, rfl, by decide +kernel, by decide +kernel⟩
def R_stopped (Cw : Addr) (ρ : List Sl) (W : Rows) (o : OutW) : Prop := ρ = [] ∧ W = [] ∧ o = .ret fun P' v W' => ∃ dx a e u, v = .ref a ∧ W' = wRows Cw dx a 0 e u [1] []
theorem mi_s1 : Mi.s 1 = 0 := by decide +kernel
theorem ok_stopped {Cw C0 C6 : Addr} (Wk : WK K Cw) (F : Def K mg "_law_stopped" s_stopped []) (mk : MakW P w K mg base "Walk" Cw 4 2 (R_init Cw C0)) (go : MetW P w K mg base Cw "go" 4 1 (R_met Cw (g_goW C6))) : CalW P w K mg base false "_law_stopped" 6 0 (R_stopped Cw) := by
  refine F.calW sc_stopped rfl fun f cdv A outer s H P1 Hl ρ W o Q E hr hnt hx tk hp hρ hR hQ => ?_
  obtain ⟨rfl, rfl, rfl⟩ := hR
  have nd := sc_stopped.nd
  refine g_setEW (E' := E0) (U := fun s W' => ∃ a dx e u, s = .raw (.ref a) ∧ W' = wRows Cw dx a 1 e u [] []) 0
    (ew_make (T := fun a dx P' v W1 => v = .non ∧ ∃ e u, W1 = wRows Cw dx a 1 e u [] []) mk hr (by decide) passN (sa_dat de_int sa_nil) rfl (fun a dx => ⟨dx, a, _, rfl, rfl, (fun x h => by cases h), .inr ⟨1, by decide, by decide, rfl, rfl⟩⟩) (fun a dx P' v W1 h => h.1)) ?_ ?_ nd
  · rintro P' v W' ⟨a, dx, W1, rfl, rfl, _, e, u, rfl⟩
    exact ⟨.raw (.ref a), rfl, a, dx, e, u, rfl, rfl⟩
  rintro _ _ ⟨a, dx, e, u, rfl, rfl⟩
  refine g_exprEW (E' := E0) (ew_meth0 (Wr := []) (W1 := wRows Cw dx a 1 e u [] []) (s1 := a) (C := Cw) (dx := dx) (fs := wF 1 e u) (ot := wOut Cw dx a 1 e u [] [] (.ok (.int ((0 : Nat) : Int)) 0 [1] [])) 0 0 Wk.cls go hr (by decide) passN (List.Perm.refl _) wRows_plain ⟨dx, a, 1, e, u, [], [], [], _, rfl, rfl, by decide, by decide, ⟨rfl, by rw [if_pos (by decide), mi_s1]; rfl⟩, rfl⟩ (at_none (by decide +kernel) (by decide +kernel) (by decide +kernel))) ?_
  rintro P' v W' ⟨W1, rfl, _, e2, u2, rfl⟩
  exact g_retOwn 0 hQ fun P'' => ⟨dx, a, e2, u2, rfl, rfl⟩
abbrev N_met : List Str := ["_law_deed", "_law_e"]
theorem sc_met : FnScope N_met ["_law_deed"] (defScope s_met) := ⟨rfl, rfl, rfl, by decide +kernel, rfl, by decide +kernel, by decide +kernel⟩
theorem met_body : MetBody "_law_deed" "_law_e" "PartError" (defBody s_met) := ⟨_, _, _, _, _, _, _, _, _, _, _, rfl⟩
/-- the shape in which the law gets it -/
abbrev MetAll (P : Program) (w : World) (K : PySem.W.Frag) (mg : Str → Option Value) (base : Heap) (C : Nat → Addr) (g CP : Addr) (fd : FuncData) : Prop := ∀ X : Cx, X.prog = P → X.w = w → X.K = K → X.mg = mg → X.base = base → Metter X "_law_met" g s_met N_met "_law_deed" "_law_e" "PartError" C fd CP
theorem met_mk {g : Addr} {C : Nat → Addr} {fd : FuncData} (hg : mg "_law_met" = some (.ref g)) (kg : PySem.W.keepIn K (.ref g) = true) (F : Fun K "_law_met" "_law_met" s_met g fd) (bd : L2.Binds K fd ["_law_deed"] []) (eP : mg "PartError" = some (.ref (C 9))) : MetAll P w K mg base C g (C 9) fd := fun X h1 h2 h3 h4 h5 => by
  subst h1 h2 h3 h4 h5
  exact ⟨hg, kg, F, bd, sc_met, rfl, rfl, rfl, rfl, met_body, rfl, eP, by decide, by decide, by decide, by decide, by decide, fun i Z => Z.ex⟩
end
end Dv

namespace Dv
open PySem PySem.Spec PyProof.Rows L2 Dw Mi Hz LamX
section
variable {P : Program} {w : World} {K : PySem.W.Frag} {mg : Str → Option Value} {base : Heap}
abbrev N_law : List Str := ["_law_script", "_law_dice", "_law_made", "_law_at", "_law_e", "_law_more"]
theorem sc_law : FnScope N_law ["_law_script"] (defScope s_law) := ⟨rfl, rfl, rfl, by decide +kernel, rfl, by decide +kernel, by decide +kernel⟩
structure Env1 (P : Program) (w : World) (K : PySem.W.Frag) (mg : Str → Option Value) (base : Heap) (C : Nat → Addr) (Cw : Addr) : Prop where
  mb : Mb mg
  all : mg "all" = none
  enum : mg "enumerate" = none
  wk : WK K Cw
  make : MakW P w K mg base "Walk" Cw 4 2 (R_init Cw (C 0))
  go : MetW P w K mg base Cw "go" 4 1 (R_met Cw (g_goW (C 6)))
  times : MetW P w K mg base Cw "times" 3 2 (R_met Cw (g_times (C 3) (C 6) (C 7)))
  redo : MetW P w K mg base Cw "redo" 1 1 (R_met Cw (g_redo (C 8)))
  stopped : CalW P w K mg base false "_law_stopped" 6 0 (R_stopped Cw)
  step : Cal P w K mg base "step" 4 1 (R_num (C 0) fun n => .int (Mi.s n : Nat))
  partsF : Cal P w K mg base "parts_for" 5 2 (R_badgoal (C 1))
  roundsA : Cal P w K mg base "all_rounds" 3 1 (R_badlimit (C 2))
  parse : Cal P w K mg base "parse_factors" 3 1 (R_parse (C 4))
  fore : Cal P w K mg base "forerunners" 3 1 (R_primes (C 5))
  alone : Cal P w K mg base "_law_alone" 1 2 (R_alone K C)
  rounds : CalS P w K mg base "_law_rounds" 2 R_rounds
  roll : CalD P w K mg base "_law_roll" 2 Φ_roll P_roll
  kit : ∀ i, i < 9 → KitC K C i
theorem star_no : ∀ n, n < 61 → 1 ≤ n → parseS (starN n) = none ∧ PyData.strOk (starN n) = true ∧ (starN n).length ≤ 1000 := by decide +kernel
theorem okW3 {p Tb l : Addr} {ds : List PyData} : ∀ r ∈ [(p, Ob.vol), (Tb, Ob.tab "law.<locals>.<lambda>"), (l, Ob.lst ds)], okW Tb "law.<locals>.<lambda>" r := fun r hr => by
  simp only [List.mem_cons, List.not_mem_nil, or_false] at hr
  rcases hr with rfl | rfl | rfl
  · trivial
  · exact ⟨rfl, rfl⟩
  · trivial
theorem okW2 {p Tb : Addr} : ∀ r ∈ [(p, Ob.vol), (Tb, Ob.tab "law.<locals>.<lambda>")], okW Tb "law.<locals>.<lambda>" r := fun r hr => by
  simp only [List.mem_cons, List.not_mem_nil, or_false] at hr
  rcases hr with rfl | rfl
  · trivial
  · exact ⟨rfl, rfl⟩
theorem over {m : Nat} (h : 20000 < m) (lo : Int) : isWhole lo 20000 (.int (m : Nat)) = false := decide_eq_false fun q => by omega
/-- a walk just made, whose method raises -/
theorem rcv_new {Cw : Addr} {g : Nat → List Nat → List Nat → List PyData → WO → Prop} {W : Rows} {mn : Str} {Ce : Addr} {n : Nat} {Es : List Nat} {ds : List PyData} {a dx e u : Addr} {v : V} (hv : v = .ref a) (hl : Es.length ≤ 100000) (hg : g n Es [] ds (.exc Ce)) (h1 : (mn == ("here" : Str)) = false) (h2 : (mn == ("earlier" : Str)) = false) (h3 : (mn == ("undone" : Str)) = false) :
    Rcv K Cw mn W (R_met Cw g) (ds.map .dat) Ce v (W ++ wRows Cw dx a n e u Es []) := ⟨a, dx, wF n e u, wRows Cw dx a n e u Es [], fun W' => W' = wRows Cw dx a n e u Es [], hv, rfl, List.mem_cons_self, at_none h1 h2 h3, wRows_plain, dx, a, n, e, u, Es, [], ds, .exc Ce, rfl, rfl, hl, Nat.zero_le _, hg, rfl⟩
/-- a new walk, within a deed -/
theorem ew_new {X : Cx} {B P0 H0 : Hp} {W : Rows} {ρ : List Sl} {E : XK} {e : Expr} {p1 pos : Pos} {Cw C0 : Addr} {j n : Nat} (M : MakW X.prog X.w X.K X.mg X.base "Walk" Cw 4 2 (R_init Cw C0)) (hr : Room j X.A) (hk : 5 ≤ j) (hp : Passes (L2N.CX X.prog X.w) X E) (h1 : 1 ≤ n) (h2 : n ≤ 20000) (he : DE X B P0 H0 W ρ true e (.int (n : Nat))) (hg : Gl X "Walk" := by rfl)
    (hs : starEach [e] X.env = (false, eval e X.env) :: starEach [] X.env := by rfl) (hpl : (backTo pos (starEach [] X.env)).any (·.1) = false := by rfl) : EW X B P0 H0 W ρ (.Call (.Name "Walk" p1) [e] [] pos) (.ret fun P' v W' => ∃ a dx W1, v = .ref a ∧ W' = W ++ W1 ∧ (V.non = .non ∧ ∃ e u, W1 = wRows Cw dx a n e u [] [])) E :=
  ew_make (T := fun a dx P' v W1 => v = .non ∧ ∃ e u, W1 = wRows Cw dx a n e u [] []) M hr hk hp (sa_dat he sa_nil hs) rfl (fun a dx => ⟨dx, a, _, rfl, rfl, (fun x h => by cases h), .inr ⟨n, h1, h2, rfl, rfl⟩⟩) (fun a dx P' v W1 h => h.1) hg (by decide) hs hpl
theorem all_made : ∀ i, i < 9 → ∀ C : Nat → Addr, ([excD (C 0), excD (C 1), excD (C 2), excD (C 3), excD (C 4), excD (C 5), excD (C 6), excD (C 7), excD (C 8)] : List PyData).getD i .none = excD (C i)
  | 0, _, _ => rfl
  | 1, _, _ => rfl
  | 2, _, _ => rfl
  | 3, _, _ => rfl
  | 4, _, _ => rfl
  | 5, _, _ => rfl
  | 6, _, _ => rfl
  | 7, _, _ => rfl
  | 8, _, _ => rfl
  | i + 9, h, _ => absurd h (by omega)
theorem ok_law {f g cd Tb CP Cw : Addr} {kV doc pm ct oc : Value} {an od : Option Addr} {osl : Array (Option Value)} {C : Nat → Addr} {fd : FuncData} (V : Env1 P w K mg base C Cw)
    (lk : K.lookup f = some ⟨oc, od, .func (PySem.W.fnOf "law" "law" (defArgs s_law) (defBody s_law) (defScope s_law) .none kV doc pm an (.ref cd) ct), osl⟩) (hcd : PySem.W.codeIn K (.ref cd) "law" = true) (TB : TabB base mg cd Tb)
    (Me : MetAll P w K mg base C g CP fd) :
    FnOk P w K mg base (L2N.CX P w) 9 f (PySem.W.fnOf "law" "law" (defArgs s_law) (defBody s_law) (defScope s_law) .none kV doc pm an (.ref cd) ct) ["_law_script"] (spLaw K Tb "law.<locals>.<lambda>") := by
  refine law_of lk hcd sc_law fun A outer s H a cs Q E hr hp hS hl hQ nt => ?_
  refine g_dice (rs := (List.range (max 1 (min (4 : Int) cs.length)).toNat).map (cellI cs)) 1 0 hp rfl sc_law.nd (de_callS V.rounds hr (by decide) hS (ds_v 0) de_int ⟨hl, by decide, by decide, rfl⟩) rfl ?_ (u_true hQ)
  intro p H0' N bk nt' hN
  have hu := hr.units
  have nd := sc_law.nd
  have hz : 100 < sizeLine := by decide
  refine g_setV 5 (dv_add (dv_int (I := (· = 20001)) de_int rfl) (dv_roll 1 0 V.roll hr (by decide) de_int ⟨by decide, by decide⟩)) ?_ nd
  rintro _ ⟨_, rfl, _, j, rfl, rfl, hj1, hj2⟩
  obtain ⟨m, hm⟩ : ∃ m : Nat, 20001 + j = m := ⟨(20001 + j).toNat, by omega⟩
  rw [hm]
  have hm1 : 20000 < m := by omega
  have hm2 : m ≤ 20100 := by omega
  have km : ((m : Int) - 1000) = ((m - 1000 : Nat) : Int) := by omega
  have ks : ((m : Int) % 60 + 1) = ((m % 60 + 1 : Nat) : Int) := by push_cast; rfl
  have kl : m % 60 < 60 := Nat.mod_lt _ (by decide)
  obtain ⟨q1, q2, q3⟩ := star_no (m % 60 + 1) (by omega) (by omega)
  have hparse : R_parse (C 4) [.str (starN (m % 60 + 1))] (.exc (C 4)) := by
    have := R_parse_str (C := C 4) q2 q3
    rw [q1] at this
    exact this
  refine g_setLst1 2 (dv_met (i := 0) (Me _ rfl rfl rfl rfl rfl) TB rfl rfl hr (V.kit 0 (by decide)) 1 nt' okW2 fun A outer s0 H E f c' hr' => ew_dcS (dc_call V.step hr' (by decide) lam_passes (da_cons (de_v 5) da_nil) rfl (R_num_bad (fun x h => by cases h) (over hm1 1)))) (fun l => ?_) nd
  refine g_appV (ds := [excD (C 0)]) 2 2 (dv_met (i := 1) (Me _ rfl rfl rfl rfl rfl) TB rfl rfl hr (V.kit 1 (by decide)) 1 nt' okW3 fun A outer s0 H E f c' hr' => ew_dcS (dc_call V.partsF hr' (by decide) lam_passes (da_cons de_int (da_cons (de_v 5) da_nil)) rfl ⟨6, _, by decide, by decide, (fun x h => by cases h), rfl, over hm1 0, rfl⟩)) ?_ (by show 1 < sizeLine; omega)
  refine g_appV (ds := [excD (C 0), excD (C 1)]) 2 2 (dv_met (i := 2) (Me _ rfl rfl rfl rfl rfl) TB rfl rfl hr (V.kit 2 (by decide)) 1 nt' okW3 fun A outer s0 H E f c' hr' => ew_dcS (dc_call V.roundsA hr' (by decide) lam_passes (da_cons (de_v 5) da_nil) rfl ⟨_, (fun x h => by cases h), rfl, over hm1 1, rfl⟩)) ?_ (by show 2 < sizeLine; omega)
  refine g_appV (ds := [excD (C 0), excD (C 1), excD (C 2)]) 2 2 (dv_met (i := 3) (Me _ rfl rfl rfl rfl rfl) TB rfl rfl hr (V.kit 3 (by decide)) 1 nt' okW3 fun A outer s0 H E f c' hr' => ew_methE (ρa := [.dat (.int (m : Nat))]) (ew_new (n := 6) V.make hr' (by decide) lam_passes (by decide) (by decide) de_int) V.wk.cls V.times hr' (by decide) lam_passes (fun W' => sa_dat (de_v 5) sa_nil) rfl ?g3) ?_ (by show 3 < sizeLine; omega)
  case g3 =>
    rintro P' v W' ⟨a, dx, W1, hv, rfl, _, e, u, rfl⟩
    exact rcv_new (ds := [.int (m : Nat)]) hv (by decide) ⟨_, (fun x h => by cases h), rfl, .inl ⟨decide_eq_false fun q => by omega, rfl⟩⟩ (by decide +kernel) (by decide +kernel) (by decide +kernel)
  refine g_appV (ds := [excD (C 0), excD (C 1), excD (C 2), excD (C 3)]) 2 2 (dv_met (i := 4) (Me _ rfl rfl rfl rfl rfl) TB rfl rfl hr (V.kit 4 (by decide)) 1 nt' okW3 fun A outer s0 H E f c' hr' => ew_dcS (dc_call V.parse hr' (by decide) lam_passes (da_cons (de_star (de_eq (de_add (de_mod (de_v 5) de_int (by decide)) de_int) (congrArg PyData.int ks)) (by omega) (by omega)) da_nil) rfl hparse)) ?_ (by show 4 < sizeLine; omega)
  refine g_appV (ds := [excD (C 0), excD (C 1), excD (C 2), excD (C 3), excD (C 4)]) 2 2 (dv_met (i := 5) (Me _ rfl rfl rfl rfl rfl) TB rfl rfl hr (V.kit 5 (by decide)) 1 nt' okW3 fun A outer s0 H E f c' hr' => ew_dcS (dc_call V.fore hr' (by decide) lam_passes (da_cons de_int da_nil) rfl ⟨rfl, rfl⟩)) ?_ (by show 5 < sizeLine; omega)
  refine g_appV (ds := [excD (C 0), excD (C 1), excD (C 2), excD (C 3), excD (C 4), excD (C 5)]) 2 2 (dv_met (i := 6) (Me _ rfl rfl rfl rfl rfl) TB rfl rfl hr (V.kit 6 (by decide)) 1 nt' okW3 fun A outer s0 H E f c' hr' => ew_methE0 (T1 := fun P' v W' => ∃ W1, W' = _ ++ W1 ∧ ∃ dx a e u, v = .ref a ∧ W1 = wRows Cw dx a 0 e u [1] []) (ew_call0 (ot := .ret fun P' v W' => ∃ dx a e u, v = .ref a ∧ W' = wRows Cw dx a 0 e u [1] []) V.stopped hr' (by decide) lam_passes (fun z => by cases z) ⟨rfl, rfl, rfl⟩) V.wk.cls V.go hr' (by decide) lam_passes ?g6) ?_ (by show 6 < sizeLine; omega)
  case g6 =>
    rintro P' v W' ⟨W1, rfl, dx, a, e, u, hv, rfl⟩
    exact rcv_new (ds := []) hv (by decide) ⟨rfl, (if_neg (by decide)).symm⟩ (by decide +kernel) (by decide +kernel) (by decide +kernel)
  refine g_appV (ds := [excD (C 0), excD (C 1), excD (C 2), excD (C 3), excD (C 4), excD (C 5), excD (C 6)]) 2 2 (dv_met (i := 7) (Me _ rfl rfl rfl rfl rfl) TB rfl rfl hr (V.kit 7 (by decide)) 1 nt' okW3 fun A outer s0 H E f c' hr' => ew_methE (ρa := [.dat (.int 2)]) (ew_new (n := m - 1000) V.make hr' (by decide) lam_passes (by omega) (by omega) (de_eq (de_sub (de_v 5) de_int) (congrArg PyData.int km))) V.wk.cls V.times hr' (by decide) lam_passes (fun W' => sa_dat de_int sa_nil) rfl ?g7) ?_ (by show 7 < sizeLine; omega)
  case g7 =>
    rintro P' v W' ⟨a, dx, W1, hv, rfl, _, e, u, rfl⟩
    refine rcv_new (ds := [.int 2]) hv (by decide) ⟨_, (fun x h => by cases h), rfl, .inr ⟨2, by decide, by decide, rfl, ?_⟩⟩ (by decide +kernel) (by decide +kernel) (by decide +kernel)
    unfold timesO
    rw [if_pos ⟨by omega, by omega⟩, if_pos (by omega)]
  refine g_appV (ds := [excD (C 0), excD (C 1), excD (C 2), excD (C 3), excD (C 4), excD (C 5), excD (C 6), excD (C 7)]) 2 2 (dv_met (i := 8) (Me _ rfl rfl rfl rfl rfl) TB rfl rfl hr (V.kit 8 (by decide)) 1 nt' okW3 fun A outer s0 H E f c' hr' => ew_methE0 (ew_new (n := 6) V.make hr' (by decide) lam_passes (by decide) (by decide) de_int) V.wk.cls V.redo hr' (by decide) lam_passes ?g8) ?_ (by show 8 < sizeLine; omega)
  case g8 =>
    rintro P' v W' ⟨a, dx, W1, hv, rfl, _, e, u, rfl⟩
    exact rcv_new (ds := []) hv (by decide) ⟨rfl, .inl ⟨rfl, rfl⟩⟩ (by decide +kernel) (by decide +kernel) (by decide +kernel)
  refine g_freeze (ds := [excD (C 0), excD (C 1), excD (C 2), excD (C 3), excD (C 4), excD (C 5), excD (C 6), excD (C 7), excD (C 8)]) 2 2 rfl rfl ?_
  refine g_no (dt_not (dt_val (m := true) (de_all (bs := List.replicate 9 true) V.all rfl (de_eq (de_lc (m := false) [("_law_at", 3), ("_law_e", 4)] (fun _ => true) (fun _ => .bool true) rfl nd (di_enum V.enum (de_v 2)) (by show 9 < sizeLine; omega) (blkOk_by (N := N_law) (sc := defScope s_law) (by decide +kernel)) (fun _ _ _ _ _ => pg_tup rfl (pgs_cons (pg_name nd rfl (Or.inl rfl)) (pgs_cons (pg_name nd rfl (Or.inl rfl)) pgs_nil))) (gb_pair K 3 4 (by decide) (by decide)) fun d hd => ?_) rfl)))) ?_
  · obtain ⟨i, hi, rfl⟩ := List.mem_map.mp hd
    have hi : i < 9 := List.mem_range.mp hi
    rw [all_made i hi C]
    exact ⟨_, ⟨_, _, rfl, rfl⟩, fun _ _ _ _ _ _ => ⟨dts_nil, fun _ => de_call V.alone hr (by decide) (da_cons (de_v 4) (da_cons (de_v 3) da_nil)) rfl ⟨i, V.kit i hi, rfl, rfl⟩⟩⟩
  · exact g_turn hN rfl
end
end Dv

namespace Dv
open PySem PySem.Spec PyProof.Rows L2 Dw Mi Hz LamX
theorem all_mk {l : PySem.W.OpenLaw} {w : World} {K : PySem.W.Frag} {h : Heap} {mg : Str → Option Value} {fa : Addr} (X : K.In h) (G : h.Ns mainGlobals mg) (hfa : mg "law" = some (.ref fa)) (ow : OwnTab K fa h)
    {f0 : Addr} {od0 an0 : Option Addr} {sl0 : Array (Option Value)} {oc0 kV0 dc0 pm0 cd0 ct0 : Value}
    {f1 : Addr} {od1 an1 : Option Addr} {sl1 : Array (Option Value)} {oc1 kV1 dc1 pm1 cd1 ct1 : Value}
    {f2 : Addr} {od2 an2 : Option Addr} {sl2 : Array (Option Value)} {oc2 kV2 dc2 pm2 cd2 ct2 : Value}
    {f3 : Addr} {od3 an3 : Option Addr} {sl3 : Array (Option Value)} {oc3 kV3 dc3 pm3 cd3 ct3 : Value}
    {f4 : Addr} {od4 an4 : Option Addr} {sl4 : Array (Option Value)} {oc4 kV4 dc4 pm4 cd4 ct4 : Value}
    {f5 : Addr} {od5 an5 : Option Addr} {sl5 : Array (Option Value)} {oc5 kV5 dc5 pm5 cd5 ct5 : Value}
    {f6 : Addr} {od6 an6 : Option Addr} {sl6 : Array (Option Value)} {oc6 kV6 dc6 pm6 cd6 ct6 : Value}
    {f7 : Addr} {od7 an7 : Option Addr} {sl7 : Array (Option Value)} {oc7 kV7 dc7 pm7 cd7 ct7 : Value}
    {f8 : Addr} {od8 an8 : Option Addr} {sl8 : Array (Option Value)} {oc8 kV8 dc8 pm8 cd8 ct8 : Value}
    {f9 : Addr} {od9 an9 : Option Addr} {sl9 : Array (Option Value)} {oc9 kV9 dc9 pm9 cd9 ct9 : Value}
    {f10 : Addr} {od10 an10 : Option Addr} {sl10 : Array (Option Value)} {oc10 kV10 dc10 pm10 cd10 ct10 : Value}
    {f11 : Addr} {od11 an11 : Option Addr} {sl11 : Array (Option Value)} {oc11 kV11 dc11 pm11 cd11 ct11 : Value}
    {f12 : Addr} {od12 an12 : Option Addr} {sl12 : Array (Option Value)} {oc12 kV12 dc12 pm12 cd12 ct12 : Value}
    {f13 : Addr} {od13 an13 : Option Addr} {sl13 : Array (Option Value)} {oc13 kV13 dc13 pm13 cd13 ct13 : Value}
    {f14 : Addr} {od14 an14 : Option Addr} {sl14 : Array (Option Value)} {oc14 kV14 dc14 pm14 cd14 ct14 : Value}
    {f15 : Addr} {od15 an15 : Option Addr} {sl15 : Array (Option Value)} {oc15 kV15 dc15 pm15 cd15 ct15 : Value}
    {f16 : Addr} {od16 an16 : Option Addr} {sl16 : Array (Option Value)} {oc16 kV16 dc16 pm16 cd16 ct16 : Value}
    {f17 : Addr} {od17 an17 : Option Addr} {sl17 : Array (Option Value)} {oc17 kV17 dc17 pm17 cd17 ct17 : Value}
    {f18 : Addr} {od18 an18 : Option Addr} {sl18 : Array (Option Value)} {oc18 kV18 dc18 pm18 cd18 ct18 : Value}
    {f19 : Addr} {od19 an19 : Option Addr} {sl19 : Array (Option Value)} {oc19 kV19 dc19 pm19 cd19 ct19 : Value}
    {f20 : Addr} {od20 an20 : Option Addr} {sl20 : Array (Option Value)} {oc20 kV20 dc20 pm20 cd20 ct20 : Value}
    {f21 : Addr} {od21 an21 : Option Addr} {sl21 : Array (Option Value)} {oc21 kV21 dc21 pm21 cd21 ct21 : Value}
    {f22 : Addr} {od22 an22 : Option Addr} {sl22 : Array (Option Value)} {oc22 kV22 dc22 pm22 cd22 ct22 : Value}
    {f23 : Addr} {od23 an23 : Option Addr} {sl23 : Array (Option Value)} {oc23 kV23 dc23 pm23 cd23 ct23 : Value}
    {fL cL Tb : Addr} {odL anL : Option Addr} {slL : Array (Option Value)} {ocL kVL dcL pmL ctL : Value}
    {ddC : Option Addr} {vsC : Array Value} {slC : Array (Option Value)}
    {CW : Addr}
    {fm0 : Addr} {odm0 anm0 : Option Addr} {slm0 : Array (Option Value)} {ocm0 kVm0 dcm0 pmm0 cdm0 ctm0 : Value}
    {fm1 : Addr} {odm1 anm1 : Option Addr} {slm1 : Array (Option Value)} {ocm1 kVm1 dcm1 pmm1 cdm1 ctm1 : Value}
    {fm2 : Addr} {odm2 anm2 : Option Addr} {slm2 : Array (Option Value)} {ocm2 kVm2 dcm2 pmm2 cdm2 ctm2 : Value}
    {fm3 : Addr} {odm3 anm3 : Option Addr} {slm3 : Array (Option Value)} {ocm3 kVm3 dcm3 pmm3 cdm3 ctm3 : Value}
    {fm6 : Addr} {odm6 anm6 : Option Addr} {slm6 : Array (Option Value)} {ocm6 kVm6 dcm6 pmm6 cdm6 ctm6 : Value}
    {u0 : Tok}
    {CP C0 C1 C2 C3 C4 C5 C6 C7 C8 : Addr}
    (a0 : PySem.W.nsIn K mainGlobals "is_whole" = some (some (.ref f0)))
    (l0 : K.lookup f0 = some ⟨oc0, od0, .func (PySem.W.fnOf "is_whole" "is_whole" (defArgs s_is_whole) (defBody s_is_whole) (defScope s_is_whole) .none kV0 dc0 pm0 an0 cd0 ct0), sl0⟩)
    (c0 : PySem.W.codeIn K cd0 "is_whole" = true)
    (k0 : PySem.W.keepIn K (.ref f0) = true)
    (a1 : PySem.W.nsIn K mainGlobals "is_number" = some (some (.ref f1)))
    (l1 : K.lookup f1 = some ⟨oc1, od1, .func (PySem.W.fnOf "is_number" "is_number" (defArgs s_is_number) (defBody s_is_number) (defScope s_is_number) .none kV1 dc1 pm1 an1 cd1 ct1), sl1⟩)
    (c1 : PySem.W.codeIn K cd1 "is_number" = true)
    (k1 : PySem.W.keepIn K (.ref f1) = true)
    (a2 : PySem.W.nsIn K mainGlobals "need_number" = some (some (.ref f2)))
    (l2 : K.lookup f2 = some ⟨oc2, od2, .func (PySem.W.fnOf "need_number" "need_number" (defArgs s_need_number) (defBody s_need_number) (defScope s_need_number) .none kV2 dc2 pm2 an2 cd2 ct2), sl2⟩)
    (c2 : PySem.W.codeIn K cd2 "need_number" = true)
    (k2 : PySem.W.keepIn K (.ref f2) = true)
    (a3 : PySem.W.nsIn K mainGlobals "factors_of" = some (some (.ref f3)))
    (l3 : K.lookup f3 = some ⟨oc3, od3, .func (PySem.W.fnOf "factors_of" "factors_of" (defArgs s_factors_of) (defBody s_factors_of) (defScope s_factors_of) .none kV3 dc3 pm3 an3 cd3 ct3), sl3⟩)
    (c3 : PySem.W.codeIn K cd3 "factors_of" = true)
    (k3 : PySem.W.keepIn K (.ref f3) = true)
    (a4 : PySem.W.nsIn K mainGlobals "sum_of_all" = some (some (.ref f4)))
    (l4 : K.lookup f4 = some ⟨oc4, od4, .func (PySem.W.fnOf "sum_of_all" "sum_of_all" (defArgs s_sum_of_all) (defBody s_sum_of_all) (defScope s_sum_of_all) .none kV4 dc4 pm4 an4 cd4 ct4), sl4⟩)
    (c4 : PySem.W.codeIn K cd4 "sum_of_all" = true)
    (k4 : PySem.W.keepIn K (.ref f4) = true)
    (a5 : PySem.W.nsIn K mainGlobals "stepped" = some (some (.ref f5)))
    (l5 : K.lookup f5 = some ⟨oc5, od5, .func (PySem.W.fnOf "stepped" "stepped" (defArgs s_stepped) (defBody s_stepped) (defScope s_stepped) .none kV5 dc5 pm5 an5 cd5 ct5), sl5⟩)
    (c5 : PySem.W.codeIn K cd5 "stepped" = true)
    (k5 : PySem.W.keepIn K (.ref f5) = true)
    (a6 : PySem.W.nsIn K mainGlobals "step" = some (some (.ref f6)))
    (l6 : K.lookup f6 = some ⟨oc6, od6, .func (PySem.W.fnOf "step" "step" (defArgs s_step) (defBody s_step) (defScope s_step) .none kV6 dc6 pm6 an6 cd6 ct6), sl6⟩)
    (c6 : PySem.W.codeIn K cd6 "step" = true)
    (k6 : PySem.W.keepIn K (.ref f6) = true)
    (a7 : PySem.W.nsIn K mainGlobals "need_both" = some (some (.ref f7)))
    (l7 : K.lookup f7 = some ⟨oc7, od7, .func (PySem.W.fnOf "need_both" "need_both" (defArgs s_need_both) (defBody s_need_both) (defScope s_need_both) .none kV7 dc7 pm7 an7 cd7 ct7), sl7⟩)
    (c7 : PySem.W.codeIn K cd7 "need_both" = true)
    (k7 : PySem.W.keepIn K (.ref f7) = true)
    (a8 : PySem.W.nsIn K mainGlobals "parts_for" = some (some (.ref f8)))
    (l8 : K.lookup f8 = some ⟨oc8, od8, .func (PySem.W.fnOf "parts_for" "parts_for" (defArgs s_parts_for) (defBody s_parts_for) (defScope s_parts_for) .none kV8 dc8 pm8 an8 cd8 ct8), sl8⟩)
    (c8 : PySem.W.codeIn K cd8 "parts_for" = true)
    (k8 : PySem.W.keepIn K (.ref f8) = true)
    (a9 : PySem.W.nsIn K mainGlobals "need_limit" = some (some (.ref f9)))
    (l9 : K.lookup f9 = some ⟨oc9, od9, .func (PySem.W.fnOf "need_limit" "need_limit" (defArgs s_need_limit) (defBody s_need_limit) (defScope s_need_limit) .none kV9 dc9 pm9 an9 cd9 ct9), sl9⟩)
    (c9 : PySem.W.codeIn K cd9 "need_limit" = true)
    (k9 : PySem.W.keepIn K (.ref f9) = true)
    (a10 : PySem.W.nsIn K mainGlobals "all_rounds" = some (some (.ref f10)))
    (l10 : K.lookup f10 = some ⟨oc10, od10, .func (PySem.W.fnOf "all_rounds" "all_rounds" (defArgs s_all_rounds) (defBody s_all_rounds) (defScope s_all_rounds) .none kV10 dc10 pm10 an10 cd10 ct10), sl10⟩)
    (c10 : PySem.W.codeIn K cd10 "all_rounds" = true)
    (k10 : PySem.W.keepIn K (.ref f10) = true)
    (a11 : PySem.W.nsIn K mainGlobals "need_goal" = some (some (.ref f11)))
    (l11 : K.lookup f11 = some ⟨oc11, od11, .func (PySem.W.fnOf "need_goal" "need_goal" (defArgs s_need_goal) (defBody s_need_goal) (defScope s_need_goal) .none kV11 dc11 pm11 an11 cd11 ct11), sl11⟩)
    (c11 : PySem.W.codeIn K cd11 "need_goal" = true)
    (k11 : PySem.W.keepIn K (.ref f11) = true)
    (a12 : PySem.W.nsIn K mainGlobals "forerunners" = some (some (.ref f12)))
    (l12 : K.lookup f12 = some ⟨oc12, od12, .func (PySem.W.fnOf "forerunners" "forerunners" (defArgs s_forerunners) (defBody s_forerunners) (defScope s_forerunners) .none kV12 dc12 pm12 an12 cd12 ct12), sl12⟩)
    (c12 : PySem.W.codeIn K cd12 "forerunners" = true)
    (k12 : PySem.W.keepIn K (.ref f12) = true)
    (a13 : PySem.W.nsIn K mainGlobals "written" = some (some (.ref f13)))
    (l13 : K.lookup f13 = some ⟨oc13, od13, .func (PySem.W.fnOf "written" "written" (defArgs s_written) (defBody s_written) (defScope s_written) .none kV13 dc13 pm13 an13 cd13 ct13), sl13⟩)
    (c13 : PySem.W.codeIn K cd13 "written" = true)
    (k13 : PySem.W.keepIn K (.ref f13) = true)
    (a14 : PySem.W.nsIn K mainGlobals "integer_of" = some (some (.ref f14)))
    (l14 : K.lookup f14 = some ⟨oc14, od14, .func (PySem.W.fnOf "integer_of" "integer_of" (defArgs s_integer_of) (defBody s_integer_of) (defScope s_integer_of) .none kV14 dc14 pm14 an14 cd14 ct14), sl14⟩)
    (c14 : PySem.W.codeIn K cd14 "integer_of" = true)
    (k14 : PySem.W.keepIn K (.ref f14) = true)
    (a15 : PySem.W.nsIn K mainGlobals "power_of" = some (some (.ref f15)))
    (l15 : K.lookup f15 = some ⟨oc15, od15, .func (PySem.W.fnOf "power_of" "power_of" (defArgs s_power_of) (defBody s_power_of) (defScope s_power_of) .none kV15 dc15 pm15 an15 cd15 ct15), sl15⟩)
    (c15 : PySem.W.codeIn K cd15 "power_of" = true)
    (k15 : PySem.W.keepIn K (.ref f15) = true)
    (a16 : PySem.W.nsIn K mainGlobals "parse_factors" = some (some (.ref f16)))
    (l16 : K.lookup f16 = some ⟨oc16, od16, .func (PySem.W.fnOf "parse_factors" "parse_factors" (defArgs s_parse_factors) (defBody s_parse_factors) (defScope s_parse_factors) .none kV16 dc16 pm16 an16 cd16 ct16), sl16⟩)
    (c16 : PySem.W.codeIn K cd16 "parse_factors" = true)
    (k16 : PySem.W.keepIn K (.ref f16) = true)
    (a17 : PySem.W.nsIn K mainGlobals "_law_cell" = some (some (.ref f17)))
    (l17 : K.lookup f17 = some ⟨oc17, od17, .func (PySem.W.fnOf "_law_cell" "_law_cell" (defArgs s_cell) (defBody s_cell) (defScope s_cell) .none kV17 dc17 pm17 an17 cd17 ct17), sl17⟩)
    (c17 : PySem.W.codeIn K cd17 "_law_cell" = true)
    (k17 : PySem.W.keepIn K (.ref f17) = true)
    (a18 : PySem.W.nsIn K mainGlobals "_law_drawn" = some (some (.ref f18)))
    (l18 : K.lookup f18 = some ⟨oc18, od18, .func (PySem.W.fnOf "_law_drawn" "_law_drawn" (defArgs s_drawn) (defBody s_drawn) (defScope s_drawn) .none kV18 dc18 pm18 an18 cd18 ct18), sl18⟩)
    (c18 : PySem.W.codeIn K cd18 "_law_drawn" = true)
    (k18 : PySem.W.keepIn K (.ref f18) = true)
    (a19 : PySem.W.nsIn K mainGlobals "_law_roll" = some (some (.ref f19)))
    (l19 : K.lookup f19 = some ⟨oc19, od19, .func (PySem.W.fnOf "_law_roll" "_law_roll" (defArgs s_roll) (defBody s_roll) (defScope s_roll) .none kV19 dc19 pm19 an19 cd19 ct19), sl19⟩)
    (c19 : PySem.W.codeIn K cd19 "_law_roll" = true)
    (k19 : PySem.W.keepIn K (.ref f19) = true)
    (a20 : PySem.W.nsIn K mainGlobals "_law_rounds" = some (some (.ref f20)))
    (l20 : K.lookup f20 = some ⟨oc20, od20, .func (PySem.W.fnOf "_law_rounds" "_law_rounds" (defArgs s_rounds) (defBody s_rounds) (defScope s_rounds) .none kV20 dc20 pm20 an20 cd20 ct20), sl20⟩)
    (c20 : PySem.W.codeIn K cd20 "_law_rounds" = true)
    (k20 : PySem.W.keepIn K (.ref f20) = true)
    (a21 : PySem.W.nsIn K mainGlobals "_law_met" = some (some (.ref f21)))
    (l21 : K.lookup f21 = some ⟨oc21, od21, .func (PySem.W.fnOf "_law_met" "_law_met" (defArgs s_met) (defBody s_met) (defScope s_met) .none kV21 dc21 pm21 an21 cd21 ct21), sl21⟩)
    (c21 : PySem.W.codeIn K cd21 "_law_met" = true)
    (k21 : PySem.W.keepIn K (.ref f21) = true)
    (a22 : PySem.W.nsIn K mainGlobals "_law_alone" = some (some (.ref f22)))
    (l22 : K.lookup f22 = some ⟨oc22, od22, .func (PySem.W.fnOf "_law_alone" "_law_alone" (defArgs s_alone) (defBody s_alone) (defScope s_alone) .none kV22 dc22 pm22 an22 cd22 ct22), sl22⟩)
    (c22 : PySem.W.codeIn K cd22 "_law_alone" = true)
    (k22 : PySem.W.keepIn K (.ref f22) = true)
    (a23 : PySem.W.nsIn K mainGlobals "_law_stopped" = some (some (.ref f23)))
    (l23 : K.lookup f23 = some ⟨oc23, od23, .func (PySem.W.fnOf "_law_stopped" "_law_stopped" (defArgs s_stopped) (defBody s_stopped) (defScope s_stopped) .none kV23 dc23 pm23 an23 cd23 ct23), sl23⟩)
    (c23 : PySem.W.codeIn K cd23 "_law_stopped" = true)
    (k23 : PySem.W.keepIn K (.ref f23) = true)
    (aL : PySem.W.nsIn K mainGlobals "law" = some (some (.ref fL)))
    (lL : K.lookup fL = some ⟨ocL, odL, .func (PySem.W.fnOf "law" "law" (defArgs s_law) (defBody s_law) (defScope s_law) .none kVL dcL pmL anL (.ref cL) ctL), slL⟩)
    (cdL : PySem.W.codeIn K (.ref cL) "law" = true)
    (kL : K.lookup cL = some ⟨.type "code", ddC, .fields vsC, slC⟩)
    (iL : vsC[11]? = some (.ref Tb))
    (vL : hdVs vsC = true)
    (nL : (cL != Tb) = true)
    (tL : K.lookup Tb = none)
    (aW : PySem.W.nsIn K mainGlobals "Walk" = some (some (.ref CW)))
    (pgW : PySem.W.plainGet K CW Str.empty = true)
    (hdW : PySem.W.hasDictIn K CW = true)
    (poW : PySem.W.plainOver K CW = true)
    (saW : PySem.W.findIn K (.ref CW) "__setattr__" = some (some (.builtin "object.__setattr__")))
    (mkW : PySem.W.makesIn K CW = true)
    (kcW : PySem.W.keepIn K (.ref CW) = true)
    (nW0 : PySem.W.findIn K (.ref CW) "here" = some none)
    (nW1 : PySem.W.findIn K (.ref CW) "earlier" = some none)
    (nW2 : PySem.W.findIn K (.ref CW) "undone" = some none)
    (am0 : PySem.W.findIn K (.ref CW) "__init__" = some (some (.ref fm0)))
    (im0 : PySem.W.isFn K (.ref fm0) = true)
    (lm0 : K.lookup fm0 = some ⟨ocm0, odm0, .func (PySem.W.fnOf "__init__" "Walk.__init__" (defArgs (s_W 0)) (defBody (s_W 0)) (defScope (s_W 0)) .none kVm0 dcm0 pmm0 anm0 cdm0 ctm0), slm0⟩)
    (cm0 : PySem.W.codeIn K cdm0 "Walk.__init__" = true)
    (km0 : PySem.W.keepIn K (.ref fm0) = true)
    (am1 : PySem.W.findIn K (.ref CW) "change" = some (some (.ref fm1)))
    (im1 : PySem.W.isFn K (.ref fm1) = true)
    (lm1 : K.lookup fm1 = some ⟨ocm1, odm1, .func (PySem.W.fnOf "change" "Walk.change" (defArgs (s_W 1)) (defBody (s_W 1)) (defScope (s_W 1)) .none kVm1 dcm1 pmm1 anm1 cdm1 ctm1), slm1⟩)
    (cm1 : PySem.W.codeIn K cdm1 "Walk.change" = true)
    (km1 : PySem.W.keepIn K (.ref fm1) = true)
    (am2 : PySem.W.findIn K (.ref CW) "go" = some (some (.ref fm2)))
    (im2 : PySem.W.isFn K (.ref fm2) = true)
    (lm2 : K.lookup fm2 = some ⟨ocm2, odm2, .func (PySem.W.fnOf "go" "Walk.go" (defArgs (s_W 2)) (defBody (s_W 2)) (defScope (s_W 2)) .none kVm2 dcm2 pmm2 anm2 cdm2 ctm2), slm2⟩)
    (cm2 : PySem.W.codeIn K cdm2 "Walk.go" = true)
    (km2 : PySem.W.keepIn K (.ref fm2) = true)
    (am3 : PySem.W.findIn K (.ref CW) "times" = some (some (.ref fm3)))
    (im3 : PySem.W.isFn K (.ref fm3) = true)
    (lm3 : K.lookup fm3 = some ⟨ocm3, odm3, .func (PySem.W.fnOf "times" "Walk.times" (defArgs (s_W 3)) (defBody (s_W 3)) (defScope (s_W 3)) .none kVm3 dcm3 pmm3 anm3 cdm3 ctm3), slm3⟩)
    (cm3 : PySem.W.codeIn K cdm3 "Walk.times" = true)
    (km3 : PySem.W.keepIn K (.ref fm3) = true)
    (am6 : PySem.W.findIn K (.ref CW) "redo" = some (some (.ref fm6)))
    (im6 : PySem.W.isFn K (.ref fm6) = true)
    (lm6 : K.lookup fm6 = some ⟨ocm6, odm6, .func (PySem.W.fnOf "redo" "Walk.redo" (defArgs (s_W 6)) (defBody (s_W 6)) (defScope (s_W 6)) .none kVm6 dcm6 pmm6 anm6 cdm6 ctm6), slm6⟩)
    (cm6 : PySem.W.codeIn K cdm6 "Walk.redo" = true)
    (km6 : PySem.W.keepIn K (.ref fm6) = true)
    (z0 : PySem.W.nsIn K mainGlobals "isinstance" = some none)
    (z1 : PySem.W.nsIn K mainGlobals "int" = some none)
    (z2 : PySem.W.nsIn K mainGlobals "bool" = some none)
    (z3 : PySem.W.nsIn K mainGlobals "range" = some none)
    (z4 : PySem.W.nsIn K mainGlobals "str" = some none)
    (z5 : PySem.W.nsIn K mainGlobals "all" = some none)
    (z6 : PySem.W.nsIn K mainGlobals "len" = some none)
    (z7 : PySem.W.nsIn K mainGlobals "max" = some none)
    (z8 : PySem.W.nsIn K mainGlobals "min" = some none)
    (z9 : PySem.W.nsIn K mainGlobals "sum" = some none)
    (z10 : PySem.W.nsIn K mainGlobals "enumerate" = some none)
    (z11 : PySem.W.nsIn K mainGlobals "ValueError" = some none)
    (y0 : PySem.W.nsIn K mainGlobals "BOUND" = some (some (.int 20000 u0)))
    (e0 : PySem.W.nsIn K mainGlobals "InvalidNumber" = some (some (.ref C0)))
    (e1 : PySem.W.nsIn K mainGlobals "InvalidGoal" = some (some (.ref C1)))
    (e2 : PySem.W.nsIn K mainGlobals "InvalidLimit" = some (some (.ref C2)))
    (e3 : PySem.W.nsIn K mainGlobals "InvalidFactor" = some (some (.ref C3)))
    (e4 : PySem.W.nsIn K mainGlobals "InvalidText" = some (some (.ref C4)))
    (e5 : PySem.W.nsIn K mainGlobals "AllPrimes" = some (some (.ref C5)))
    (e6 : PySem.W.nsIn K mainGlobals "Stopped" = some (some (.ref C6)))
    (e7 : PySem.W.nsIn K mainGlobals "TooGreat" = some (some (.ref C7)))
    (e8 : PySem.W.nsIn K mainGlobals "NothingToUndo" = some (some (.ref C8)))
    (eP : PySem.W.nsIn K mainGlobals "PartError" = some (some (.ref CP)))
    (xa0 : PySem.W.excIn K C0 [.type "ValueError", .type "Exception", .type "BaseException", .type "object"] "ValueError.__new__" = true)
    (xb0 : PySem.W.keepIn K (.ref C0) = true)
    (xc0 : PySem.W.subIn K (.ref C0) (.type "BaseException") = some true)
    (xd0 : PySem.W.typeIn K (.ref C0) = some (.type "type"))
    (xe0 : PySem.W.findIn K (.ref C0) "__getattribute__" = some (some (.builtin "BaseException.__getattribute__")))
    (xf0 : PySem.W.findIn K (.ref C0) "__getattr__" = some none)
    (xg0 : PySem.W.hasDictIn K C0 = true)
    (xh0 : PySem.W.findIn K (.ref C0) "__class__" = some (some (.builtin "object.__class__")))
    (xi0 : PySem.W.mroIn K C0 (.type "object") = some true)
    (xj0 : PySem.W.subIn K (.ref C0) (.type "ValueError") = some true)
    (xk0 : PySem.W.subIn K (.ref C0) (.ref CP) = some true)
    (q0_1 : PySem.W.subIn K (.ref C0) (.ref C1) = some false)
    (r0_1 : ((Value.ref C0) == (Value.ref C1)) = false)
    (q0_2 : PySem.W.subIn K (.ref C0) (.ref C2) = some false)
    (r0_2 : ((Value.ref C0) == (Value.ref C2)) = false)
    (q0_3 : PySem.W.subIn K (.ref C0) (.ref C3) = some false)
    (r0_3 : ((Value.ref C0) == (Value.ref C3)) = false)
    (q0_4 : PySem.W.subIn K (.ref C0) (.ref C4) = some false)
    (r0_4 : ((Value.ref C0) == (Value.ref C4)) = false)
    (q0_5 : PySem.W.subIn K (.ref C0) (.ref C5) = some false)
    (r0_5 : ((Value.ref C0) == (Value.ref C5)) = false)
    (q0_6 : PySem.W.subIn K (.ref C0) (.ref C6) = some false)
    (r0_6 : ((Value.ref C0) == (Value.ref C6)) = false)
    (q0_7 : PySem.W.subIn K (.ref C0) (.ref C7) = some false)
    (r0_7 : ((Value.ref C0) == (Value.ref C7)) = false)
    (q0_8 : PySem.W.subIn K (.ref C0) (.ref C8) = some false)
    (r0_8 : ((Value.ref C0) == (Value.ref C8)) = false)
    (xa1 : PySem.W.excIn K C1 [.type "ValueError", .type "Exception", .type "BaseException", .type "object"] "ValueError.__new__" = true)
    (xb1 : PySem.W.keepIn K (.ref C1) = true)
    (xc1 : PySem.W.subIn K (.ref C1) (.type "BaseException") = some true)
    (xd1 : PySem.W.typeIn K (.ref C1) = some (.type "type"))
    (xe1 : PySem.W.findIn K (.ref C1) "__getattribute__" = some (some (.builtin "BaseException.__getattribute__")))
    (xf1 : PySem.W.findIn K (.ref C1) "__getattr__" = some none)
    (xg1 : PySem.W.hasDictIn K C1 = true)
    (xh1 : PySem.W.findIn K (.ref C1) "__class__" = some (some (.builtin "object.__class__")))
    (xi1 : PySem.W.mroIn K C1 (.type "object") = some true)
    (xj1 : PySem.W.subIn K (.ref C1) (.type "ValueError") = some true)
    (xk1 : PySem.W.subIn K (.ref C1) (.ref CP) = some true)
    (q1_0 : PySem.W.subIn K (.ref C1) (.ref C0) = some false)
    (r1_0 : ((Value.ref C1) == (Value.ref C0)) = false)
    (q1_2 : PySem.W.subIn K (.ref C1) (.ref C2) = some false)
    (r1_2 : ((Value.ref C1) == (Value.ref C2)) = false)
    (q1_3 : PySem.W.subIn K (.ref C1) (.ref C3) = some false)
    (r1_3 : ((Value.ref C1) == (Value.ref C3)) = false)
    (q1_4 : PySem.W.subIn K (.ref C1) (.ref C4) = some false)
    (r1_4 : ((Value.ref C1) == (Value.ref C4)) = false)
    (q1_5 : PySem.W.subIn K (.ref C1) (.ref C5) = some false)
    (r1_5 : ((Value.ref C1) == (Value.ref C5)) = false)
    (q1_6 : PySem.W.subIn K (.ref C1) (.ref C6) = some false)
    (r1_6 : ((Value.ref C1) == (Value.ref C6)) = false)
    (q1_7 : PySem.W.subIn K (.ref C1) (.ref C7) = some false)
    (r1_7 : ((Value.ref C1) == (Value.ref C7)) = false)
    (q1_8 : PySem.W.subIn K (.ref C1) (.ref C8) = some false)
    (r1_8 : ((Value.ref C1) == (Value.ref C8)) = false)
    (xa2 : PySem.W.excIn K C2 [.type "ValueError", .type "Exception", .type "BaseException", .type "object"] "ValueError.__new__" = true)
    (xb2 : PySem.W.keepIn K (.ref C2) = true)
    (xc2 : PySem.W.subIn K (.ref C2) (.type "BaseException") = some true)
    (xd2 : PySem.W.typeIn K (.ref C2) = some (.type "type"))
    (xe2 : PySem.W.findIn K (.ref C2) "__getattribute__" = some (some (.builtin "BaseException.__getattribute__")))
    (xf2 : PySem.W.findIn K (.ref C2) "__getattr__" = some none)
    (xg2 : PySem.W.hasDictIn K C2 = true)
    (xh2 : PySem.W.findIn K (.ref C2) "__class__" = some (some (.builtin "object.__class__")))
    (xi2 : PySem.W.mroIn K C2 (.type "object") = some true)
    (xj2 : PySem.W.subIn K (.ref C2) (.type "ValueError") = some true)
    (xk2 : PySem.W.subIn K (.ref C2) (.ref CP) = some true)
    (q2_0 : PySem.W.subIn K (.ref C2) (.ref C0) = some false)
    (r2_0 : ((Value.ref C2) == (Value.ref C0)) = false)
    (q2_1 : PySem.W.subIn K (.ref C2) (.ref C1) = some false)
    (r2_1 : ((Value.ref C2) == (Value.ref C1)) = false)
    (q2_3 : PySem.W.subIn K (.ref C2) (.ref C3) = some false)
    (r2_3 : ((Value.ref C2) == (Value.ref C3)) = false)
    (q2_4 : PySem.W.subIn K (.ref C2) (.ref C4) = some false)
    (r2_4 : ((Value.ref C2) == (Value.ref C4)) = false)
    (q2_5 : PySem.W.subIn K (.ref C2) (.ref C5) = some false)
    (r2_5 : ((Value.ref C2) == (Value.ref C5)) = false)
    (q2_6 : PySem.W.subIn K (.ref C2) (.ref C6) = some false)
    (r2_6 : ((Value.ref C2) == (Value.ref C6)) = false)
    (q2_7 : PySem.W.subIn K (.ref C2) (.ref C7) = some false)
    (r2_7 : ((Value.ref C2) == (Value.ref C7)) = false)
    (q2_8 : PySem.W.subIn K (.ref C2) (.ref C8) = some false)
    (r2_8 : ((Value.ref C2) == (Value.ref C8)) = false)
    (xa3 : PySem.W.excIn K C3 [.type "ValueError", .type "Exception", .type "BaseException", .type "object"] "ValueError.__new__" = true)
    (xb3 : PySem.W.keepIn K (.ref C3) = true)
    (xc3 : PySem.W.subIn K (.ref C3) (.type "BaseException") = some true)
    (xd3 : PySem.W.typeIn K (.ref C3) = some (.type "type"))
    (xe3 : PySem.W.findIn K (.ref C3) "__getattribute__" = some (some (.builtin "BaseException.__getattribute__")))
    (xf3 : PySem.W.findIn K (.ref C3) "__getattr__" = some none)
    (xg3 : PySem.W.hasDictIn K C3 = true)
    (xh3 : PySem.W.findIn K (.ref C3) "__class__" = some (some (.builtin "object.__class__")))
    (xi3 : PySem.W.mroIn K C3 (.type "object") = some true)
    (xj3 : PySem.W.subIn K (.ref C3) (.type "ValueError") = some true)
    (xk3 : PySem.W.subIn K (.ref C3) (.ref CP) = some true)
    (q3_0 : PySem.W.subIn K (.ref C3) (.ref C0) = some false)
    (r3_0 : ((Value.ref C3) == (Value.ref C0)) = false)
    (q3_1 : PySem.W.subIn K (.ref C3) (.ref C1) = some false)
    (r3_1 : ((Value.ref C3) == (Value.ref C1)) = false)
    (q3_2 : PySem.W.subIn K (.ref C3) (.ref C2) = some false)
    (r3_2 : ((Value.ref C3) == (Value.ref C2)) = false)
    (q3_4 : PySem.W.subIn K (.ref C3) (.ref C4) = some false)
    (r3_4 : ((Value.ref C3) == (Value.ref C4)) = false)
    (q3_5 : PySem.W.subIn K (.ref C3) (.ref C5) = some false)
    (r3_5 : ((Value.ref C3) == (Value.ref C5)) = false)
    (q3_6 : PySem.W.subIn K (.ref C3) (.ref C6) = some false)
    (r3_6 : ((Value.ref C3) == (Value.ref C6)) = false)
    (q3_7 : PySem.W.subIn K (.ref C3) (.ref C7) = some false)
    (r3_7 : ((Value.ref C3) == (Value.ref C7)) = false)
    (q3_8 : PySem.W.subIn K (.ref C3) (.ref C8) = some false)
    (r3_8 : ((Value.ref C3) == (Value.ref C8)) = false)
    (xa4 : PySem.W.excIn K C4 [.type "ValueError", .type "Exception", .type "BaseException", .type "object"] "ValueError.__new__" = true)
    (xb4 : PySem.W.keepIn K (.ref C4) = true)
    (xc4 : PySem.W.subIn K (.ref C4) (.type "BaseException") = some true)
    (xd4 : PySem.W.typeIn K (.ref C4) = some (.type "type"))
    (xe4 : PySem.W.findIn K (.ref C4) "__getattribute__" = some (some (.builtin "BaseException.__getattribute__")))
    (xf4 : PySem.W.findIn K (.ref C4) "__getattr__" = some none)
    (xg4 : PySem.W.hasDictIn K C4 = true)
    (xh4 : PySem.W.findIn K (.ref C4) "__class__" = some (some (.builtin "object.__class__")))
    (xi4 : PySem.W.mroIn K C4 (.type "object") = some true)
    (xj4 : PySem.W.subIn K (.ref C4) (.type "ValueError") = some true)
    (xk4 : PySem.W.subIn K (.ref C4) (.ref CP) = some true)
    (q4_0 : PySem.W.subIn K (.ref C4) (.ref C0) = some false)
    (r4_0 : ((Value.ref C4) == (Value.ref C0)) = false)
    (q4_1 : PySem.W.subIn K (.ref C4) (.ref C1) = some false)
    (r4_1 : ((Value.ref C4) == (Value.ref C1)) = false)
    (q4_2 : PySem.W.subIn K (.ref C4) (.ref C2) = some false)
    (r4_2 : ((Value.ref C4) == (Value.ref C2)) = false)
    (q4_3 : PySem.W.subIn K (.ref C4) (.ref C3) = some false)
    (r4_3 : ((Value.ref C4) == (Value.ref C3)) = false)
    (q4_5 : PySem.W.subIn K (.ref C4) (.ref C5) = some false)
    (r4_5 : ((Value.ref C4) == (Value.ref C5)) = false)
    (q4_6 : PySem.W.subIn K (.ref C4) (.ref C6) = some false)
    (r4_6 : ((Value.ref C4) == (Value.ref C6)) = false)
    (q4_7 : PySem.W.subIn K (.ref C4) (.ref C7) = some false)
    (r4_7 : ((Value.ref C4) == (Value.ref C7)) = false)
    (q4_8 : PySem.W.subIn K (.ref C4) (.ref C8) = some false)
    (r4_8 : ((Value.ref C4) == (Value.ref C8)) = false)
    (xa5 : PySem.W.excIn K C5 [.type "ValueError", .type "Exception", .type "BaseException", .type "object"] "ValueError.__new__" = true)
    (xb5 : PySem.W.keepIn K (.ref C5) = true)
    (xc5 : PySem.W.subIn K (.ref C5) (.type "BaseException") = some true)
    (xd5 : PySem.W.typeIn K (.ref C5) = some (.type "type"))
    (xe5 : PySem.W.findIn K (.ref C5) "__getattribute__" = some (some (.builtin "BaseException.__getattribute__")))
    (xf5 : PySem.W.findIn K (.ref C5) "__getattr__" = some none)
    (xg5 : PySem.W.hasDictIn K C5 = true)
    (xh5 : PySem.W.findIn K (.ref C5) "__class__" = some (some (.builtin "object.__class__")))
    (xi5 : PySem.W.mroIn K C5 (.type "object") = some true)
    (xj5 : PySem.W.subIn K (.ref C5) (.type "ValueError") = some true)
    (xk5 : PySem.W.subIn K (.ref C5) (.ref CP) = some true)
    (q5_0 : PySem.W.subIn K (.ref C5) (.ref C0) = some false)
    (r5_0 : ((Value.ref C5) == (Value.ref C0)) = false)
    (q5_1 : PySem.W.subIn K (.ref C5) (.ref C1) = some false)
    (r5_1 : ((Value.ref C5) == (Value.ref C1)) = false)
    (q5_2 : PySem.W.subIn K (.ref C5) (.ref C2) = some false)
    (r5_2 : ((Value.ref C5) == (Value.ref C2)) = false)
    (q5_3 : PySem.W.subIn K (.ref C5) (.ref C3) = some false)
    (r5_3 : ((Value.ref C5) == (Value.ref C3)) = false)
    (q5_4 : PySem.W.subIn K (.ref C5) (.ref C4) = some false)
    (r5_4 : ((Value.ref C5) == (Value.ref C4)) = false)
    (q5_6 : PySem.W.subIn K (.ref C5) (.ref C6) = some false)
    (r5_6 : ((Value.ref C5) == (Value.ref C6)) = false)
    (q5_7 : PySem.W.subIn K (.ref C5) (.ref C7) = some false)
    (r5_7 : ((Value.ref C5) == (Value.ref C7)) = false)
    (q5_8 : PySem.W.subIn K (.ref C5) (.ref C8) = some false)
    (r5_8 : ((Value.ref C5) == (Value.ref C8)) = false)
    (xa6 : PySem.W.excIn K C6 [.type "ValueError", .type "Exception", .type "BaseException", .type "object"] "ValueError.__new__" = true)
    (xb6 : PySem.W.keepIn K (.ref C6) = true)
    (xc6 : PySem.W.subIn K (.ref C6) (.type "BaseException") = some true)
    (xd6 : PySem.W.typeIn K (.ref C6) = some (.type "type"))
    (xe6 : PySem.W.findIn K (.ref C6) "__getattribute__" = some (some (.builtin "BaseException.__getattribute__")))
    (xf6 : PySem.W.findIn K (.ref C6) "__getattr__" = some none)
    (xg6 : PySem.W.hasDictIn K C6 = true)
    (xh6 : PySem.W.findIn K (.ref C6) "__class__" = some (some (.builtin "object.__class__")))
    (xi6 : PySem.W.mroIn K C6 (.type "object") = some true)
    (xj6 : PySem.W.subIn K (.ref C6) (.type "ValueError") = some true)
    (xk6 : PySem.W.subIn K (.ref C6) (.ref CP) = some true)
    (q6_0 : PySem.W.subIn K (.ref C6) (.ref C0) = some false)
    (r6_0 : ((Value.ref C6) == (Value.ref C0)) = false)
    (q6_1 : PySem.W.subIn K (.ref C6) (.ref C1) = some false)
    (r6_1 : ((Value.ref C6) == (Value.ref C1)) = false)
    (q6_2 : PySem.W.subIn K (.ref C6) (.ref C2) = some false)
    (r6_2 : ((Value.ref C6) == (Value.ref C2)) = false)
    (q6_3 : PySem.W.subIn K (.ref C6) (.ref C3) = some false)
    (r6_3 : ((Value.ref C6) == (Value.ref C3)) = false)
    (q6_4 : PySem.W.subIn K (.ref C6) (.ref C4) = some false)
    (r6_4 : ((Value.ref C6) == (Value.ref C4)) = false)
    (q6_5 : PySem.W.subIn K (.ref C6) (.ref C5) = some false)
    (r6_5 : ((Value.ref C6) == (Value.ref C5)) = false)
    (q6_7 : PySem.W.subIn K (.ref C6) (.ref C7) = some false)
    (r6_7 : ((Value.ref C6) == (Value.ref C7)) = false)
    (q6_8 : PySem.W.subIn K (.ref C6) (.ref C8) = some false)
    (r6_8 : ((Value.ref C6) == (Value.ref C8)) = false)
    (xa7 : PySem.W.excIn K C7 [.type "ValueError", .type "Exception", .type "BaseException", .type "object"] "ValueError.__new__" = true)
    (xb7 : PySem.W.keepIn K (.ref C7) = true)
    (xc7 : PySem.W.subIn K (.ref C7) (.type "BaseException") = some true)
    (xd7 : PySem.W.typeIn K (.ref C7) = some (.type "type"))
    (xe7 : PySem.W.findIn K (.ref C7) "__getattribute__" = some (some (.builtin "BaseException.__getattribute__")))
    (xf7 : PySem.W.findIn K (.ref C7) "__getattr__" = some none)
    (xg7 : PySem.W.hasDictIn K C7 = true)
    (xh7 : PySem.W.findIn K (.ref C7) "__class__" = some (some (.builtin "object.__class__")))
    (xi7 : PySem.W.mroIn K C7 (.type "object") = some true)
    (xj7 : PySem.W.subIn K (.ref C7) (.type "ValueError") = some true)
    (xk7 : PySem.W.subIn K (.ref C7) (.ref CP) = some true)
    (q7_0 : PySem.W.subIn K (.ref C7) (.ref C0) = some false)
    (r7_0 : ((Value.ref C7) == (Value.ref C0)) = false)
    (q7_1 : PySem.W.subIn K (.ref C7) (.ref C1) = some false)
    (r7_1 : ((Value.ref C7) == (Value.ref C1)) = false)
    (q7_2 : PySem.W.subIn K (.ref C7) (.ref C2) = some false)
    (r7_2 : ((Value.ref C7) == (Value.ref C2)) = false)
    (q7_3 : PySem.W.subIn K (.ref C7) (.ref C3) = some false)
    (r7_3 : ((Value.ref C7) == (Value.ref C3)) = false)
    (q7_4 : PySem.W.subIn K (.ref C7) (.ref C4) = some false)
    (r7_4 : ((Value.ref C7) == (Value.ref C4)) = false)
    (q7_5 : PySem.W.subIn K (.ref C7) (.ref C5) = some false)
    (r7_5 : ((Value.ref C7) == (Value.ref C5)) = false)
    (q7_6 : PySem.W.subIn K (.ref C7) (.ref C6) = some false)
    (r7_6 : ((Value.ref C7) == (Value.ref C6)) = false)
    (q7_8 : PySem.W.subIn K (.ref C7) (.ref C8) = some false)
    (r7_8 : ((Value.ref C7) == (Value.ref C8)) = false)
    (xa8 : PySem.W.excIn K C8 [.type "ValueError", .type "Exception", .type "BaseException", .type "object"] "ValueError.__new__" = true)
    (xb8 : PySem.W.keepIn K (.ref C8) = true)
    (xc8 : PySem.W.subIn K (.ref C8) (.type "BaseException") = some true)
    (xd8 : PySem.W.typeIn K (.ref C8) = some (.type "type"))
    (xe8 : PySem.W.findIn K (.ref C8) "__getattribute__" = some (some (.builtin "BaseException.__getattribute__")))
    (xf8 : PySem.W.findIn K (.ref C8) "__getattr__" = some none)
    (xg8 : PySem.W.hasDictIn K C8 = true)
    (xh8 : PySem.W.findIn K (.ref C8) "__class__" = some (some (.builtin "object.__class__")))
    (xi8 : PySem.W.mroIn K C8 (.type "object") = some true)
    (xj8 : PySem.W.subIn K (.ref C8) (.type "ValueError") = some true)
    (xk8 : PySem.W.subIn K (.ref C8) (.ref CP) = some true)
    (q8_0 : PySem.W.subIn K (.ref C8) (.ref C0) = some false)
    (r8_0 : ((Value.ref C8) == (Value.ref C0)) = false)
    (q8_1 : PySem.W.subIn K (.ref C8) (.ref C1) = some false)
    (r8_1 : ((Value.ref C8) == (Value.ref C1)) = false)
    (q8_2 : PySem.W.subIn K (.ref C8) (.ref C2) = some false)
    (r8_2 : ((Value.ref C8) == (Value.ref C2)) = false)
    (q8_3 : PySem.W.subIn K (.ref C8) (.ref C3) = some false)
    (r8_3 : ((Value.ref C8) == (Value.ref C3)) = false)
    (q8_4 : PySem.W.subIn K (.ref C8) (.ref C4) = some false)
    (r8_4 : ((Value.ref C8) == (Value.ref C4)) = false)
    (q8_5 : PySem.W.subIn K (.ref C8) (.ref C5) = some false)
    (r8_5 : ((Value.ref C8) == (Value.ref C5)) = false)
    (q8_6 : PySem.W.subIn K (.ref C8) (.ref C6) = some false)
    (r8_6 : ((Value.ref C8) == (Value.ref C6)) = false)
    (q8_7 : PySem.W.subIn K (.ref C8) (.ref C7) = some false)
    (r8_7 : ((Value.ref C8) == (Value.ref C7)) = false)
    (s0 : PySem.W.isClsIn K C0 = true)
    (t0 : PySem.W.typeIn K (.ref C0) = some (.type "type"))
    (s1 : PySem.W.isClsIn K C1 = true)
    (t1 : PySem.W.typeIn K (.ref C1) = some (.type "type"))
    (s2 : PySem.W.isClsIn K C2 = true)
    (t2 : PySem.W.typeIn K (.ref C2) = some (.type "type"))
    (s3 : PySem.W.isClsIn K C3 = true)
    (t3 : PySem.W.typeIn K (.ref C3) = some (.type "type"))
    (s4 : PySem.W.isClsIn K C4 = true)
    (t4 : PySem.W.typeIn K (.ref C4) = some (.type "type"))
    (s5 : PySem.W.isClsIn K C5 = true)
    (t5 : PySem.W.typeIn K (.ref C5) = some (.type "type"))
    (s6 : PySem.W.isClsIn K C6 = true)
    (t6 : PySem.W.typeIn K (.ref C6) = some (.type "type"))
    (s7 : PySem.W.isClsIn K C7 = true)
    (t7 : PySem.W.typeIn K (.ref C7) = some (.type "type"))
    (s8 : PySem.W.isClsIn K C8 = true)
    (t8 : PySem.W.typeIn K (.ref C8) = some (.type "type"))
    (pb : PySem.W.subIn K (.ref CP) (.type "BaseException") = some true)
    (pd : PySem.W.hasDictIn K CP = true)
    (pt : PySem.W.typeIn K (.ref CP) = some (.type "type"))
    (zg0 : PySem.W.specialIn K (.builtin "object.__class__") "__get__" = some (some (.builtin "getset_descriptor.__get__")))
    (zg1 : PySem.W.takesIn K (.builtin "object.__class__") = some true)
    : LawAtS l w K (L2N.CX l.prog w) 9 63 "_law_script" mg fa h := by
  have e := hfa.symm.trans (PySem.W.mg_of X G aL)
  cases e
  have F0 := fun_mk (st := s_is_whole) l0 c0 k0
  have b0 := F0.binds (ps := ["value", "low", "high"]) fun _ _ _ _ _ _ us hl => match us, hl with | [_, _, _], _ => rfl
  have d_is_whole : Def K mg "is_whole" s_is_whole ["value", "low", "high"] := ⟨⟨f0, _, PySem.W.mg_of X G a0, F0, b0⟩⟩
  have F1 := fun_mk (st := s_is_number) l1 c1 k1
  have b1 := F1.binds (ps := ["value"]) fun _ _ _ _ _ _ us hl => match us, hl with | [_], _ => rfl
  have d_is_number : Def K mg "is_number" s_is_number ["value"] := ⟨⟨f1, _, PySem.W.mg_of X G a1, F1, b1⟩⟩
  have F2 := fun_mk (st := s_need_number) l2 c2 k2
  have b2 := F2.binds (ps := ["number"]) fun _ _ _ _ _ _ us hl => match us, hl with | [_], _ => rfl
  have d_need_number : Def K mg "need_number" s_need_number ["number"] := ⟨⟨f2, _, PySem.W.mg_of X G a2, F2, b2⟩⟩
  have F3 := fun_mk (st := s_factors_of) l3 c3 k3
  have b3 := F3.binds (ps := ["number"]) fun _ _ _ _ _ _ us hl => match us, hl with | [_], _ => rfl
  have d_factors_of : Def K mg "factors_of" s_factors_of ["number"] := ⟨⟨f3, _, PySem.W.mg_of X G a3, F3, b3⟩⟩
  have F4 := fun_mk (st := s_sum_of_all) l4 c4 k4
  have b4 := F4.binds (ps := ["number"]) fun _ _ _ _ _ _ us hl => match us, hl with | [_], _ => rfl
  have d_sum_of_all : Def K mg "sum_of_all" s_sum_of_all ["number"] := ⟨⟨f4, _, PySem.W.mg_of X G a4, F4, b4⟩⟩
  have F5 := fun_mk (st := s_stepped) l5 c5 k5
  have b5 := F5.binds (ps := ["number"]) fun _ _ _ _ _ _ us hl => match us, hl with | [_], _ => rfl
  have d_stepped : Def K mg "stepped" s_stepped ["number"] := ⟨⟨f5, _, PySem.W.mg_of X G a5, F5, b5⟩⟩
  have F6 := fun_mk (st := s_step) l6 c6 k6
  have b6 := F6.binds (ps := ["number"]) fun _ _ _ _ _ _ us hl => match us, hl with | [_], _ => rfl
  have d_step : Def K mg "step" s_step ["number"] := ⟨⟨f6, _, PySem.W.mg_of X G a6, F6, b6⟩⟩
  have F7 := fun_mk (st := s_need_both) l7 c7 k7
  have b7 := F7.binds (ps := ["number", "goal"]) fun _ _ _ _ _ _ us hl => match us, hl with | [_, _], _ => rfl
  have d_need_both : Def K mg "need_both" s_need_both ["number", "goal"] := ⟨⟨f7, _, PySem.W.mg_of X G a7, F7, b7⟩⟩
  have F8 := fun_mk (st := s_parts_for) l8 c8 k8
  have b8 := F8.binds (ps := ["number", "goal"]) fun _ _ _ _ _ _ us hl => match us, hl with | [_, _], _ => rfl
  have d_parts_for : Def K mg "parts_for" s_parts_for ["number", "goal"] := ⟨⟨f8, _, PySem.W.mg_of X G a8, F8, b8⟩⟩
  have F9 := fun_mk (st := s_need_limit) l9 c9 k9
  have b9 := F9.binds (ps := ["limit", "most"]) fun _ _ _ _ _ _ us hl => match us, hl with | [_, _], _ => rfl
  have d_need_limit : Def K mg "need_limit" s_need_limit ["limit", "most"] := ⟨⟨f9, _, PySem.W.mg_of X G a9, F9, b9⟩⟩
  have F10 := fun_mk (st := s_all_rounds) l10 c10 k10
  have b10 := F10.binds (ps := ["limit"]) fun _ _ _ _ _ _ us hl => match us, hl with | [_], _ => rfl
  have d_all_rounds : Def K mg "all_rounds" s_all_rounds ["limit"] := ⟨⟨f10, _, PySem.W.mg_of X G a10, F10, b10⟩⟩
  have F11 := fun_mk (st := s_need_goal) l11 c11 k11
  have b11 := F11.binds (ps := ["goal"]) fun _ _ _ _ _ _ us hl => match us, hl with | [_], _ => rfl
  have d_need_goal : Def K mg "need_goal" s_need_goal ["goal"] := ⟨⟨f11, _, PySem.W.mg_of X G a11, F11, b11⟩⟩
  have F12 := fun_mk (st := s_forerunners) l12 c12 k12
  have b12 := F12.binds (ps := ["goal"]) fun _ _ _ _ _ _ us hl => match us, hl with | [_], _ => rfl
  have d_forerunners : Def K mg "forerunners" s_forerunners ["goal"] := ⟨⟨f12, _, PySem.W.mg_of X G a12, F12, b12⟩⟩
  have F13 := fun_mk (st := s_written) l13 c13 k13
  have b13 := F13.binds (ps := ["number"]) fun _ _ _ _ _ _ us hl => match us, hl with | [_], _ => rfl
  have d_written : Def K mg "written" s_written ["number"] := ⟨⟨f13, _, PySem.W.mg_of X G a13, F13, b13⟩⟩
  have F14 := fun_mk (st := s_integer_of) l14 c14 k14
  have b14 := F14.binds (ps := ["word"]) fun _ _ _ _ _ _ us hl => match us, hl with | [_], _ => rfl
  have d_integer_of : Def K mg "integer_of" s_integer_of ["word"] := ⟨⟨f14, _, PySem.W.mg_of X G a14, F14, b14⟩⟩
  have F15 := fun_mk (st := s_power_of) l15 c15 k15
  have b15 := F15.binds (ps := ["word"]) fun _ _ _ _ _ _ us hl => match us, hl with | [_], _ => rfl
  have d_power_of : Def K mg "power_of" s_power_of ["word"] := ⟨⟨f15, _, PySem.W.mg_of X G a15, F15, b15⟩⟩
  have F16 := fun_mk (st := s_parse_factors) l16 c16 k16
  have b16 := F16.binds (ps := ["text"]) fun _ _ _ _ _ _ us hl => match us, hl with | [_], _ => rfl
  have d_parse_factors : Def K mg "parse_factors" s_parse_factors ["text"] := ⟨⟨f16, _, PySem.W.mg_of X G a16, F16, b16⟩⟩
  have F17 := fun_mk (st := s_cell) l17 c17 k17
  have b17 := F17.binds (ps := ["_law_script", "_law_k"]) fun _ _ _ _ _ _ us hl => match us, hl with | [_, _], _ => rfl
  have d_cell : Def K mg "_law_cell" s_cell ["_law_script", "_law_k"] := ⟨⟨f17, _, PySem.W.mg_of X G a17, F17, b17⟩⟩
  have F18 := fun_mk (st := s_drawn) l18 c18 k18
  have b18 := F18.binds (ps := ["_law_cell_here", "_law_k"]) fun _ _ _ _ _ _ us hl => match us, hl with | [_, _], _ => rfl
  have d_drawn : Def K mg "_law_drawn" s_drawn ["_law_cell_here", "_law_k"] := ⟨⟨f18, _, PySem.W.mg_of X G a18, F18, b18⟩⟩
  have F19 := fun_mk (st := s_roll) l19 c19 k19
  have b19 := F19.binds (ps := ["_law_dice", "_law_many"]) fun _ _ _ _ _ _ us hl => match us, hl with | [_, _], _ => rfl
  have d_roll : Def K mg "_law_roll" s_roll ["_law_dice", "_law_many"] := ⟨⟨f19, _, PySem.W.mg_of X G a19, F19, b19⟩⟩
  have F20 := fun_mk (st := s_rounds) l20 c20 k20
  have b20 := F20.binds (ps := ["_law_script", "_law_most"]) fun _ _ _ _ _ _ us hl => match us, hl with | [_, _], _ => rfl
  have d_rounds : Def K mg "_law_rounds" s_rounds ["_law_script", "_law_most"] := ⟨⟨f20, _, PySem.W.mg_of X G a20, F20, b20⟩⟩
  have F21 := fun_mk (st := s_met) l21 c21 k21
  have b21 := F21.binds (ps := ["_law_deed"]) fun _ _ _ _ _ _ us hl => match us, hl with | [_], _ => rfl
  have d_met : Def K mg "_law_met" s_met ["_law_deed"] := ⟨⟨f21, _, PySem.W.mg_of X G a21, F21, b21⟩⟩
  have F22 := fun_mk (st := s_alone) l22 c22 k22
  have b22 := F22.binds (ps := ["_law_e", "_law_own"]) fun _ _ _ _ _ _ us hl => match us, hl with | [_, _], _ => rfl
  have d_alone : Def K mg "_law_alone" s_alone ["_law_e", "_law_own"] := ⟨⟨f22, _, PySem.W.mg_of X G a22, F22, b22⟩⟩
  have F23 := fun_mk (st := s_stopped) l23 c23 k23
  have b23 := F23.binds (ps := []) fun _ _ _ _ _ _ us hl => match us, hl with | [], _ => rfl
  have d_stopped : Def K mg "_law_stopped" s_stopped [] := ⟨⟨f23, _, PySem.W.mg_of X G a23, F23, b23⟩⟩
  have n_isinstance := PySem.W.mg_none_of X G z0
  have n_int := PySem.W.mg_none_of X G z1
  have n_bool := PySem.W.mg_none_of X G z2
  have n_range := PySem.W.mg_none_of X G z3
  have n_str := PySem.W.mg_none_of X G z4
  have n_all := PySem.W.mg_none_of X G z5
  have n_len := PySem.W.mg_none_of X G z6
  have n_max := PySem.W.mg_none_of X G z7
  have n_min := PySem.W.mg_none_of X G z8
  have n_sum := PySem.W.mg_none_of X G z9
  have n_enumerate := PySem.W.mg_none_of X G z10
  have n_ValueError := PySem.W.mg_none_of X G z11
  have v_BOUND : ∃ t, mg "BOUND" = some (.int 20000 t) := ⟨_, PySem.W.mg_of X G y0⟩
  have X0 : Exc K mg "InvalidNumber" C0 := ⟨xa0, PySem.W.mg_of X G e0, xb0, xc0, xd0⟩
  have X1 : Exc K mg "InvalidGoal" C1 := ⟨xa1, PySem.W.mg_of X G e1, xb1, xc1, xd1⟩
  have X2 : Exc K mg "InvalidLimit" C2 := ⟨xa2, PySem.W.mg_of X G e2, xb2, xc2, xd2⟩
  have X3 : Exc K mg "InvalidFactor" C3 := ⟨xa3, PySem.W.mg_of X G e3, xb3, xc3, xd3⟩
  have X4 : Exc K mg "InvalidText" C4 := ⟨xa4, PySem.W.mg_of X G e4, xb4, xc4, xd4⟩
  have X5 : Exc K mg "AllPrimes" C5 := ⟨xa5, PySem.W.mg_of X G e5, xb5, xc5, xd5⟩
  have X6 : Exc K mg "Stopped" C6 := ⟨xa6, PySem.W.mg_of X G e6, xb6, xc6, xd6⟩
  have X7 : Exc K mg "TooGreat" C7 := ⟨xa7, PySem.W.mg_of X G e7, xb7, xc7, xd7⟩
  have X8 : Exc K mg "NothingToUndo" C8 := ⟨xa8, PySem.W.mg_of X G e8, xb8, xc8, xd8⟩
  let C : Nat → Addr := fun i => [C0, C1, C2, C3, C4, C5, C6, C7, C8, CP].getD i C0
  have K9 : Kit9 K mg C := ⟨PySem.W.mg_of X G e0, PySem.W.mg_of X G e1, PySem.W.mg_of X G e2, PySem.W.mg_of X G e3, PySem.W.mg_of X G e4, PySem.W.mg_of X G e5, PySem.W.mg_of X G e6, PySem.W.mg_of X G e7, PySem.W.mg_of X G e8, n_isinstance, n_sum, n_int, n_ValueError⟩
  have Z0 : KitC K C 0 := ⟨by decide, ⟨xe0, xf0, xc0, xg0, xh0, zg0, zg1, xi0⟩, kit_blt (by decide +kernel) xj0, PySem.W.exm_ref pb pd pt xk0, fun j hj => match j, hj with
    | 0, _ => kit_self
    | 1, _ => kit_own r0_1 s1 t1 q0_1
    | 2, _ => kit_own r0_2 s2 t2 q0_2
    | 3, _ => kit_own r0_3 s3 t3 q0_3
    | 4, _ => kit_own r0_4 s4 t4 q0_4
    | 5, _ => kit_own r0_5 s5 t5 q0_5
    | 6, _ => kit_own r0_6 s6 t6 q0_6
    | 7, _ => kit_own r0_7 s7 t7 q0_7
    | 8, _ => kit_own r0_8 s8 t8 q0_8
    | j + 9, hj => absurd hj (by omega)⟩
  have Z1 : KitC K C 1 := ⟨by decide, ⟨xe1, xf1, xc1, xg1, xh1, zg0, zg1, xi1⟩, kit_blt (by decide +kernel) xj1, PySem.W.exm_ref pb pd pt xk1, fun j hj => match j, hj with
    | 0, _ => kit_own r1_0 s0 t0 q1_0
    | 1, _ => kit_self
    | 2, _ => kit_own r1_2 s2 t2 q1_2
    | 3, _ => kit_own r1_3 s3 t3 q1_3
    | 4, _ => kit_own r1_4 s4 t4 q1_4
    | 5, _ => kit_own r1_5 s5 t5 q1_5
    | 6, _ => kit_own r1_6 s6 t6 q1_6
    | 7, _ => kit_own r1_7 s7 t7 q1_7
    | 8, _ => kit_own r1_8 s8 t8 q1_8
    | j + 9, hj => absurd hj (by omega)⟩
  have Z2 : KitC K C 2 := ⟨by decide, ⟨xe2, xf2, xc2, xg2, xh2, zg0, zg1, xi2⟩, kit_blt (by decide +kernel) xj2, PySem.W.exm_ref pb pd pt xk2, fun j hj => match j, hj with
    | 0, _ => kit_own r2_0 s0 t0 q2_0
    | 1, _ => kit_own r2_1 s1 t1 q2_1
    | 2, _ => kit_self
    | 3, _ => kit_own r2_3 s3 t3 q2_3
    | 4, _ => kit_own r2_4 s4 t4 q2_4
    | 5, _ => kit_own r2_5 s5 t5 q2_5
    | 6, _ => kit_own r2_6 s6 t6 q2_6
    | 7, _ => kit_own r2_7 s7 t7 q2_7
    | 8, _ => kit_own r2_8 s8 t8 q2_8
    | j + 9, hj => absurd hj (by omega)⟩
  have Z3 : KitC K C 3 := ⟨by decide, ⟨xe3, xf3, xc3, xg3, xh3, zg0, zg1, xi3⟩, kit_blt (by decide +kernel) xj3, PySem.W.exm_ref pb pd pt xk3, fun j hj => match j, hj with
    | 0, _ => kit_own r3_0 s0 t0 q3_0
    | 1, _ => kit_own r3_1 s1 t1 q3_1
    | 2, _ => kit_own r3_2 s2 t2 q3_2
    | 3, _ => kit_self
    | 4, _ => kit_own r3_4 s4 t4 q3_4
    | 5, _ => kit_own r3_5 s5 t5 q3_5
    | 6, _ => kit_own r3_6 s6 t6 q3_6
    | 7, _ => kit_own r3_7 s7 t7 q3_7
    | 8, _ => kit_own r3_8 s8 t8 q3_8
    | j + 9, hj => absurd hj (by omega)⟩
  have Z4 : KitC K C 4 := ⟨by decide, ⟨xe4, xf4, xc4, xg4, xh4, zg0, zg1, xi4⟩, kit_blt (by decide +kernel) xj4, PySem.W.exm_ref pb pd pt xk4, fun j hj => match j, hj with
    | 0, _ => kit_own r4_0 s0 t0 q4_0
    | 1, _ => kit_own r4_1 s1 t1 q4_1
    | 2, _ => kit_own r4_2 s2 t2 q4_2
    | 3, _ => kit_own r4_3 s3 t3 q4_3
    | 4, _ => kit_self
    | 5, _ => kit_own r4_5 s5 t5 q4_5
    | 6, _ => kit_own r4_6 s6 t6 q4_6
    | 7, _ => kit_own r4_7 s7 t7 q4_7
    | 8, _ => kit_own r4_8 s8 t8 q4_8
    | j + 9, hj => absurd hj (by omega)⟩
  have Z5 : KitC K C 5 := ⟨by decide, ⟨xe5, xf5, xc5, xg5, xh5, zg0, zg1, xi5⟩, kit_blt (by decide +kernel) xj5, PySem.W.exm_ref pb pd pt xk5, fun j hj => match j, hj with
    | 0, _ => kit_own r5_0 s0 t0 q5_0
    | 1, _ => kit_own r5_1 s1 t1 q5_1
    | 2, _ => kit_own r5_2 s2 t2 q5_2
    | 3, _ => kit_own r5_3 s3 t3 q5_3
    | 4, _ => kit_own r5_4 s4 t4 q5_4
    | 5, _ => kit_self
    | 6, _ => kit_own r5_6 s6 t6 q5_6
    | 7, _ => kit_own r5_7 s7 t7 q5_7
    | 8, _ => kit_own r5_8 s8 t8 q5_8
    | j + 9, hj => absurd hj (by omega)⟩
  have Z6 : KitC K C 6 := ⟨by decide, ⟨xe6, xf6, xc6, xg6, xh6, zg0, zg1, xi6⟩, kit_blt (by decide +kernel) xj6, PySem.W.exm_ref pb pd pt xk6, fun j hj => match j, hj with
    | 0, _ => kit_own r6_0 s0 t0 q6_0
    | 1, _ => kit_own r6_1 s1 t1 q6_1
    | 2, _ => kit_own r6_2 s2 t2 q6_2
    | 3, _ => kit_own r6_3 s3 t3 q6_3
    | 4, _ => kit_own r6_4 s4 t4 q6_4
    | 5, _ => kit_own r6_5 s5 t5 q6_5
    | 6, _ => kit_self
    | 7, _ => kit_own r6_7 s7 t7 q6_7
    | 8, _ => kit_own r6_8 s8 t8 q6_8
    | j + 9, hj => absurd hj (by omega)⟩
  have Z7 : KitC K C 7 := ⟨by decide, ⟨xe7, xf7, xc7, xg7, xh7, zg0, zg1, xi7⟩, kit_blt (by decide +kernel) xj7, PySem.W.exm_ref pb pd pt xk7, fun j hj => match j, hj with
    | 0, _ => kit_own r7_0 s0 t0 q7_0
    | 1, _ => kit_own r7_1 s1 t1 q7_1
    | 2, _ => kit_own r7_2 s2 t2 q7_2
    | 3, _ => kit_own r7_3 s3 t3 q7_3
    | 4, _ => kit_own r7_4 s4 t4 q7_4
    | 5, _ => kit_own r7_5 s5 t5 q7_5
    | 6, _ => kit_own r7_6 s6 t6 q7_6
    | 7, _ => kit_self
    | 8, _ => kit_own r7_8 s8 t8 q7_8
    | j + 9, hj => absurd hj (by omega)⟩
  have Z8 : KitC K C 8 := ⟨by decide, ⟨xe8, xf8, xc8, xg8, xh8, zg0, zg1, xi8⟩, kit_blt (by decide +kernel) xj8, PySem.W.exm_ref pb pd pt xk8, fun j hj => match j, hj with
    | 0, _ => kit_own r8_0 s0 t0 q8_0
    | 1, _ => kit_own r8_1 s1 t1 q8_1
    | 2, _ => kit_own r8_2 s2 t2 q8_2
    | 3, _ => kit_own r8_3 s3 t3 q8_3
    | 4, _ => kit_own r8_4 s4 t4 q8_4
    | 5, _ => kit_own r8_5 s5 t5 q8_5
    | 6, _ => kit_own r8_6 s6 t6 q8_6
    | 7, _ => kit_own r8_7 s7 t7 q8_7
    | 8, _ => kit_self
    | j + 9, hj => absurd hj (by omega)⟩
  have Wk : WK K CW := ⟨⟨pgW, hdW, poW, saW⟩, nW0, nW1, nW2⟩
  have Fm0 := fun_mk (st := s_W 0) lm0 cm0 km0
  have bm0 := Fm0.binds (ps := ["self", "number"]) fun _ _ _ _ _ _ us hl => match us, hl with | [_, _], _ => rfl
  have D0 : DefI K mg "Walk" CW "Walk.__init__" (s_W 0) ["self", "number"] := ⟨PySem.W.mg_of X G aW, fm0, _, ⟨mkW, am0, im0, kcW⟩, Fm0, bm0⟩
  have Fm1 := fun_mk (st := s_W 1) lm1 cm1 km1
  have bm1 := Fm1.binds (ps := ["self", "number"]) fun _ _ _ _ _ _ us hl => match us, hl with | [_, _], _ => rfl
  have D1 : DefM K CW "change" "Walk.change" (s_W 1) ["self", "number"] := ⟨⟨fm1, _, ⟨am1, im1, km1⟩, Fm1, bm1⟩⟩
  have Fm2 := fun_mk (st := s_W 2) lm2 cm2 km2
  have bm2 := Fm2.binds (ps := ["self"]) fun _ _ _ _ _ _ us hl => match us, hl with | [_], _ => rfl
  have D2 : DefM K CW "go" "Walk.go" (s_W 2) ["self"] := ⟨⟨fm2, _, ⟨am2, im2, km2⟩, Fm2, bm2⟩⟩
  have Fm3 := fun_mk (st := s_W 3) lm3 cm3 km3
  have bm3 := Fm3.binds (ps := ["self", "factor"]) fun _ _ _ _ _ _ us hl => match us, hl with | [_, _], _ => rfl
  have D3 : DefM K CW "times" "Walk.times" (s_W 3) ["self", "factor"] := ⟨⟨fm3, _, ⟨am3, im3, km3⟩, Fm3, bm3⟩⟩
  have Fm6 := fun_mk (st := s_W 6) lm6 cm6 km6
  have bm6 := Fm6.binds (ps := ["self"]) fun _ _ _ _ _ _ us hl => match us, hl with | [_], _ => rfl
  have D6 : DefM K CW "redo" "Walk.redo" (s_W 6) ["self"] := ⟨⟨fm6, _, ⟨am6, im6, km6⟩, Fm6, bm6⟩⟩
  refine law_at (q := "law.<locals>.<lambda>") X ow lL (codeHd_mk kL iL vL nL) tL (fun us hl => match us, hl with | [_], _ => rfl) fun base b1 b2 TB => ?_
  have Me := met_mk (P := l.prog) (w := w) (base := base) (C := C) (PySem.W.mg_of X G a21) k21 F21 b21 (PySem.W.mg_of X G eP)
  have M : Mg K mg := ⟨n_isinstance, n_int, n_bool, n_range, v_BOUND⟩
  have B : Mb mg := ⟨n_len, n_max, n_min, n_range⟩
  have c1 := ok_is_whole (P := l.prog) (w := w) (base := base) M d_is_whole
  have c2 := ok_is_number M d_is_number c1
  have c3 := ok_need_number M X0 d_need_number c2
  have c4 := ok_factors_of (P := l.prog) (w := w) (base := base) d_factors_of
  have c5 := ok_written n_str d_written c4
  have c6 := ok_integer_of (P := l.prog) (w := w) (base := base) n_len n_all n_int X4 d_integer_of
  have c7 := ok_power_of n_len n_range X4 d_power_of c6
  have c8 := ok_cell (P := l.prog) (w := w) (base := base) B d_cell
  have c9 := ok_roll d_roll (ok_drawn (P := l.prog) (w := w) (base := base) d_drawn)
  have c10 := ok_stepped d_stepped (ok_sum_of_all M d_sum_of_all c4)
  have mc := ok_W_change (P := l.prog) (w := w) (base := base) (mg := mg) Wk D1
  have mk := ok_W_init Wk D0 c3
  have mgo := ok_W_go Wk X6 D2 c2 c10 mc
  have Zs : ∀ i, i < 9 → KitC K C i := fun i hi => match i, hi with
    | 0, _ => Z0
    | 1, _ => Z1
    | 2, _ => Z2
    | 3, _ => Z3
    | 4, _ => Z4
    | 5, _ => Z5
    | 6, _ => Z6
    | 7, _ => Z7
    | 8, _ => Z8
    | i + 9, h => absurd h (by omega)
  exact ok_law (C := C) (Cw := CW) ⟨B, n_all, n_enumerate, Wk, mk, mgo, ok_W_times M Wk X3 X6 X7 D3 c1 c2 mc, ok_W_redo Wk X8 D6, ok_stopped Wk d_stopped mk mgo, ok_step d_step c3 c10, ok_parts_for_x d_parts_for (ok_need_both M X1 d_need_both c1 c3), ok_all_rounds_x M d_all_rounds (ok_need_limit X2 d_need_limit c1), ok_parse_factors n_isinstance n_str n_len X4 d_parse_factors c7 c2 c5, ok_forerunners_x d_forerunners (ok_need_goal X1 X5 d_need_goal c1), ok_alone K9 n_range d_alone, ok_rounds B d_rounds c8, c9, Zs⟩ lL cdL TB Me
theorem walk {l : PySem.W.OpenLaw} {q : Program} {loose : List Str} {XP : (Str → Option Value) → Heap → Prop} {YP : World → Heap → Prop} {d : DefRec} {K : Params → PySem.W.Frag} (hn : l.most = some 63) (hdf : d.params.defaults = []) (hrec : ((recsOf q).any fun e => e.name == d.name) = true)
    (hY : ∀ (w : World) (h : Heap), YP w h → (K w.params).In h)
    (F : ∀ (w : World) (mg : Str → Option Value) (fa : Addr) (h : Heap), YP w h → (K w.params).In h → h.Ns mainGlobals mg → mg d.name = some (.ref fa) → OwnTab (K w.params) fa h → LawAtS l w (K w.params) (L2N.CX l.prog w) 9 63 "_law_script" mg fa h) :
    PySem.W.WalkO q loose XP YP l.row.toRowW d [] (fun f vs => PySem.call f vs) :=
  LamX.walk_ofOwn (n := 63) (k := 9) (x := "_law_script") (CX := fun w => L2N.CX l.prog w) hn (by decide) hdf ⟨rfl, by decide, by decide⟩ hrec hY F fun w H s e s' h => by
    obtain ⟨_, _, _, _, _, _, _, _, _, _, _, _, z⟩ := h
    exact z
end Dv
open PySem PySem.W PyProof.Rows
set_option maxHeartbeats 0 in
theorem PySem.Challenge.cw_divisorwalks_k21_errors_apart_holds : PySem.Challenge.rw_divisorwalks_k21_errors_apart.Holds := by
  w_on; o_law; k_head; (case hw => w_witness2)
  k_fill
  refine Dv.walk (l := PySem.Challenge.rw_divisorwalks_k21_errors_apart) rfl rfl ?R (fun w h Y => PySem.W.km_in_of Y) ?F
  case R => rfl
  case F =>
    intro w mg fa h Y KX G hmg ow
    refine' Dv.all_mk KX G hmg ow ?a0 ?l0 ?c0 ?k0 ?a1 ?l1 ?c1 ?k1 ?a2 ?l2 ?c2 ?k2 ?a3 ?l3 ?c3 ?k3 ?a4 ?l4 ?c4 ?k4 ?a5 ?l5 ?c5 ?k5 ?a6 ?l6 ?c6 ?k6 ?a7 ?l7 ?c7 ?k7 ?a8 ?l8 ?c8 ?k8 ?a9 ?l9 ?c9 ?k9 ?a10 ?l10 ?c10 ?k10 ?a11 ?l11 ?c11 ?k11 ?a12 ?l12 ?c12 ?k12 ?a13 ?l13 ?c13 ?k13 ?a14 ?l14 ?c14 ?k14 ?a15 ?l15 ?c15 ?k15 ?a16 ?l16 ?c16 ?k16 ?a17 ?l17 ?c17 ?k17 ?a18 ?l18 ?c18 ?k18 ?a19 ?l19 ?c19 ?k19 ?a20 ?l20 ?c20 ?k20 ?a21 ?l21 ?c21 ?k21 ?a22 ?l22 ?c22 ?k22 ?a23 ?l23 ?c23 ?k23 ?aL ?lL ?cdL ?kL ?iL ?vL ?nL ?tL ?aW ?pgW ?hdW ?poW ?saW ?mkW ?kcW ?nW0 ?nW1 ?nW2 ?am0 ?im0 ?lm0 ?cm0 ?km0 ?am1 ?im1 ?lm1 ?cm1 ?km1 ?am2 ?im2 ?lm2 ?cm2 ?km2 ?am3 ?im3 ?lm3 ?cm3 ?km3 ?am6 ?im6 ?lm6 ?cm6 ?km6 ?z0 ?z1 ?z2 ?z3 ?z4 ?z5 ?z6 ?z7 ?z8 ?z9 ?z10 ?z11 ?y0 ?e0 ?e1 ?e2 ?e3 ?e4 ?e5 ?e6 ?e7 ?e8 ?eP ?xa0 ?xb0 ?xc0 ?xd0 ?xe0 ?xf0 ?xg0 ?xh0 ?xi0 ?xj0 ?xk0 ?q0_1 ?r0_1 ?q0_2 ?r0_2 ?q0_3 ?r0_3 ?q0_4 ?r0_4 ?q0_5 ?r0_5 ?q0_6 ?r0_6 ?q0_7 ?r0_7 ?q0_8 ?r0_8 ?xa1 ?xb1 ?xc1 ?xd1 ?xe1 ?xf1 ?xg1 ?xh1 ?xi1 ?xj1 ?xk1 ?q1_0 ?r1_0 ?q1_2 ?r1_2 ?q1_3 ?r1_3 ?q1_4 ?r1_4 ?q1_5 ?r1_5 ?q1_6 ?r1_6 ?q1_7 ?r1_7 ?q1_8 ?r1_8 ?xa2 ?xb2 ?xc2 ?xd2 ?xe2 ?xf2 ?xg2 ?xh2 ?xi2 ?xj2 ?xk2 ?q2_0 ?r2_0 ?q2_1 ?r2_1 ?q2_3 ?r2_3 ?q2_4 ?r2_4 ?q2_5 ?r2_5 ?q2_6 ?r2_6 ?q2_7 ?r2_7 ?q2_8 ?r2_8 ?xa3 ?xb3 ?xc3 ?xd3 ?xe3 ?xf3 ?xg3 ?xh3 ?xi3 ?xj3 ?xk3 ?q3_0 ?r3_0 ?q3_1 ?r3_1 ?q3_2 ?r3_2 ?q3_4 ?r3_4 ?q3_5 ?r3_5 ?q3_6 ?r3_6 ?q3_7 ?r3_7 ?q3_8 ?r3_8 ?xa4 ?xb4 ?xc4 ?xd4 ?xe4 ?xf4 ?xg4 ?xh4 ?xi4 ?xj4 ?xk4 ?q4_0 ?r4_0 ?q4_1 ?r4_1 ?q4_2 ?r4_2 ?q4_3 ?r4_3 ?q4_5 ?r4_5 ?q4_6 ?r4_6 ?q4_7 ?r4_7 ?q4_8 ?r4_8 ?xa5 ?xb5 ?xc5 ?xd5 ?xe5 ?xf5 ?xg5 ?xh5 ?xi5 ?xj5 ?xk5 ?q5_0 ?r5_0 ?q5_1 ?r5_1 ?q5_2 ?r5_2 ?q5_3 ?r5_3 ?q5_4 ?r5_4 ?q5_6 ?r5_6 ?q5_7 ?r5_7 ?q5_8 ?r5_8 ?xa6 ?xb6 ?xc6 ?xd6 ?xe6 ?xf6 ?xg6 ?xh6 ?xi6 ?xj6 ?xk6 ?q6_0 ?r6_0 ?q6_1 ?r6_1 ?q6_2 ?r6_2 ?q6_3 ?r6_3 ?q6_4 ?r6_4 ?q6_5 ?r6_5 ?q6_7 ?r6_7 ?q6_8 ?r6_8 ?xa7 ?xb7 ?xc7 ?xd7 ?xe7 ?xf7 ?xg7 ?xh7 ?xi7 ?xj7 ?xk7 ?q7_0 ?r7_0 ?q7_1 ?r7_1 ?q7_2 ?r7_2 ?q7_3 ?r7_3 ?q7_4 ?r7_4 ?q7_5 ?r7_5 ?q7_6 ?r7_6 ?q7_8 ?r7_8 ?xa8 ?xb8 ?xc8 ?xd8 ?xe8 ?xf8 ?xg8 ?xh8 ?xi8 ?xj8 ?xk8 ?q8_0 ?r8_0 ?q8_1 ?r8_1 ?q8_2 ?r8_2 ?q8_3 ?r8_3 ?q8_4 ?r8_4 ?q8_5 ?r8_5 ?q8_6 ?r8_6 ?q8_7 ?r8_7 ?s0 ?t0 ?s1 ?t1 ?s2 ?t2 ?s3 ?t3 ?s4 ?t4 ?s5 ?t5 ?s6 ?t6 ?s7 ?t7 ?s8 ?t8 ?pb ?pd ?pt ?zg0 ?zg1
    (case a0 => k_is)
    (case l0 => k_is)
    (case c0 => k_is)
    (case k0 => k_is)
    (case a1 => k_is)
    (case l1 => k_is)
    (case c1 => k_is)
    (case k1 => k_is)
    (case a2 => k_is)
    (case l2 => k_is)
    (case c2 => k_is)
    (case k2 => k_is)
    (case a3 => k_is)
    (case l3 => k_is)
    (case c3 => k_is)
    (case k3 => k_is)
    (case a4 => k_is)
    (case l4 => k_is)
    (case c4 => k_is)
    (case k4 => k_is)
    (case a5 => k_is)
    (case l5 => k_is)
    (case c5 => k_is)
    (case k5 => k_is)
    (case a6 => k_is)
    (case l6 => k_is)
    (case c6 => k_is)
    (case k6 => k_is)
    (case a7 => k_is)
    (case l7 => k_is)
    (case c7 => k_is)
    (case k7 => k_is)
    (case a8 => k_is)
    (case l8 => k_is)
    (case c8 => k_is)
    (case k8 => k_is)
    (case a9 => k_is)
    (case l9 => k_is)
    (case c9 => k_is)
    (case k9 => k_is)
    (case a10 => k_is)
    (case l10 => k_is)
    (case c10 => k_is)
    (case k10 => k_is)
    (case a11 => k_is)
    (case l11 => k_is)
    (case c11 => k_is)
    (case k11 => k_is)
    (case a12 => k_is)
    (case l12 => k_is)
    (case c12 => k_is)
    (case k12 => k_is)
    (case a13 => k_is)
    (case l13 => k_is)
    (case c13 => k_is)
    (case k13 => k_is)
    (case a14 => k_is)
    (case l14 => k_is)
    (case c14 => k_is)
    (case k14 => k_is)
    (case a15 => k_is)
    (case l15 => k_is)
    (case c15 => k_is)
    (case k15 => k_is)
    (case a16 => k_is)
    (case l16 => k_is)
    (case c16 => k_is)
    (case k16 => k_is)
    (case a17 => k_is)
    (case l17 => k_is)
    (case c17 => k_is)
    (case k17 => k_is)
    (case a18 => k_is)
    (case l18 => k_is)
    (case c18 => k_is)
    (case k18 => k_is)
    (case a19 => k_is)
    (case l19 => k_is)
    (case c19 => k_is)
    (case k19 => k_is)
    (case a20 => k_is)
    (case l20 => k_is)
    (case c20 => k_is)
    (case k20 => k_is)
    (case a21 => k_is)
    (case l21 => k_is)
    (case c21 => k_is)
    (case k21 => k_is)
    (case a22 => k_is)
    (case l22 => k_is)
    (case c22 => k_is)
    (case k22 => k_is)
    (case a23 => k_is)
    (case l23 => k_is)
    (case c23 => k_is)
    (case k23 => k_is)
    (case aL => k_is)
    (case lL => k_is)
    (case cdL => k_is)
    (case kL => k_is)
    (case iL => rfl)
    (case vL => first | rfl | decide +kernel)
    (case nL => first | rfl | decide +kernel)
    (case tL => first | rfl | decide +kernel | k_is)
    (case aW => k_is)
    (case pgW => k_is)
    (case hdW => k_is)
    (case poW => k_is)
    (case saW => k_is)
    (case mkW => k_is)
    (case kcW => k_is)
    (case nW0 => k_is)
    (case nW1 => k_is)
    (case nW2 => k_is)
    (case am0 => k_is)
    (case im0 => k_is)
    (case lm0 => k_is)
    (case cm0 => k_is)
    (case km0 => k_is)
    (case am1 => k_is)
    (case im1 => k_is)
    (case lm1 => k_is)
    (case cm1 => k_is)
    (case km1 => k_is)
    (case am2 => k_is)
    (case im2 => k_is)
    (case lm2 => k_is)
    (case cm2 => k_is)
    (case km2 => k_is)
    (case am3 => k_is)
    (case im3 => k_is)
    (case lm3 => k_is)
    (case cm3 => k_is)
    (case km3 => k_is)
    (case am6 => k_is)
    (case im6 => k_is)
    (case lm6 => k_is)
    (case cm6 => k_is)
    (case km6 => k_is)
    (case z0 => k_is)
    (case z1 => k_is)
    (case z2 => k_is)
    (case z3 => k_is)
    (case z4 => k_is)
    (case z5 => k_is)
    (case z6 => k_is)
    (case z7 => k_is)
    (case z8 => k_is)
    (case z9 => k_is)
    (case z10 => k_is)
    (case z11 => k_is)
    (case y0 => k_is)
    (case e0 => k_is)
    (case e1 => k_is)
    (case e2 => k_is)
    (case e3 => k_is)
    (case e4 => k_is)
    (case e5 => k_is)
    (case e6 => k_is)
    (case e7 => k_is)
    (case e8 => k_is)
    (case eP => k_is)
    (case xa0 => k_exc)
    (case xb0 => k_is)
    (case xc0 => k_is)
    (case xd0 => k_is)
    (case xe0 => k_is)
    (case xf0 => k_is)
    (case xg0 => k_is)
    (case xh0 => k_is)
    (case xi0 => k_is)
    (case xj0 => first | k_is | rfl)
    (case xk0 => first | k_is | rfl)
    (case q0_1 => first | k_is | rfl)
    (case r0_1 => rfl)
    (case q0_2 => first | k_is | rfl)
    (case r0_2 => rfl)
    (case q0_3 => first | k_is | rfl)
    (case r0_3 => rfl)
    (case q0_4 => first | k_is | rfl)
    (case r0_4 => rfl)
    (case q0_5 => first | k_is | rfl)
    (case r0_5 => rfl)
    (case q0_6 => first | k_is | rfl)
    (case r0_6 => rfl)
    (case q0_7 => first | k_is | rfl)
    (case r0_7 => rfl)
    (case q0_8 => first | k_is | rfl)
    (case r0_8 => rfl)
    (case xa1 => k_exc)
    (case xb1 => k_is)
    (case xc1 => k_is)
    (case xd1 => k_is)
    (case xe1 => k_is)
    (case xf1 => k_is)
    (case xg1 => k_is)
    (case xh1 => k_is)
    (case xi1 => k_is)
    (case xj1 => first | k_is | rfl)
    (case xk1 => first | k_is | rfl)
    (case q1_0 => first | k_is | rfl)
    (case r1_0 => rfl)
    (case q1_2 => first | k_is | rfl)
    (case r1_2 => rfl)
    (case q1_3 => first | k_is | rfl)
    (case r1_3 => rfl)
    (case q1_4 => first | k_is | rfl)
    (case r1_4 => rfl)
    (case q1_5 => first | k_is | rfl)
    (case r1_5 => rfl)
    (case q1_6 => first | k_is | rfl)
    (case r1_6 => rfl)
    (case q1_7 => first | k_is | rfl)
    (case r1_7 => rfl)
    (case q1_8 => first | k_is | rfl)
    (case r1_8 => rfl)
    (case xa2 => k_exc)
    (case xb2 => k_is)
    (case xc2 => k_is)
    (case xd2 => k_is)
    (case xe2 => k_is)
    (case xf2 => k_is)
    (case xg2 => k_is)
    (case xh2 => k_is)
    (case xi2 => k_is)
    (case xj2 => first | k_is | rfl)
    (case xk2 => first | k_is | rfl)
    (case q2_0 => first | k_is | rfl)
    (case r2_0 => rfl)
    (case q2_1 => first | k_is | rfl)
    (case r2_1 => rfl)
    (case q2_3 => first | k_is | rfl)
    (case r2_3 => rfl)
    (case q2_4 => first | k_is | rfl)
    (case r2_4 => rfl)
    (case q2_5 => first | k_is | rfl)
    (case r2_5 => rfl)
    (case q2_6 => first | k_is | rfl)
    (case r2_6 => rfl)
    (case q2_7 => first | k_is | rfl)
    (case r2_7 => rfl)
    (case q2_8 => first | k_is | rfl)
    (case r2_8 => rfl)
    (case xa3 => k_exc)
    (case xb3 => k_is)
    (case xc3 => k_is)
    (case xd3 => k_is)
    (case xe3 => k_is)
    (case xf3 => k_is)
    (case xg3 => k_is)
    (case xh3 => k_is)
    (case xi3 => k_is)
    (case xj3 => first | k_is | rfl)
    (case xk3 => first | k_is | rfl)
    (case q3_0 => first | k_is | rfl)
    (case r3_0 => rfl)
    (case q3_1 => first | k_is | rfl)
    (case r3_1 => rfl)
    (case q3_2 => first | k_is | rfl)
    (case r3_2 => rfl)
    (case q3_4 => first | k_is | rfl)
    (case r3_4 => rfl)
    (case q3_5 => first | k_is | rfl)
    (case r3_5 => rfl)
    (case q3_6 => first | k_is | rfl)
    (case r3_6 => rfl)
    (case q3_7 => first | k_is | rfl)
    (case r3_7 => rfl)
    (case q3_8 => first | k_is | rfl)
    (case r3_8 => rfl)
    (case xa4 => k_exc)
    (case xb4 => k_is)
    (case xc4 => k_is)
    (case xd4 => k_is)
    (case xe4 => k_is)
    (case xf4 => k_is)
    (case xg4 => k_is)
    (case xh4 => k_is)
    (case xi4 => k_is)
    (case xj4 => first | k_is | rfl)
    (case xk4 => first | k_is | rfl)
    (case q4_0 => first | k_is | rfl)
    (case r4_0 => rfl)
    (case q4_1 => first | k_is | rfl)
    (case r4_1 => rfl)
    (case q4_2 => first | k_is | rfl)
    (case r4_2 => rfl)
    (case q4_3 => first | k_is | rfl)
    (case r4_3 => rfl)
    (case q4_5 => first | k_is | rfl)
    (case r4_5 => rfl)
    (case q4_6 => first | k_is | rfl)
    (case r4_6 => rfl)
    (case q4_7 => first | k_is | rfl)
    (case r4_7 => rfl)
    (case q4_8 => first | k_is | rfl)
    (case r4_8 => rfl)
    (case xa5 => k_exc)
    (case xb5 => k_is)
    (case xc5 => k_is)
    (case xd5 => k_is)
    (case xe5 => k_is)
    (case xf5 => k_is)
    (case xg5 => k_is)
    (case xh5 => k_is)
    (case xi5 => k_is)
    (case xj5 => first | k_is | rfl)
    (case xk5 => first | k_is | rfl)
    (case q5_0 => first | k_is | rfl)
    (case r5_0 => rfl)
    (case q5_1 => first | k_is | rfl)
    (case r5_1 => rfl)
    (case q5_2 => first | k_is | rfl)
    (case r5_2 => rfl)
    (case q5_3 => first | k_is | rfl)
    (case r5_3 => rfl)
    (case q5_4 => first | k_is | rfl)
    (case r5_4 => rfl)
    (case q5_6 => first | k_is | rfl)
    (case r5_6 => rfl)
    (case q5_7 => first | k_is | rfl)
    (case r5_7 => rfl)
    (case q5_8 => first | k_is | rfl)
    (case r5_8 => rfl)
    (case xa6 => k_exc)
    (case xb6 => k_is)
    (case xc6 => k_is)
    (case xd6 => k_is)
    (case xe6 => k_is)
    (case xf6 => k_is)
    (case xg6 => k_is)
    (case xh6 => k_is)
    (case xi6 => k_is)
    (case xj6 => first | k_is | rfl)
    (case xk6 => first | k_is | rfl)
    (case q6_0 => first | k_is | rfl)
    (case r6_0 => rfl)
    (case q6_1 => first | k_is | rfl)
    (case r6_1 => rfl)
    (case q6_2 => first | k_is | rfl)
    (case r6_2 => rfl)
    (case q6_3 => first | k_is | rfl)
    (case r6_3 => rfl)
    (case q6_4 => first | k_is | rfl)
    (case r6_4 => rfl)
    (case q6_5 => first | k_is | rfl)
    (case r6_5 => rfl)
    (case q6_7 => first | k_is | rfl)
    (case r6_7 => rfl)
    (case q6_8 => first | k_is | rfl)
    (case r6_8 => rfl)
    (case xa7 => k_exc)
    (case xb7 => k_is)
    (case xc7 => k_is)
    (case xd7 => k_is)
    (case xe7 => k_is)
    (case xf7 => k_is)
    (case xg7 => k_is)
    (case xh7 => k_is)
    (case xi7 => k_is)
    (case xj7 => first | k_is | rfl)
    (case xk7 => first | k_is | rfl)
    (case q7_0 => first | k_is | rfl)
    (case r7_0 => rfl)
    (case q7_1 => first | k_is | rfl)
    (case r7_1 => rfl)
    (case q7_2 => first | k_is | rfl)
    (case r7_2 => rfl)
    (case q7_3 => first | k_is | rfl)
    (case r7_3 => rfl)
    (case q7_4 => first | k_is | rfl)
    (case r7_4 => rfl)
    (case q7_5 => first | k_is | rfl)
    (case r7_5 => rfl)
    (case q7_6 => first | k_is | rfl)
    (case r7_6 => rfl)
    (case q7_8 => first | k_is | rfl)
    (case r7_8 => rfl)
    (case xa8 => k_exc)
    (case xb8 => k_is)
    (case xc8 => k_is)
    (case xd8 => k_is)
    (case xe8 => k_is)
    (case xf8 => k_is)
    (case xg8 => k_is)
    (case xh8 => k_is)
    (case xi8 => k_is)
    (case xj8 => first | k_is | rfl)
    (case xk8 => first | k_is | rfl)
    (case q8_0 => first | k_is | rfl)
    (case r8_0 => rfl)
    (case q8_1 => first | k_is | rfl)
    (case r8_1 => rfl)
    (case q8_2 => first | k_is | rfl)
    (case r8_2 => rfl)
    (case q8_3 => first | k_is | rfl)
    (case r8_3 => rfl)
    (case q8_4 => first | k_is | rfl)
    (case r8_4 => rfl)
    (case q8_5 => first | k_is | rfl)
    (case r8_5 => rfl)
    (case q8_6 => first | k_is | rfl)
    (case r8_6 => rfl)
    (case q8_7 => first | k_is | rfl)
    (case r8_7 => rfl)
    (case s0 => k_is)
    (case t0 => k_is)
    (case s1 => k_is)
    (case t1 => k_is)
    (case s2 => k_is)
    (case t2 => k_is)
    (case s3 => k_is)
    (case t3 => k_is)
    (case s4 => k_is)
    (case t4 => k_is)
    (case s5 => k_is)
    (case t5 => k_is)
    (case s6 => k_is)
    (case t6 => k_is)
    (case s7 => k_is)
    (case t7 => k_is)
    (case s8 => k_is)
    (case t8 => k_is)
    (case pb => k_is)
    (case pd => k_is)
    (case pt => k_is)
    (case zg0 => k_is)
    (case zg1 => k_is)

