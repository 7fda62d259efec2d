import PyProof.Rows.All
import Wide.All
import OpenK.AllK
import Wide.FinOn
import HandS.ForMost
import HandS.Walk
import HandS.Zip
import HandS.Deep
import HandS.TupAny
import HandS.IsInst
import HandS.Defaults
import HandS.WideBits
import KE.SortData
import HandS.Style
import KE.GoesMore
import PyProof.EnumMake
import HandS.Iter
import HandS.Star
import HandS.DictComp
import KE.LtSeq
import HandS.TupSets
import KE.KDictKeyed
import PyProof.ReprRoads
import PyProof.CallFns
import PyProof.ReprLen
import KE.KStateDown
import Lean
import HandS.Base
import HandS.Call
import HandS.Ends
import HandS.More
import HandS.Words
import HandS.WordsExc
import HandS.Head0
import HandS.Head1
import HandS.Head2
import HandS.HeadEnd
import HandS.HeadHook1
import HandS.HeadHook2
import PySem.Challenge.RW_actasone_k63_whole_own_lots_and_odds
set_option Elab.async false
set_option autoImplicit false
set_option linter.all false
set_option maxRecDepth 100000
set_option maxHeartbeats 1000000
namespace Ao
open PySem PySem.Spec PyProof.Rows L2
abbrev D := PyData
/-- what a slot holds -/
inductive SV where
  | d (x : D)
  | dct (kvs : List (Str × D))
  | feed
abbrev SS := List (Option SV)
abbrev Sg := L2.St
abbrev AK := PySem.W.Frag

/-! ### hidden addresses -/
open Classical in
noncomputable def hide (H : Hp) (G : Addr → Prop) : Hp := fun b => if G b then none else H b
theorem hide_get {H : Hp} {G : Addr → Prop} {b : Addr} {o : HO} (h : hide H G b = some o) : H b = some o ∧ ¬ G b := by
  unfold hide at h
  split at h
  · cases h
  · rename_i hn; exact ⟨h, hn⟩
theorem hide_of {H : Hp} {G : Addr → Prop} {b : Addr} {o : HO} (h : H b = some o) (n : ¬ G b) : hide H G b = some o := by
  unfold hide; rw [if_neg n]; exact h
theorem hide_le {H : Hp} {G : Addr → Prop} : Same (hide H G) H := fun _ _ h => (hide_get h).1
/-- more hidden, of what isn't there -/
theorem hide_more {H : Hp} {G G' : Addr → Prop} (h : ∀ b, G' b → ¬ G b → H b = none) : Same (hide H G) (hide H G') := fun b o e => by
  obtain ⟨e1, n⟩ := hide_get e
  refine hide_of e1 fun g => ?_
  rw [h b g n] at e1; cases e1
theorem hide_less {H : Hp} {G G' : Addr → Prop} (h : ∀ b, G b → G' b) : Same (hide H G') (hide H G) := fun b o e => by
  obtain ⟨e1, n⟩ := hide_get e
  exact hide_of e1 fun g => n (h b g)

/-! ### values that stand for data: lists and tuples of one's own -/
mutual
inductive Dq (H : Hp) : V → PyData → Prop
  | non : Dq H .non .none
  | bl (b : Bool) : Dq H (.bl b) (.bool b)
  | int (i : Int) : Dq H (.int i) (.int i)
  | str (x : Str) : Dq H (.str x) (.str x)
  | lst {a : Addr} {xs : List V} {ds : List PyData} : H a = some (.lst xs) → DqAll H xs ds → Dq H (.ref a) (.list ds)
  | tup {a : Addr} {xs : List V} {ds : List PyData} : H a = some (.tup xs) → DqAll H xs ds → Dq H (.ref a) (.tuple ds)
inductive DqAll (H : Hp) : List V → List PyData → Prop
  | nil : DqAll H [] []
  | cons {v : V} {vs : List V} {d : PyData} {ds : List PyData} : Dq H v d → DqAll H vs ds → DqAll H (v :: vs) (d :: ds)
end
mutual
theorem Dq.dp {K : AK} {H : Hp} : ∀ (d : D) (v : V), Dq H v d → Dp K H v d
  | .none, _, h => by cases h; exact .non
  | .bool b, _, h => by cases h; exact .bl b
  | .int i, _, h => by cases h; exact .int i
  | .str x, _, h => by cases h; exact .str x
  | .list ds, _, h => by
    cases h with
    | lst hs ha => exact .lst (.inl (.inl hs)) (DqAll.dp ds _ ha)
  | .tuple ds, _, h => by
    cases h with
    | tup hs ha => exact .tup (.inl (.inl hs)) (DqAll.dp ds _ ha)
  | .dict _, _, h => by cases h
theorem DqAll.dp {K : AK} {H : Hp} : ∀ (ds : List D) (vs : List V), DqAll H vs ds → DpAll K H vs ds
  | [], _, h => by cases h; exact .nil
  | d :: ds, _, h => by
    cases h with
    | cons h1 h2 => exact .cons (Dq.dp d _ h1) (DqAll.dp ds _ h2)
end
mutual
theorem dp_mono {H H' : Hp} (e : Same H H') : ∀ (d : D) (v : V), Dq H v d → Dq H' v d
  | .none, _, h => by cases h; exact .non
  | .bool b, _, h => by cases h; exact .bl b
  | .int i, _, h => by cases h; exact .int i
  | .str x, _, h => by cases h; exact .str x
  | .list ds, _, h => by
    cases h with
    | lst hs ha => exact .lst (e _ _ hs) (dps_mono e ds _ ha)
  | .tuple ds, _, h => by
    cases h with
    | tup hs ha => exact .tup (e _ _ hs) (dps_mono e ds _ ha)
  | .dict _, _, h => by cases h
theorem dps_mono {H H' : Hp} (e : Same H H') : ∀ (ds : List D) (vs : List V), DqAll H vs ds → DqAll H' vs ds
  | [], _, h => by cases h; exact .nil
  | d :: ds, _, h => by
    cases h with
    | cons h1 h2 => exact .cons (dp_mono e d _ h1) (dps_mono e ds _ h2)
end
theorem dps_len {H : Hp} : ∀ {vs : List V} {ds : List D}, DqAll H vs ds → vs.length = ds.length
  | [], _, h => by cases h; rfl
  | v :: vs, _, h => by
    cases h with
    | cons _ h2 => simp [dps_len h2]
theorem dps_get {H : Hp} : ∀ {vs : List V} {ds : List D} {i : Nat} {d : D}, DqAll H vs ds → ds[i]? = some d → ∃ v, vs[i]? = some v ∧ Dq H v d
  | _, [], _, _, h, e => by simp at e
  | _, d0 :: ds, 0, d, h, e => by
    cases h with
    | cons h1 h2 =>
      simp at e; subst e
      exact ⟨_, rfl, h1⟩
  | _, d0 :: ds, i + 1, d, h, e => by
    cases h with
    | cons h1 h2 =>
      obtain ⟨v, q1, q2⟩ := dps_get (i := i) h2 (by simpa using e)
      exact ⟨v, by simpa using q1, q2⟩
theorem dps_getV {H : Hp} : ∀ {vs : List V} {ds : List D} {i : Nat} {v : V}, DqAll H vs ds → vs[i]? = some v → ∃ d, ds[i]? = some d ∧ Dq H v d
  | [], _, _, _, h, e => by simp at e
  | v0 :: vs, _, 0, v, h, e => by
    cases h with
    | cons h1 h2 =>
      simp at e; subst e
      exact ⟨_, rfl, h1⟩
  | v0 :: vs, _, i + 1, v, h, e => by
    cases h with
    | cons h1 h2 =>
      obtain ⟨d, q1, q2⟩ := dps_getV (i := i) h2 (by simpa using e)
      exact ⟨d, by simpa using q1, q2⟩
theorem dps_app {H : Hp} : ∀ {vs ws : List V} {ds es : List D}, DqAll H vs ds → DqAll H ws es → DqAll H (vs ++ ws) (ds ++ es)
  | [], _, _, _, h, h' => by cases h; exact h'
  | _ :: _, _, _, _, h, h' => by
    cases h with
    | cons h1 h2 => exact .cons h1 (dps_app h2 h')
theorem dps_take {H : Hp} : ∀ {vs : List V} {ds : List D} (n : Nat), DqAll H vs ds → DqAll H (vs.take n) (ds.take n)
  | _, _, 0, _ => by simp; exact .nil
  | [], _, _ + 1, h => by cases h; exact .nil
  | _ :: _, _, n + 1, h => by
    cases h with
    | cons h1 h2 => exact .cons h1 (dps_take n h2)
theorem dps_drop {H : Hp} : ∀ {vs : List V} {ds : List D} (n : Nat), DqAll H vs ds → DqAll H (vs.drop n) (ds.drop n)
  | _, _, 0, h => h
  | [], _, _ + 1, h => by cases h; exact .nil
  | _ :: _, _, n + 1, h => by
    cases h with
    | cons h1 h2 => exact dps_drop n h2

/-! ### slots -/
def SRel (F : Addr) (Hh : Hp) : V → SV → Prop
  | v, .d x => Dq Hh v x
  | v, .dct kvs => ∃ (a : Addr) (ps : List (Key × V)), v = .ref a ∧ Hh a = some (.dK ps) ∧ Paired (fun (p : Key × V) (q : Str × D) => p.1 = .inr q.1 ∧ Dq Hh p.2 q.2) ps kvs
  | v, .feed => v = .ref F
theorem SRel.mono {F : Addr} {H H' : Hp} (e : Same H H') {v : V} {s : SV} (h : SRel F H v s) : SRel F H' v s := by
  cases s with
  | d x => exact dp_mono e x v h
  | dct kvs =>
    obtain ⟨a, ps, h1, h2, h3⟩ := h
    exact ⟨a, ps, h1, e _ _ h2, Paired.mapP h3 fun p q z => ⟨z.1, dp_mono e _ _ z.2⟩⟩
  | feed => exact h
structure RelS (F : Addr) (Hh : Hp) (σ : Sg) (ρ : SS) : Prop where
  len : σ.length = ρ.length
  at_ : ∀ (i : Nat) (s : SV), ρ[i]? = some (some s) → ∃ v, σ[i]? = some (some v) ∧ SRel F Hh v s
theorem RelS.mono {F : Addr} {H H' : Hp} (e : Same H H') {σ : Sg} {ρ : SS} (h : RelS F H σ ρ) : RelS F H' σ ρ :=
  ⟨h.len, fun i s q => let ⟨v, q1, q2⟩ := h.at_ i s q; ⟨v, q1, q2.mono e⟩⟩
theorem RelS.set {F : Addr} {Hh : Hp} {σ : Sg} {ρ : SS} (h : RelS F Hh σ ρ) {i : Nat} {v : V} {s : SV} (r : SRel F Hh v s) : RelS F Hh (σ.set i (some v)) (ρ.set i (some s)) := by
  refine ⟨by simp [h.len], fun j t q => ?_⟩
  by_cases hj : i = j
  · subst hj
    by_cases hl : i < ρ.length
    · rw [List.getElem?_set_self hl] at q
      cases q
      exact ⟨v, by rw [List.getElem?_set_self (by rw [h.len]; exact hl)], r⟩
    · rw [List.getElem?_eq_none (by simpa using hl)] at q; cases q
  · rw [List.getElem?_set_ne hj] at q ⊢
    exact h.at_ j t q
theorem RelS.unset {F : Addr} {Hh : Hp} {σ : Sg} {ρ : SS} (h : RelS F Hh σ ρ) {i : Nat} {v : Option V} : RelS F Hh (σ.set i v) (ρ.set i none) := by
  refine ⟨by simp [h.len], fun j t q => ?_⟩
  by_cases hj : i = j
  · subst hj
    by_cases hl : i < ρ.length
    · rw [List.getElem?_set_self hl] at q; cases q
    · rw [List.getElem?_eq_none (by simpa using hl)] at q; cases q
  · rw [List.getElem?_set_ne hj] at q ⊢
    exact h.at_ j t q

/-! ### the feed -/
def feedKV (C : Addr) (spot rest count : Int) : List (Key × V) := [(.inr "cells", .ref C), (.inr "spot", .int spot), (.inr "rest", .int rest), (.inr "count", .int count)]
def FeedOk (F : Addr) (H : Hp) : Prop := ∃ (C : Addr) (cs : List Int) (spot rest count : Int), H F = some (.dK (feedKV C spot rest count)) ∧ H C = some (.lst (cs.map V.int)) ∧ cs.length ≤ 63 ∧ 0 ≤ spot ∧ 0 ≤ count
/-- all but the feed is as it was -/
structure Step (F : Addr) (H H' : Hp) : Prop where
  at_ : ∀ b o, b ≠ F → H b = some o → H' b = some o
  cell : ∀ C sp re co, H F = some (.dK (feedKV C sp re co)) → ∃ sp' re' co', H' F = some (.dK (feedKV C sp' re' co'))
theorem Step.refl (F : Addr) (H : Hp) : Step F H H := ⟨fun _ _ _ h => h, fun C sp re co h => ⟨sp, re, co, h⟩⟩
theorem Step.trans {F : Addr} {H H1 H2 : Hp} (a : Step F H H1) (b : Step F H1 H2) : Step F H H2 := ⟨fun c o n h => b.at_ c o n (a.at_ c o n h), fun C sp re co h => let ⟨_, _, _, q⟩ := a.cell C sp re co h; b.cell C _ _ _ q⟩
theorem Step.of {F : Addr} {H H' : Hp} (e : Same H H') : Step F H H' := ⟨fun b o _ h => e b o h, fun C sp re co h => ⟨sp, re, co, e _ _ h⟩⟩
theorem Step.hide {F : Addr} {H H' : Hp} {G : Addr → Prop} (st : Step F H H') (g : G F) : Same (hide H G) (hide H' G) := fun b o e => by
  obtain ⟨e1, n⟩ := hide_get e
  exact hide_of (st.at_ b o (fun z => n (by rw [z]; exact g)) e1) n
theorem feed_same {F : Addr} {H H' : Hp} (e : Same H H') (h : FeedOk F H) : FeedOk F H' := by
  obtain ⟨C, cs, sp, re, co, h1, h2, h3⟩ := h
  exact ⟨C, cs, sp, re, co, e _ _ h1, e _ _ h2, h3⟩
theorem same_new {H : Hp} {p : Addr} {o : HO} (h : H p = none) : Same H (upd H p o) := fun b x e => by
  rw [upd_ne (ne_of_none e h)]
  exact e

/-- the cells' list stays -/
theorem feed_cells {F : Addr} {H H' : Hp} (fd : FeedOk F H) (st : Step F H H') (fd' : FeedOk F H') {L : Addr} (nL : H L = none) : L ≠ F ∧ ∀ o, FeedOk F (upd H' L o) := by
  obtain ⟨C, cs, sp, re, co, h1, h2, _⟩ := fd
  obtain ⟨C', cs', sp', re', co', h1', h2', h3'⟩ := fd'
  have hF : L ≠ F := fun z => by rw [z, h1] at nL; cases nL
  obtain ⟨sp2, re2, co2, q⟩ := st.cell C sp re co h1
  rw [h1'] at q
  have ec : C' = C := by
    simp only [feedKV, Option.some.injEq, HO.dK.injEq, List.cons.injEq, Prod.mk.injEq, V.ref.injEq] at q
    exact q.1.2
  have hC : C ≠ L := fun z => by rw [z, nL] at h2; cases h2
  refine ⟨hF, fun o => ⟨C', cs', sp', re', co', by rw [upd_ne hF.symm]; exact h1', ?_, h3'⟩⟩
  rw [upd_ne (by rw [ec]; exact hC)]
  exact h2'
/-- where one stands -/
structure Ok (F : Addr) (G : Addr → Prop) (H : Hp) (σ : Sg) (ρ : SS) : Prop where
  gf : G F
  sub : ∀ b, G b → H b ≠ none
  feed : FeedOk F H
  rel : RelS F (hide H G) σ ρ
theorem Ok.step {F : Addr} {G : Addr → Prop} {H H' : Hp} {σ : Sg} {ρ : SS} (k : Ok F G H σ ρ) (st : Step F H H') (fd : FeedOk F H') : Ok F G H' σ ρ := by
  refine ⟨k.gf, fun b g e => ?_, fd, k.rel.mono (st.hide k.gf)⟩
  by_cases hb : b = F
  · obtain ⟨_, _, _, _, _, h1, _⟩ := fd
    rw [hb, h1] at e; cases e
  · cases q : H b with
    | none => exact k.sub b g q
    | some o => rw [st.at_ b o hb q] at e; cases e
theorem Ok.fresh {F : Addr} {G : Addr → Prop} {H : Hp} {σ : Sg} {ρ : SS} (k : Ok F G H σ ρ) {p : Addr} (h : H p = none) : ¬ G p := fun g => k.sub p g h

/-! ### the lifted readings -/
abbrev TD := SS → (D → Prop) → Prop
abbrev TB := SS → (Bool → Prop) → Prop
abbrev TL := SS → (List SV → Prop) → Prop
/-- what follows an expression -/
def Fol (F : Addr) (G : Addr → Prop) (H : Hp) (P : D → Prop) (Q : VK) : Prop := ∀ d v H', P d → Step F H H' → FeedOk F H' → Dq (hide H' G) v d → Q v H'
def lf (T : TD) : TE := fun σ H Q => ∃ F G ρ P, Ok F G H σ ρ ∧ T ρ P ∧ Fol F G H P Q
def lt (T : TB) : TT := fun σ H Q => ∃ F G ρ P, Ok F G H σ ρ ∧ T ρ P ∧ ∀ b H', P b → Step F H H' → FeedOk F H' → Q b H'
inductive SAll (F : Addr) (Hh : Hp) : List V → List SV → Prop
  | nil : SAll F Hh [] []
  | cons {v : V} {vs : List V} {s : SV} {ss : List SV} : SRel F Hh v s → SAll F Hh vs ss → SAll F Hh (v :: vs) (s :: ss)
theorem SAll.mono {F : Addr} {H H' : Hp} (e : Same H H') {vs : List V} {ss : List SV} (h : SAll F H vs ss) : SAll F H' vs ss := by
  induction h with
  | nil => exact .nil
  | cons h1 _ ih => exact .cons (h1.mono e) ih
theorem SAll.len {F : Addr} {H : Hp} {vs : List V} {ss : List SV} (h : SAll F H vs ss) : vs.length = ss.length := by
  induction h with
  | nil => rfl
  | cons h1 _ ih => simp [ih]
theorem SAll.app {F : Addr} {H : Hp} {vs vs' : List V} {ss ss' : List SV} (h : SAll F H vs ss) (h' : SAll F H vs' ss') : SAll F H (vs ++ vs') (ss ++ ss') := by
  induction h with
  | nil => exact h'
  | cons h1 _ ih => exact .cons h1 ih
theorem SAll.get {F : Addr} {H : Hp} {vs : List V} {ss : List SV} (h : SAll F H vs ss) : ∀ {i : Nat} {s : SV}, ss[i]? = some s → ∃ v, vs[i]? = some v ∧ SRel F H v s := by
  induction h with
  | nil => intro i s e; simp at e
  | cons h1 _ ih =>
    intro i s e
    cases i with
    | zero => simp at e; subst e; exact ⟨_, rfl, h1⟩
    | succ i => obtain ⟨v, q1, q2⟩ := ih (i := i) (by simpa using e); exact ⟨v, by simpa using q1, q2⟩
def la (T : TL) : TA := fun σ H Q => ∃ F G ρ P, Ok F G H σ ρ ∧ T ρ P ∧ ∀ ss vs H', P ss → Step F H H' → FeedOk F H' → SAll F (hide H' G) vs ss → Q vs H'

theorem PE.weak {X : Cx} {e : Expr} {t t' : TE} (h : PE X e t) (w : ∀ σ H Q, t' σ H Q → t σ H Q) : PE X e t' := ⟨fun pins s σ H Q I q => h.run pins s σ H Q I (w σ H Q q)⟩
theorem PE.weakI {X : Cx} {e : Expr} {t t' : TE} (h : PE X e t) (w : ∀ pins s σ H Q, Inv X pins σ H s → t' σ H Q → t σ H Q) : PE X e t' := ⟨fun pins s σ H Q I q => h.run pins s σ H Q I (w pins s σ H Q I q)⟩
theorem PT.weak {X : Cx} {e : Expr} {t t' : TT} (h : PT X e t) (w : ∀ σ H Q, t' σ H Q → t σ H Q) : PT X e t' := ⟨fun pins s σ H Q I q => h.run pins s σ H Q I (w σ H Q q)⟩
theorem PW.weak {X : Cx} {e : Expr} {t t' : TT} (h : PW X e t) (w : ∀ σ H Q, t' σ H Q → t σ H Q) : PW X e t' := ⟨fun wh pins s σ H Q I q => h.run wh pins s σ H Q I (w σ H Q q)⟩
theorem PA.weak {X : Cx} {es : List Expr} {t t' : TA} (h : PA X es t) (w : ∀ σ H Q, t' σ H Q → t σ H Q) : PA X es t' := ⟨fun pos pins s σ H Q I q => h.run pos pins s σ H Q I (w σ H Q q)⟩
theorem PS.weak {X : Cx} {st : Stmt} {t t' : TS} (h : PS X st t) (w : ∀ D σ H, t' D σ H → t D σ H) : PS X st t' := ⟨fun pins s σ H D I q => h.run pins s σ H D I (w D σ H q)⟩
theorem PSs.weak {X : Cx} {st : List Stmt} {t t' : TS} (h : PSs X st t) (w : ∀ D σ H, t' D σ H → t D σ H) : PSs X st t' := ⟨fun pins s σ H D I q => h.run pins s σ H D I (w D σ H q)⟩

/-! ### names, constants -/
section
variable {X : Cx} {pos : Pos}
def dN (i : Nat) : TD := fun ρ P => ∃ d, ρ[i]? = some (some (.d d)) ∧ P d
theorem de_n (i : Nat) {x : Str} (hN : X.N[i]? = some x := by rfl) (hv : Vis X.env.scope x := by first | exact Or.inl rfl | exact Or.inr (Or.inl rfl) | exact Or.inr (Or.inr rfl)) (hd : (x == ("__debug__" : Str)) = false := by decide)
    (hcd : (x == ("__classdict__" : Str)) = false := by decide) : PE X (.Name x pos) (lf (dN i)) := by
  refine PE.weak (pe_var hN hv hd hcd) fun σ H Q ⟨F, G, ρ, P, k, ⟨d, e, p⟩, fo⟩ => ?_
  obtain ⟨v, q1, q2⟩ := k.rel.at_ i _ e
  exact ⟨v, q1, fo d v H p (Step.refl F H) k.feed q2⟩
def dC (d : D) : TD := fun _ P => P d
theorem lf_const {v : V} {d : D} (hd : ∀ H, Dq H v d) (σ : Sg) (H : Hp) (Q : VK) (h : lf (dC d) σ H Q) : tC v σ H Q := by
  obtain ⟨F, G, ρ, P, k, p, fo⟩ := h
  exact fo d v H p (Step.refl F H) k.feed (hd _)
theorem de_int {i j} : PE X (.Constant (.int i) j pos) (lf (dC (.int i))) := PE.weak pe_int (lf_const fun _ => .int i)
theorem de_bl {b j} : PE X (.Constant (.bool b) j pos) (lf (dC (.bool b))) := PE.weak pe_bl (lf_const fun _ => .bl b)
theorem de_non {j} : PE X (.Constant .none j pos) (lf (dC .none)) := PE.weak pe_non (lf_const fun _ => .non)
theorem de_str {x j} : PE X (.Constant (.str x) j pos) (lf (dC (.str x))) := PE.weak pe_str (lf_const fun _ => .str x)
theorem de_gstr {x z : Str} (hg : Gl X x) (hm : ∃ t, X.mg x = some (.str z t)) (hd : (x == ("__debug__" : Str)) = false := by decide) : PE X (.Name x pos) (lf (dC (.str z))) := by
  obtain ⟨t, hm⟩ := hm
  exact PE.weak (pe_glob (v := .str z) hg hm ⟨t, rfl⟩ hd) (lf_const fun _ => .str z)
theorem de_gint {x : Str} {i : Int} (hg : Gl X x) (hm : ∃ t, X.mg x = some (.int i t)) (hd : (x == ("__debug__" : Str)) = false := by decide) : PE X (.Name x pos) (lf (dC (.int i))) := by
  obtain ⟨t, hm⟩ := hm
  exact PE.weak (pe_glob (v := .int i) hg hm ⟨t, rfl⟩ hd) (lf_const fun _ => .int i)
/-- never reached -/
def dX : TD := fun _ _ => False
theorem de_never {e : Expr} : PE X e (lf dX) := ⟨fun pins s σ H Q I ⟨F, G, ρ, P, k, p, fo⟩ => p.elim⟩

/-! ### arguments -/
def aNil : TL := fun _ P => P []
def aCons (T : TD) (U : TL) : TL := fun ρ P => T ρ fun d => U ρ fun ss => P (.d d :: ss)
def aFeed (i : Nat) (U : TL) : TL := fun ρ P => ρ[i]? = some (some .feed) ∧ U ρ fun ss => P (.feed :: ss)
theorem da_nil : PA X [] (la aNil) := PA.weak pa_nil fun σ H Q ⟨F, G, ρ, P, k, p, fo⟩ => fo [] [] H p (Step.refl F H) k.feed .nil
theorem da_cons {e : Expr} {es : List Expr} {T : TD} {U : TL} (he : PE X e (lf T)) (hr : PA X es (la U)) (hs : starEach (e :: es) X.env = (false, eval e X.env) :: starEach es X.env := by rfl) : PA X (e :: es) (la (aCons T U)) := by
  refine PA.weak (pa_cons he hr hs) fun σ H Q ⟨F, G, ρ, P, k, p, fo⟩ => ?_
  refine ⟨F, G, ρ, _, k, p, fun d v H1 p1 st1 fd1 r1 => ?_⟩
  refine ⟨F, G, ρ, _, k.step st1 fd1, p1, fun ss vs H2 p2 st2 fd2 r2 => ?_⟩
  exact fo _ _ H2 p2 (st1.trans st2) fd2 (.cons (dp_mono (st2.hide k.gf) d v r1) r2)
theorem da_feed (i : Nat) {x : Str} {es : List Expr} {U : TL} (hr : PA X es (la U)) (hN : X.N[i]? = some x := by rfl) (hv : Vis X.env.scope x := by first | exact Or.inl rfl | exact Or.inr (Or.inl rfl) | exact Or.inr (Or.inr rfl)) (hd : (x == ("__debug__" : Str)) = false := by decide)
    (hcd : (x == ("__classdict__" : Str)) = false := by decide) (hs : starEach (.Name x pos :: es) X.env = (false, eval (.Name x pos) X.env) :: starEach es X.env := by rfl) : PA X (.Name x pos :: es) (la (aFeed i U)) := by
  refine PA.weak (pa_cons (pe_var hN hv hd hcd) hr hs) fun σ H Q ⟨F, G, ρ, P, k, ⟨e, p⟩, fo⟩ => ?_
  obtain ⟨v, q1, q2⟩ := k.rel.at_ i _ e
  refine ⟨v, q1, F, G, ρ, _, k, p, fun ss vs H2 p2 st2 fd2 r2 => ?_⟩
  exact fo _ _ H2 p2 st2 fd2 (.cons (SRel.mono (s := .feed) (st2.hide k.gf) q2) r2)

/-! ### displays -/
def svD : SV → Option D
  | .d x => some x
  | _ => none
/-- plain data -/
def allD : List SV → Option (List D)
  | [] => some []
  | .d x :: r => (allD r).map (x :: ·)
  | _ :: _ => none
theorem SAll.dps {F : Addr} {H : Hp} {vs : List V} {ss : List SV} (h : SAll F H vs ss) : ∀ {ds : List D}, allD ss = some ds → DqAll H vs ds := by
  induction h with
  | nil => intro ds e; cases e; exact .nil
  | @cons v vs s ss h1 _ ih =>
    intro ds e
    cases s with
    | d x =>
      unfold allD at e
      cases q : allD ss with
      | none => rw [q] at e; cases e
      | some r => rw [q] at e; cases e; exact .cons h1 (ih q)
    | dct _ => cases e
    | feed => cases e
def dTup (U : TL) : TD := fun ρ P => U ρ fun ss => ∃ ds, allD ss = some ds ∧ ds.length ≤ 1000 ∧ P (.tuple ds)
def dLst (U : TL) : TD := fun ρ P => U ρ fun ss => ∃ ds, allD ss = some ds ∧ ds.length ≤ 1000 ∧ P (.list ds)
theorem de_tup {es : List Expr} {U : TL} {k : Nat} (h : PA X es (la U)) : PE X (.Tuple es k pos) (lf (dTup U)) := by
  refine PE.weak (pe_tup h) fun σ H Q ⟨F, G, ρ, P, k, p, fo⟩ => ?_
  refine ⟨F, G, ρ, _, k, p, fun ss vs H1 ⟨ds, e, hl, p1⟩ st fd r => ?_⟩
  have rd := r.dps e
  refine ⟨Nat.le_of_lt (small1000 (by rw [dps_len rd]; exact hl)), fun q nq => ?_⟩
  have ng := (k.step st fd).fresh nq
  refine fo _ _ _ p1 (st.trans (Step.of (same_new nq))) (feed_same (same_new nq) fd) (.tup (hide_of upd_same ng) (dps_mono ((Step.of (same_new nq)).hide k.gf) ds _ rd))
theorem de_lst {es : List Expr} {U : TL} (h : PA X es (la U)) : PE X (.List es pos) (lf (dLst U)) := by
  refine PE.weak (pe_lst h) fun σ H Q ⟨F, G, ρ, P, k, p, fo⟩ => ?_
  refine ⟨F, G, ρ, _, k, p, fun ss vs H1 ⟨ds, e, hl, p1⟩ st fd r => ?_⟩
  have rd := r.dps e
  refine ⟨Nat.le_of_lt (small1000 (by rw [dps_len rd]; exact hl)), fun q nq => ?_⟩
  have ng := (k.step st fd).fresh nq
  refine fo _ _ _ p1 (st.trans (Step.of (same_new nq))) (feed_same (same_new nq) fd) (.lst (hide_of upd_same ng) (dps_mono ((Step.of (same_new nq)).hide k.gf) ds _ rd))
end
end Ao
set_option Elab.async false
set_option autoImplicit false
set_option linter.all false
set_option maxRecDepth 100000
set_option maxHeartbeats 1000000
namespace Ao
open PySem PySem.Spec PyProof.Rows L2
abbrev F1 := D → (D → Prop) → Prop
abbrev F2 := D → D → (D → Prop) → Prop
/-- a finished value -/
theorem fol_here {F : Addr} {G : Addr → Prop} {H : Hp} {P : D → Prop} {Q : VK} (fo : Fol F G H P Q) (fd : FeedOk F H) {d : D} {v : V} (p : P d) (r : Dq (hide H G) v d) : Q v H := fo d v H p (Step.refl F H) fd r
/-- a new tuple, a new list -/
theorem fol_tup {F : Addr} {G : Addr → Prop} {H : Hp} {σ : Sg} {ρ : SS} {P : D → Prop} {Q : VK} (k : Ok F G H σ ρ) (fo : Fol F G H P Q) {ds : List D} {vs : List V} (p : P (.tuple ds)) (r : DqAll (hide H G) vs ds) {q : Addr} (nq : H q = none) : Q (.ref q) (upd H q (.tup vs)) := by
  have ng := k.fresh nq
  exact fo _ _ _ p (Step.of (same_new nq)) (feed_same (same_new nq) k.feed) (.tup (hide_of upd_same ng) (dps_mono ((Step.of (same_new nq)).hide k.gf) ds _ r))
theorem fol_lst {F : Addr} {G : Addr → Prop} {H : Hp} {σ : Sg} {ρ : SS} {P : D → Prop} {Q : VK} (k : Ok F G H σ ρ) (fo : Fol F G H P Q) {ds : List D} {vs : List V} (p : P (.list ds)) (r : DqAll (hide H G) vs ds) {q : Addr} (nq : H q = none) : Q (.ref q) (upd H q (.lst vs)) := by
  have ng := k.fresh nq
  exact fo _ _ _ p (Step.of (same_new nq)) (feed_same (same_new nq) k.feed) (.lst (hide_of upd_same ng) (dps_mono ((Step.of (same_new nq)).hide k.gf) ds _ r))
theorem Fol.step {F : Addr} {G : Addr → Prop} {H H1 : Hp} {P : D → Prop} {Q : VK} (fo : Fol F G H P Q) (st : Step F H H1) : Fol F G H1 P Q := fun d v H' p s1 fd r => fo d v H' p (st.trans s1) fd r
theorem dq_up {H : Hp} {G : Addr → Prop} {v : V} {d : D} (h : Dq (hide H G) v d) : Dq H v d := dp_mono hide_le d v h
theorem dqs_up {H : Hp} {G : Addr → Prop} {vs : List V} {ds : List D} (h : DqAll (hide H G) vs ds) : DqAll H vs ds := dps_mono hide_le ds vs h

/-! ### two values -/
def d2 (f : F2) (T U : TD) : TD := fun ρ P => T ρ fun x => U ρ fun y => f x y P
def R2Ok (r : R2) (f : F2) : Prop := ∀ (F : Addr) (G : Addr → Prop) (H : Hp) (σ : Sg) (ρ : SS) (x y : V) (d e : D) (P : D → Prop) (Q : VK), Ok F G H σ ρ → Dq (hide H G) x d → Dq (hide H G) y e → f d e P → Fol F G H P Q → r x y H Q
theorem t2 {r : R2} {f : F2} {T U : TD} (hr : R2Ok r f) (σ : Sg) (H : Hp) (Q : VK) (h : lf (d2 f T U) σ H Q) : tOp r (lf T) (lf U) σ H Q := by
  obtain ⟨F, G, ρ, P, k, p, fo⟩ := h
  refine ⟨F, G, ρ, _, k, p, fun d v H1 p1 st1 fd1 r1 => ?_⟩
  refine ⟨F, G, ρ, _, k.step st1 fd1, p1, fun e u H2 p2 st2 fd2 r2 => ?_⟩
  have k2 := (k.step st1 fd1).step st2 fd2
  exact hr F G H2 σ ρ v u d e P Q k2 (dp_mono (st2.hide k.gf) d v r1) r2 p2 (fo.step (st1.trans st2))
/-- a test of a truth value -/
def tb (T : TD) : TB := fun ρ P => T ρ fun d => ∃ b, d = .bool b ∧ P b
theorem t_test {T : TD} (σ : Sg) (H : Hp) (Q : Bool → Hp → Prop) (h : lt (tb T) σ H Q) : lf T σ H fun x H1 => ∃ c, x = .bl c ∧ Q c H1 := by
  obtain ⟨F, G, ρ, P, k, p, fo⟩ := h
  refine ⟨F, G, ρ, _, k, p, fun d v H1 ⟨b, e, pb⟩ st fd r => ?_⟩
  subst e
  cases r
  exact ⟨b, rfl, fo b H1 pb st fd⟩
section
variable {X : Cx} {a b : Expr} {T U : TD} {pos : Pos}
theorem de_cmp {op : CmpOp} {r : R2} {f : F2} (hr : R2Ok r f) (ho : OpR X (compareOp op) r) (ha : PE X a (lf T)) (hb : PE X b (lf U)) (hm : behindInMarks op b = false) : PE X (.Compare a [op] [b] pos) (lf (d2 f T U)) :=
  PE.weak (pe_cmpR ho ha hb hm) (t2 hr)
theorem dt_cmp {op : CmpOp} {r : R2} {f : F2} (hr : R2Ok r f) (ho : OpR X (compareOp op) r) (ha : PE X a (lf T)) (hb : PE X b (lf U)) (hm : behindInMarks op b = false) : PT X (.Compare a [op] [b] pos) (lt (tb (d2 f T U))) :=
  PT.weak (pt_cmpR ho ha hb hm) fun σ H Q h => t2 hr σ H _ (t_test σ H Q h)
theorem de_op {op : Operator} {r : R2} {f : F2} (hr : R2Ok r f) (ho : OpR X (binaryOp op) r) (ha : PE X a (lf T)) (hb : PE X b (lf U)) : PE X (.BinOp a op b pos) (lf (d2 f T U)) :=
  PE.weak (pe_op ho ha hb) (t2 hr)
theorem dt_val {e : Expr} (h : PE X e (lf T)) (he : ∀ whole, isTrue e X.env whole = (do let v ← whole; standAt e.pos; holding [v] (truthy v)) := by intro _; rfl) : PT X e (lt (tb T)) :=
  PT.weak (pt_val h he) fun σ H Q h => t_test σ H Q h
end

/-! ### ==, !=, in, not in, <, <=, is None -/
def fEq : F2 := fun x y P => SeqAt.shaped x = true ∧ SeqAt.shaped y = true ∧ P (.bool (PyData.eqv x y))
def fNe : F2 := fun x y P => SeqAt.shaped x = true ∧ SeqAt.shaped y = true ∧ P (.bool (!PyData.eqv x y))
theorem r_eq {K : AK} : R2Ok (rEqD K) fEq := fun F G H σ ρ x y d e P Q k hx hy ⟨s1, s2, p⟩ fo => ⟨d, e, Dq.dp d x (dq_up hx), Dq.dp e y (dq_up hy), s1, s2, fol_here fo k.feed p (.bl _)⟩
theorem r_ne {K : AK} : R2Ok (rNeD K) fNe := fun F G H σ ρ x y d e P Q k hx hy ⟨s1, s2, p⟩ fo => ⟨d, e, Dq.dp d x (dq_up hx), Dq.dp e y (dq_up hy), s1, s2, fol_here fo k.feed p (.bl _)⟩
def Seq (y : D) (ds : List D) : Prop := y = .list ds ∨ y = .tuple ds
def fIn : F2 := fun x y P => ∃ ds, Seq y ds ∧ SeqAt.shaped x = true ∧ SeqAt.shaped (.list ds) = true ∧ P (.bool (ds.any fun z => PyData.eqv z x))
def fNi : F2 := fun x y P => ∃ ds, Seq y ds ∧ SeqAt.shaped x = true ∧ SeqAt.shaped (.list ds) = true ∧ P (.bool (!ds.any fun z => PyData.eqv z x))
def rInS (K : AK) : R2 := fun x y H Q => ∃ d e ds, Dp K H x d ∧ Dp K H y e ∧ Seq e ds ∧ SeqAt.shaped d = true ∧ SeqAt.shaped (.list ds) = true ∧ Q (.bl (ds.any fun z => PyData.eqv z d)) H
def rNiS (K : AK) : R2 := fun x y H Q => ∃ d e ds, Dp K H x d ∧ Dp K H y e ∧ Seq e ds ∧ SeqAt.shaped d = true ∧ SeqAt.shaped (.list ds) = true ∧ Q (.bl (!ds.any fun z => PyData.eqv z d)) H
section
variable {X : Cx}
theorem op_inS (hu : X.A.units + 65 < cLine) : OpR X (compareOp .In) (rInS X.K) := by
  intro pins s σ H x y v u Q I rx ry h
  obtain ⟨d, e, ds, hd, he, hs, sd, se, q⟩ := h
  obtain ⟨as, r1⟩ := Dp.reads I d x v hd rx
  obtain ⟨bs, r2⟩ := Dp.reads I e y u he ry
  have c2 : PyData.canLayAll0 ds = true := SeqAt.canLay_of_shaped se
  rcases hs with rfl | rfl
  · exact SeqAt.in_list_reads r2 r1 c2 (SeqAt.canLay_of_shaped sd) (room_in_shaped sd hu) ⟨.bl _, H, I, rfl, q⟩
  · exact SeqAt.in_tuple_reads r2 r1 c2 (SeqAt.canLay_of_shaped sd) (room_in_shaped sd hu) ⟨.bl _, H, I, rfl, q⟩
theorem op_niS (hu : X.A.units + 65 < cLine) : OpR X (compareOp .NotIn) (rNiS X.K) := by
  intro pins s σ H x y v u Q I rx ry h
  obtain ⟨d, e, ds, hd, he, hs, sd, se, q⟩ := h
  obtain ⟨as, r1⟩ := Dp.reads I d x v hd rx
  obtain ⟨bs, r2⟩ := Dp.reads I e y u he ry
  have c2 : PyData.canLayAll0 ds = true := SeqAt.canLay_of_shaped se
  rcases hs with rfl | rfl
  · exact SeqAt.notIn_list_reads r2 r1 c2 (SeqAt.canLay_of_shaped sd) (room_in_shaped sd hu) ⟨.bl _, H, I, rfl, q⟩
  · exact SeqAt.notIn_tuple_reads r2 r1 c2 (SeqAt.canLay_of_shaped sd) (room_in_shaped sd hu) ⟨.bl _, H, I, rfl, q⟩
end
theorem r_in {K : AK} : R2Ok (rInS K) fIn := fun F G H σ ρ x y d e P Q k hx hy ⟨ds, hs, s1, s2, p⟩ fo => ⟨d, e, ds, Dq.dp d x (dq_up hx), Dq.dp e y (dq_up hy), hs, s1, s2, fol_here fo k.feed p (.bl _)⟩
theorem r_ni {K : AK} : R2Ok (rNiS K) fNi := fun F G H σ ρ x y d e P Q k hx hy ⟨ds, hs, s1, s2, p⟩ fo => ⟨d, e, ds, Dq.dp d x (dq_up hx), Dq.dp e y (dq_up hy), hs, s1, s2, fol_here fo k.feed p (.bl _)⟩
/-- a sign in a text -/
def fInC : F2 := fun x y P => ∃ (c : Nat) (z : Str), x = .str ⟨#[c]⟩ ∧ y = .str z ∧ P (.bool (decide (c ∈ z.cps.toList)))
theorem r_inC : R2Ok (fun x y H Q => ∃ (c : Nat) (z : Str), x = .str ⟨#[c]⟩ ∧ y = .str z ∧ Q (.bl (decide (c ∈ z.cps.toList))) H) fInC := fun F G H σ ρ x y d e P Q k hx hy ⟨c, z, e1, e2, p⟩ fo => by
  subst e1 e2
  cases hx; cases hy
  exact ⟨c, z, rfl, rfl, fol_here fo k.feed p (.bl _)⟩
/-- x < y of alike data -/
def fLt : F2 := fun x y P => PySem.W.alike x y = true ∧ x ≠ .none ∧ x.depth ≤ 60 ∧ P (.bool (PySem.W.dataLt x y))
def rLtD (K : AK) : R2 := fun x y H Q => ∃ d e, Dp K H x d ∧ Dp K H y e ∧ PySem.W.alike d e = true ∧ d ≠ .none ∧ d.depth ≤ 60 ∧ Q (.bl (PySem.W.dataLt d e)) H
theorem op_ltD {X : Cx} (hu : X.A.units + 64 < cLine) : OpR X (compareOp .Lt) (rLtD X.K) := by
  intro pins s σ H x y v u Q I rx ry h
  obtain ⟨d, e, hd, he, al, nn, dp, q⟩ := h
  obtain ⟨as, r1⟩ := Dp.reads I d x v hd rx
  obtain ⟨bs, r2⟩ := Dp.reads I e y u he ry
  have hr : X.A.units + min d.depth e.depth < cLine := Nat.lt_of_le_of_lt (Nat.add_le_add_left (Nat.le_trans (Nat.min_le_left _ _) (Nat.le_trans dp (by decide : 60 ≤ 64))) _) hu
  show wpAny _ _ (richCompare .Lt v u) _ _ _
  exact PySem.W.rcLt_alike d e X.A s v u as bs r1 r2 al nn hr _ _ _ _ ⟨.bl _, H, I, rfl, q⟩
theorem r_lt {K : AK} : R2Ok (rLtD K) fLt := fun F G H σ ρ x y d e P Q k hx hy ⟨al, nn, dp, p⟩ fo => ⟨d, e, Dq.dp d x (dq_up hx), Dq.dp e y (dq_up hy), al, nn, dp, fol_here fo k.feed p (.bl _)⟩
def fLeS : F2 := fun x y P => ∃ i j, x = .str i ∧ y = .str j ∧ P (.bool (!decide (j.cps.toList < i.cps.toList)))
theorem r_leS : R2Ok (fun x y H Q => ∃ i j, x = .str i ∧ y = .str j ∧ Q (.bl (!decide (j.cps.toList < i.cps.toList))) H) fLeS := fun F G H σ ρ x y d e P Q k hx hy ⟨i, j, e1, e2, p⟩ fo => by
  subst e1 e2
  cases hx; cases hy
  exact ⟨i, j, rfl, rfl, fol_here fo k.feed p (.bl _)⟩
def fIB (g : Int → Int → Bool) : F2 := fun x y P => ∃ i j, x = .int i ∧ y = .int j ∧ P (.bool (g i j))
theorem r_iB {g : Int → Int → Bool} : R2Ok (rI0 fun i j => .bl (g i j)) (fIB g) := fun F G H σ ρ x y d e P Q k hx hy ⟨i, j, e1, e2, p⟩ fo => by
  subst e1 e2
  cases hx; cases hy
  exact ⟨i, j, rfl, rfl, fol_here fo k.feed p (.bl _)⟩
def isN : D → Bool
  | .none => true
  | _ => false
def fIs : F2 := fun x y P => y = .none ∧ P (.bool (isN x))
def fNs : F2 := fun x y P => y = .none ∧ P (.bool (!isN x))
theorem isN_ok {H : Hp} {v : V} {d : D} (h : Dq H v d) : decide (v = V.non) = isN d := by
  cases h <;> first | rfl | (exact decide_eq_false (fun z => nomatch z))
theorem r_is : R2Ok (fun x y H Q => y = .non ∧ Q (.bl (decide (x = .non))) H) fIs := fun F G H σ ρ x y d e P Q k hx hy ⟨e1, p⟩ fo => by
  subst e1
  cases hy
  refine ⟨rfl, ?_⟩
  rw [isN_ok hx]
  exact fol_here fo k.feed p (.bl _)
theorem r_ns : R2Ok (fun x y H Q => y = .non ∧ Q (.bl (!decide (x = .non))) H) fNs := fun F G H σ ρ x y d e P Q k hx hy ⟨e1, p⟩ fo => by
  subst e1
  cases hy
  refine ⟨rfl, ?_⟩
  rw [isN_ok hx]
  exact fol_here fo k.feed p (.bl _)

/-! ### +, -, // -/
def fII (C : Int → Int → Prop) (g : Int → Int → Int) : F2 := fun x y P => ∃ i j, x = .int i ∧ y = .int j ∧ C i j ∧ P (.int (g i j))
theorem r_II {C : Int → Int → Prop} {g : Int → Int → Int} : R2Ok (rI C fun i j => .int (g i j)) (fII C g) := fun F G H σ ρ x y d e P Q k hx hy ⟨i, j, e1, e2, c, p⟩ fo => by
  subst e1 e2
  cases hx; cases hy
  exact ⟨i, j, rfl, rfl, c, fol_here fo k.feed p (.int _)⟩
theorem r_II0 {g : Int → Int → Int} : R2Ok (rI0 fun i j => .int (g i j)) (fII (fun _ _ => True) g) := fun F G H σ ρ x y d e P Q k hx hy ⟨i, j, e1, e2, c, p⟩ fo => by
  subst e1 e2
  cases hx; cases hy
  exact ⟨i, j, rfl, rfl, fol_here fo k.feed p (.int _)⟩
/-- list + list -/
def fCat : F2 := fun x y P => ∃ xs ys, x = .list xs ∧ y = .list ys ∧ xs.length + ys.length ≤ 100000 ∧ P (.list (xs ++ ys))
theorem line_ok {n : Nat} (h : n ≤ 100000) : n ≤ sizeLine := Nat.le_trans h (by decide)
theorem r_cat : R2Ok rCat fCat := fun F G H σ ρ x y d e P Q k hx hy ⟨xs, ys, e1, e2, hl, p⟩ fo => by
  subst e1 e2
  cases hx with
  | lst h1 h2 =>
    cases hy with
    | lst h3 h4 =>
      refine ⟨_, _, _, _, rfl, rfl, (hide_get h1).1, (hide_get h3).1, ?_, fun q nq => fol_lst k fo p (dps_app h2 h4) nq⟩
      rw [dps_len h2, dps_len h4]
      exact line_ok hl
/-- tuple + tuple -/
def fCatT : F2 := fun x y P => ∃ xs ys, x = .tuple xs ∧ y = .tuple ys ∧ xs.length + ys.length ≤ 100000 ∧ P (.tuple (xs ++ ys))
theorem r_catT {K : AK} : R2Ok (rCatA K) fCatT := fun F G H σ ρ x y d e P Q k hx hy ⟨xs, ys, e1, e2, hl, p⟩ fo => by
  subst e1 e2
  have hx0 := hx
  have hy0 := hy
  cases hx with
  | tup h1 h2 =>
    cases hy with
    | tup h3 h4 =>
      refine ⟨_, _, _, _, rfl, rfl, .inl (.inl (hide_get h1).1), .inl (.inl (hide_get h3).1), ?_, fun z => ?_, fun _ z => ?_, fun _ _ q nq => fol_tup k fo p (dps_app h2 h4) nq⟩
      · rw [dps_len h2, dps_len h4]
        exact line_ok hl
      · have e : xs = [] := List.length_eq_zero_iff.mp (by rw [← dps_len h2, z]; rfl)
        subst e
        exact fol_here fo k.feed p hy0
      · have e : ys = [] := List.length_eq_zero_iff.mp (by rw [← dps_len h4, z]; rfl)
        subst e
        rw [List.append_nil] at p
        exact fol_here fo k.feed p hx0

/-! ### one argument of a built-in -/
def dB (f : F1) (T : TD) : TD := fun ρ P => T ρ fun x => f x P
def R1Ok (r : List V → Hp → VK → Prop) (f : F1) : Prop := ∀ (F : Addr) (G : Addr → Prop) (H : Hp) (σ : Sg) (ρ : SS) (x : V) (d : D) (P : D → Prop) (Q : VK), Ok F G H σ ρ → Dq (hide H G) x d → f d P → Fol F G H P Q → r [x] H Q
theorem t1 {r : List V → Hp → VK → Prop} {f : F1} {T : TD} (hr : R1Ok r f) (σ : Sg) (H : Hp) (Q : VK) (h : lf (dB f T) σ H Q) : tCB r (tCons (lf T) tNil) σ H Q := by
  obtain ⟨F, G, ρ, P, k, p, fo⟩ := h
  exact ⟨F, G, ρ, _, k, p, fun d v H1 p1 st1 fd1 r1 => hr F G H1 σ ρ v d P Q (k.step st1 fd1) r1 p1 (fo.step st1)⟩
section
variable {X : Cx} {e : Expr} {T : TD} {p pos : Pos} {x : Str}
theorem de_b {id : String} {r : List V → Hp → VK → Prop} {f : F1} (hr : R1Ok r f) (hc : CallR X (.builtin id) r) (hg : Gl X x) (hm : X.mg x = none) (hv : bootBuiltins x = some (.builtin id)) (ha : PE X e (lf T)) (hn : x ≠ "__name__" := by decide) (hdb : (x == ("__debug__" : Str)) = false := by decide)
    (hs : starEach [e] X.env = (false, eval e X.env) :: starEach [] X.env := by rfl) (hpl : (backTo pos (starEach [] X.env)).any (·.1) = false := by rfl) : PE X (.Call (.Name x p) [e] [] pos) (lf (dB f T)) :=
  PE.weak (pe_callB hc hg hm hv (pa_cons ha pa_nil hs) hn hdb hs hpl) (t1 hr)
theorem de_ty {id : String} {r : List V → Hp → VK → Prop} {f : F1} (hr : R1Ok r f) (hc : CallR X (.type id) r) (hg : Gl X x) (hm : X.mg x = none) (hv : bootBuiltins x = some (.type id)) (ha : PE X e (lf T)) (hn : x ≠ "__name__" := by decide) (hdb : (x == ("__debug__" : Str)) = false := by decide)
    (hs : starEach [e] X.env = (false, eval e X.env) :: starEach [] X.env := by rfl) (hpl : (backTo pos (starEach [] X.env)).any (·.1) = false := by rfl) : PE X (.Call (.Name x p) [e] [] pos) (lf (dB f T)) :=
  PE.weak (pe_callTy hc hg hm hv (pa_cons ha pa_nil hs) hn hdb hs hpl) (t1 hr)
end
theorem dq_bools {H : Hp} : ∀ {bs : List Bool} {vs : List V}, DqAll H vs (bs.map .bool) → vs = bs.map V.bl
  | [], _, h => by cases h; rfl
  | b :: bs, _, h => by
    cases h with
    | cons h1 h2 =>
      cases h1
      rw [dq_bools h2]; rfl
def fAny : F1 := fun x P => ∃ bs : List Bool, x = .list (bs.map .bool) ∧ P (.bool (bs.any id))
def fAll : F1 := fun x P => ∃ bs : List Bool, x = .list (bs.map .bool) ∧ P (.bool (bs.all id))
theorem r_any {K : AK} : R1Ok (rAny K) fAny := fun F G H σ ρ x d P Q k hx ⟨bs, e, p⟩ fo => by
  subst e
  cases hx with
  | lst h1 h2 =>
    have e := dq_bools h2
    subst e
    exact ⟨_, bs, rfl, .inl (.inl (hide_get h1).1), fol_here fo k.feed p (.bl _)⟩
theorem r_all {K : AK} : R1Ok (rAll K) fAll := fun F G H σ ρ x d P Q k hx ⟨bs, e, p⟩ fo => by
  subst e
  cases hx with
  | lst h1 h2 =>
    have e := dq_bools h2
    subst e
    exact ⟨_, bs, rfl, .inl (.inl (hide_get h1).1), fol_here fo k.feed p (.bl _)⟩
/-- len of a list, a tuple, a text -/
def fLen : F1 := fun x P => (∃ ds, Seq x ds ∧ P (.int ds.length)) ∨ ∃ z : Str, x = .str z ∧ z.length ≤ 1000 ∧ P (.int z.length)
theorem r_len {K : AK} : R1Ok (fun xs H Q => ∃ x n, xs = [x] ∧ LenV K x H n ∧ Q (.int n) H) fLen := fun F G H σ ρ x d P Q k hx h fo => by
  rcases h with ⟨ds, hs, p⟩ | ⟨z, e, hz, p⟩
  · rcases hs with e | e
    · subst e
      cases hx with
      | lst h1 h2 =>
        refine ⟨_, ds.length, rfl, .inl ⟨_, .inl (.inl (hide_get h1).1), (by rw [dps_len h2])⟩, fol_here fo k.feed p (.int _)⟩
    · subst e
      cases hx with
      | tup h1 h2 =>
        refine ⟨_, ds.length, rfl, .inr ⟨_, .inl (.inl (hide_get h1).1), (by rw [dps_len h2])⟩, fol_here fo k.feed p (.int _)⟩
  · subst e
    cases hx
    exact ⟨_, z.length, rfl, ⟨Nat.le_of_lt (small1000 hz), rfl⟩, fol_here fo k.feed p (.int _)⟩
/-- tuple(xs), list(t), int(n) -/
def fTuple : F1 := fun x P => ∃ ds, Seq x ds ∧ P (.tuple ds)
theorem r_tuple {K : AK} : R1Ok (fun xs H Q => ∃ p ys, xs = [.ref p] ∧ ((SqL K H p ys ∧ ∀ l, H l = none → Q (.ref l) (upd H l (.tup ys))) ∨ (SqT K H p ys ∧ Q (.ref p) H))) fTuple := fun F G H σ ρ x d P Q k hx ⟨ds, hs, p⟩ fo => by
  have hx0 := hx
  rcases hs with e | e
  · subst e
    cases hx with
    | lst h1 h2 => exact ⟨_, _, rfl, .inl ⟨.inl (.inl (hide_get h1).1), fun l nl => fol_tup k fo p h2 nl⟩⟩
  · subst e
    cases hx with
    | tup h1 h2 => exact ⟨_, _, rfl, .inr ⟨.inl (.inl (hide_get h1).1), fol_here fo k.feed p hx0⟩⟩
def fList : F1 := fun x P => ∃ ds, Seq x ds ∧ P (.list ds)
theorem r_list {K : AK} : R1Ok (fun xs H Q => ∃ p ys, xs = [.ref p] ∧ (SqL K H p ys ∨ SqT K H p ys) ∧ ∀ l, H l = none → Q (.ref l) (upd H l (.lst ys))) fList := fun F G H σ ρ x d P Q k hx ⟨ds, hs, p⟩ fo => by
  rcases hs with e | e
  · subst e
    cases hx with
    | lst h1 h2 => exact ⟨_, _, rfl, .inl (.inl (.inl (hide_get h1).1)), fun l nl => fol_lst k fo p h2 nl⟩
  · subst e
    cases hx with
    | tup h1 h2 => exact ⟨_, _, rfl, .inr (.inl (.inl (hide_get h1).1)), fun l nl => fol_lst k fo p h2 nl⟩
def fInt : F1 := fun x P => ∃ i, x = .int i ∧ P (.int i)
theorem r_int : R1Ok (fun xs H Q => (∃ i, xs = [.int i] ∧ Q (.int i) H) ∨ ∃ k, xs = [.bl k] ∧ Q (.int (if k then 1 else 0)) H) fInt := fun F G H σ ρ x d P Q k hx ⟨i, e, p⟩ fo => by
  subst e
  cases hx
  exact .inl ⟨i, rfl, fol_here fo k.feed p (.int _)⟩

/-! ### isinstance(x, int) .. -/
def kindD : D → String
  | .none => "NoneType"
  | .bool _ => "bool"
  | .int _ => "int"
  | .str _ => "str"
  | .list _ => "list"
  | .tuple _ => "tuple"
  | .dict _ => "dict"
theorem kind_ty {K : AK} {H : Hp} {v : V} {d : D} (h : Dq H v d) : TyX K H v (.type (kindD d)) := by
  cases h with
  | non => exact .base .non
  | bl b => exact .base (.bl b)
  | int i => exact .base (.int i)
  | str x => exact .base (.str x)
  | lst h1 _ => exact .base (.lst h1)
  | tup h1 _ => exact .base (.tup h1)
def isIt : D → String → Bool
  | .bool _, t => t == "bool" || t == "int"
  | d, t => kindD d == t
theorem kit_d {K : AK} {t : String} (ht : t = "int" ∨ t = "bool" ∨ t = "str" ∨ t = "tuple") (d : D) (hd : ∀ kvs, d ≠ .dict kvs) : PySem.W.kitOne K (.type (kindD d)) (.type t) = some (isIt d t) := by
  refine kit_ty ?_
  rcases ht with rfl | rfl | rfl | rfl <;> cases d <;> first | (exact absurd rfl (hd _)) | decide +kernel | (simp only [kindD, isIt]; decide +kernel)
def dIsi (T : TD) (t : String) : TD := fun ρ P => T ρ fun x => P (.bool (isIt x t))
theorem de_isi {X : Cx} {e : Expr} {T : TD} {p q pos : Pos} {t : Str} {ty : String} (ht : ty = "int" ∨ ty = "bool" ∨ ty = "str" ∨ ty = "tuple") (hg : Gl X "isinstance") (hm : X.mg "isinstance" = none) (hgt : Gl X t) (hmt : X.mg t = none) (hvt : bootBuiltins t = some (.type ty)) (ha : PE X e (lf T))
    (hnt : t ≠ "__name__" := by decide) (hdt : (t == ("__debug__" : Str)) = false := by decide) (hs : starEach [e, .Name t q] X.env = (false, eval e X.env) :: starEach [.Name t q] X.env := by rfl) (hpl : (backTo pos (starEach [.Name t q] X.env)).any (·.1) = false := by rfl) :
    PE X (.Call (.Name "isinstance" p) [e, .Name t q] [] pos) (lf (dIsi T ty)) := by
  refine PE.weak (pe_callB call_isi hg hm (by decide +kernel) (pa_cons ha (pa_cons (pe_bltn (v := .ty ty) hgt hmt hvt rfl hnt hdt) pa_nil) hs) (by decide) (by decide) hs hpl) fun σ H Q ⟨F, G, ρ, P, k, p, fo⟩ => ?_
  refine ⟨F, G, ρ, _, k, p, fun d v H1 p1 st1 fd1 r1 => ?_⟩
  have nd : ∀ kvs, d ≠ .dict kvs := fun kvs z => by subst z; cases r1
  exact ⟨v, .ty ty, _, _, _, rfl, .ty ty, kind_ty (dq_up r1), kit_d ht d nd, fol_here (fo.step st1) fd1 p1 (.bl _)⟩

/-! ### subscripts -/
def fIx : F2 := fun x y P => ∃ (i : Nat) (ds : List D) (z : D), y = .int i ∧ Seq x ds ∧ ds[i]? = some z ∧ P z
theorem r_ix {K : AK} : R2Ok (fun x y H Q => rIxL K x y H Q ∨ rIxT K x y H Q) fIx := fun F G H σ ρ x y d e P Q k hx hy ⟨i, ds, z, e1, hs, ez, p⟩ fo => by
  subst e1
  cases hy
  rcases hs with e | e
  · subst e
    cases hx with
    | lst h1 h2 =>
      obtain ⟨v, e1, r⟩ := dps_get h2 ez
      exact .inl ⟨_, _, _, v, rfl, rfl, .inl (.inl (hide_get h1).1), atI_nat e1, fol_here fo k.feed p r⟩
  · subst e
    cases hx with
    | tup h1 h2 =>
      obtain ⟨v, e1, r⟩ := dps_get h2 ez
      exact .inr ⟨_, _, _, v, rfl, rfl, .inl (.inl (hide_get h1).1), atI_nat e1, fol_here fo k.feed p r⟩
section
variable {X : Cx} {a b : Expr} {T U : TD} {pos p2 : Pos}
theorem de_ix (ha : PE X a (lf T)) (hb : PE X b (lf U)) (hs : PlainIx b := by exact fun _ _ => rfl) : PE X (.Subscript a b pos) (lf (d2 fIx T U)) :=
  PE.weak (pe_ix (ix_list.or ix_tup) ha hb hs) (t2 r_ix)
/-- a[k:], a[:k] -/
def fFrom : F2 := fun x y P => ∃ (n : Nat) (ds : List D), y = .int n ∧ ((x = .list ds ∧ P (.list (ds.drop n))) ∨ (x = .tuple ds ∧ P (.tuple (ds.drop n))))
def fTo : F2 := fun x y P => ∃ (n : Nat) (ds : List D), y = .int n ∧ ((x = .list ds ∧ P (.list (ds.take n))) ∨ (x = .tuple ds ∧ P (.tuple (ds.take n))))
theorem cut_from (xs : List V) (n : Nat) : cutV xs (some (n : Int)) none = xs.drop n := by
  unfold cutV
  rw [HT.sIx_nat, HT.sIx_none]
  by_cases h : n ≤ xs.length
  · rw [Nat.min_eq_left h]
    exact List.take_of_length_le (by rw [List.length_drop]; exact Nat.le_refl _)
  · rw [Nat.min_eq_right (by omega), List.drop_of_length_le (Nat.le_refl _), List.drop_of_length_le (by omega)]
    simp
theorem cut_to (xs : List V) (n : Nat) : cutV xs none (some (n : Int)) = xs.take n := by
  unfold cutV
  rw [HT.sIx_nat, HT.sIx_none, List.drop_zero, Nat.sub_zero]
  by_cases h : n ≤ xs.length
  · rw [Nat.min_eq_left h]
  · rw [Nat.min_eq_right (by omega), List.take_of_length_le (by omega), List.take_of_length_le (by omega)]
theorem de_from (ha : PE X a (lf T)) (hb : PE X b (lf U)) : PE X (.Subscript a (.Slice (some b) none none p2) pos) (lf (d2 fFrom T U)) := by
  refine PE.weak (pe_slice (sl_list.or sl_tupA) ha (po_some hb) po_none) fun σ H Q ⟨F, G, ρ, P, k, p, fo⟩ => ?_
  refine ⟨F, G, ρ, _, k, p, fun d v H1 p1 st1 fd1 r1 => ?_⟩
  refine ⟨F, G, ρ, _, k.step st1 fd1, p1, fun e u H2 ⟨n, ds, e1, p2⟩ st2 fd2 r2 => ?_⟩
  subst e1
  cases r2
  refine ⟨_, rfl, ?_⟩
  have k2 := (k.step st1 fd1).step st2 fd2
  have fo2 := fo.step (st1.trans st2)
  have r1' := dp_mono (st2.hide k.gf) d v r1
  rcases p2 with ⟨e2, p2⟩ | ⟨e2, p2⟩
  · subst e2
    cases r1' with
    | lst h1 h2 =>
      refine .inl ⟨_, _, rfl, .inl (.inl (hide_get h1).1), fun q nq => ?_⟩
      rw [cut_from]
      exact fol_lst k2 fo2 p2 (dps_drop n h2) nq
  · subst e2
    have r0 := r1'
    cases r1' with
    | tup h1 h2 =>
      refine .inr ⟨_, _, rfl, .inl (.inl (hide_get h1).1), fun hw => ?_, fun hw q nq => ?_⟩
      · have hn : ds.drop n = ds := by
          have h0 := hw.1
          rw [HT.sIx_nat] at h0
          rcases Nat.eq_zero_or_pos n with z | z
          · rw [z]; rfl
          · have hl := dps_len h2
            have : ds = [] := List.length_eq_zero_iff.mp (by omega)
            rw [this]; simp
        rw [hn] at p2
        exact fol_here fo2 fd2 p2 r0
      · rw [cut_from]
        exact fol_tup k2 fo2 p2 (dps_drop n h2) nq
theorem de_to (ha : PE X a (lf T)) (hb : PE X b (lf U)) : PE X (.Subscript a (.Slice none (some b) none p2) pos) (lf (d2 fTo T U)) := by
  refine PE.weak (pe_slice (sl_list.or sl_tupA) ha po_none (po_some hb)) fun σ H Q ⟨F, G, ρ, P, k, p, fo⟩ => ?_
  refine ⟨F, G, ρ, _, k, p, fun d v H1 p1 st1 fd1 r1 => ?_⟩
  refine ⟨F, G, ρ, _, k.step st1 fd1, p1, fun e u H2 ⟨n, ds, e1, p2⟩ st2 fd2 r2 => ?_⟩
  subst e1
  cases r2
  refine ⟨_, rfl, ?_⟩
  have k2 := (k.step st1 fd1).step st2 fd2
  have fo2 := fo.step (st1.trans st2)
  have r1' := dp_mono (st2.hide k.gf) d v r1
  rcases p2 with ⟨e2, p2⟩ | ⟨e2, p2⟩
  · subst e2
    cases r1' with
    | lst h1 h2 =>
      refine .inl ⟨_, _, rfl, .inl (.inl (hide_get h1).1), fun q nq => ?_⟩
      rw [cut_to]
      exact fol_lst k2 fo2 p2 (dps_take n h2) nq
  · subst e2
    have r0 := r1'
    cases r1' with
    | tup h1 h2 =>
      refine .inr ⟨_, _, rfl, .inl (.inl (hide_get h1).1), fun hw => ?_, fun hw q nq => ?_⟩
      · have hn : ds.take n = ds := by
          have h0 := hw.2
          rw [HT.sIx_nat] at h0
          have hl := dps_len h2
          exact List.take_of_length_le (by omega)
        rw [hn] at p2
        exact fol_here fo2 fd2 p2 r0
      · rw [cut_to]
        exact fol_tup k2 fo2 p2 (dps_take n h2) nq
end
end Ao
set_option Elab.async false
set_option autoImplicit false
set_option linter.all false
set_option maxRecDepth 100000
set_option maxHeartbeats 1000000
namespace Ao
open PySem PySem.Spec PyProof.Rows L2

/-! ### and, or, not; if else; a < b < c -/
def bAnd (A B : TB) : TB := fun ρ P => A ρ fun b => if b = true then B ρ P else P false
def bOr (A B : TB) : TB := fun ρ P => A ρ fun b => if b = true then P true else B ρ P
def bNot (A : TB) : TB := fun ρ P => A ρ fun b => P (!b)
def dAnd (T U : TD) : TD := fun ρ P => T ρ fun x => ∃ b, x = .bool b ∧ if b = true then U ρ P else P (.bool false)
def dOr (T U : TD) : TD := fun ρ P => T ρ fun x => ∃ b, x = .bool b ∧ if b = true then P (.bool true) else U ρ P
def dNot (T : TD) : TD := fun ρ P => T ρ fun x => ∃ b, x = .bool b ∧ P (.bool (!b))
def dIf (A : TB) (T U : TD) : TD := fun ρ P => A ρ fun b => if b = true then T ρ P else U ρ P
section
variable {X : Cx} {a b : Expr} {rest : List Expr} {A B : TB} {T U : TD} {pos : Pos}
theorem dw_and1 (ha : PT X a (lt A)) : PW X (.BoolOp .And [a] pos) (lt A) := pw_and1 ha
theorem dw_or1 (ha : PT X a (lt A)) : PW X (.BoolOp .Or [a] pos) (lt A) := pw_or1 ha
theorem dw_and (ha : PT X a (lt A)) (hb : PW X (.BoolOp .And (b :: rest) pos) (lt B)) : PW X (.BoolOp .And (a :: b :: rest) pos) (lt (bAnd A B)) := by
  refine PW.weak (pw_and ha hb) fun σ H Q ⟨F, G, ρ, P, k, p, fo⟩ => ?_
  refine ⟨F, G, ρ, _, k, p, fun c H1 p1 st fd => ?_⟩
  cases c with
  | true => exact ⟨F, G, ρ, _, k.step st fd, p1, fun c H2 p2 st2 fd2 => fo c H2 p2 (st.trans st2) fd2⟩
  | false => exact fo false H1 p1 st fd
theorem dw_or (ha : PT X a (lt A)) (hb : PW X (.BoolOp .Or (b :: rest) pos) (lt B)) : PW X (.BoolOp .Or (a :: b :: rest) pos) (lt (bOr A B)) := by
  refine PW.weak (pw_or ha hb) fun σ H Q ⟨F, G, ρ, P, k, p, fo⟩ => ?_
  refine ⟨F, G, ρ, _, k, p, fun c H1 p1 st fd => ?_⟩
  cases c with
  | false => exact ⟨F, G, ρ, _, k.step st fd, p1, fun c H2 p2 st2 fd2 => fo c H2 p2 (st.trans st2) fd2⟩
  | true => exact fo true H1 p1 st fd
theorem dt_not (ha : PT X a (lt A)) : PT X (.UnaryOp .Not a pos) (lt (bNot A)) := by
  refine PT.weak (pt_not ha) fun σ H Q ⟨F, G, ρ, P, k, p, fo⟩ => ?_
  exact ⟨F, G, ρ, _, k, p, fun c H1 p1 st fd => fo (!c) H1 p1 st fd⟩
theorem de_one {op} (h : PE X a (lf T)) : PE X (.BoolOp op [a] pos) (lf T) := pe_one h
theorem de_and (ha : PE X a (lf T)) (hb : PE X (.BoolOp .And (b :: rest) pos) (lf U)) : PE X (.BoolOp .And (a :: b :: rest) pos) (lf (dAnd T U)) := by
  refine PE.weak (pe_and ha hb) fun σ H Q ⟨F, G, ρ, P, k, p, fo⟩ => ?_
  refine ⟨F, G, ρ, _, k, p, fun d v H1 ⟨c, e, p1⟩ st fd r => ?_⟩
  subst e
  cases r
  refine ⟨c, rfl, ?_⟩
  cases c with
  | true => exact ⟨F, G, ρ, _, k.step st fd, p1, fo.step st⟩
  | false => exact fol_here (fo.step st) fd p1 (.bl _)
theorem de_or (ha : PE X a (lf T)) (hb : PE X (.BoolOp .Or (b :: rest) pos) (lf U)) : PE X (.BoolOp .Or (a :: b :: rest) pos) (lf (dOr T U)) := by
  refine PE.weak (pe_or ha hb) fun σ H Q ⟨F, G, ρ, P, k, p, fo⟩ => ?_
  refine ⟨F, G, ρ, _, k, p, fun d v H1 ⟨c, e, p1⟩ st fd r => ?_⟩
  subst e
  cases r
  refine ⟨c, rfl, ?_⟩
  cases c with
  | false => exact ⟨F, G, ρ, _, k.step st fd, p1, fo.step st⟩
  | true => exact fol_here (fo.step st) fd p1 (.bl _)
theorem de_not (ha : PE X a (lf T)) : PE X (.UnaryOp .Not a pos) (lf (dNot T)) := by
  refine PE.weak (pe_not ha) fun σ H Q ⟨F, G, ρ, P, k, p, fo⟩ => ?_
  refine ⟨F, G, ρ, _, k, p, fun d v H1 ⟨c, e, p1⟩ st fd r => ?_⟩
  subst e
  cases r
  exact ⟨c, rfl, fol_here (fo.step st) fd p1 (.bl _)⟩
theorem de_if {c : Expr} (hc : PT X c (lt A)) (ha : PE X a (lf T)) (hb : PE X b (lf U)) : PE X (.IfExp c a b pos) (lf (dIf A T U)) := by
  refine PE.weak (pe_ifExp hc ha hb) fun σ H Q ⟨F, G, ρ, P, k, p, fo⟩ => ?_
  refine ⟨F, G, ρ, _, k, p, fun c H1 p1 st fd => ?_⟩
  cases c with
  | true => exact ⟨F, G, ρ, _, k.step st fd, p1, fo.step st⟩
  | false => exact ⟨F, G, ρ, _, k.step st fd, p1, fo.step st⟩
/-- -n -/
def dNeg (T : TD) : TD := fun ρ P => T ρ fun x => ∃ i, x = .int i ∧ P (.int (-i))
theorem de_neg (ha : PE X a (lf T)) : PE X (.UnaryOp .USub a pos) (lf (dNeg T)) := by
  refine PE.weak (pe_un un_neg ha) fun σ H Q ⟨F, G, ρ, P, k, p, fo⟩ => ?_
  refine ⟨F, G, ρ, _, k, p, fun d v H1 ⟨i, e, p1⟩ st fd r => ?_⟩
  subst e
  cases r
  exact ⟨i, rfl, fol_here (fo.step st) fd p1 (.int _)⟩
/-- a < b < c -/
def dChain (f f' : F2) (T U W : TD) : TD := fun ρ P => T ρ fun x => U ρ fun y => f x y fun z => ∃ b, z = .bool b ∧ if b = true then W ρ fun u => f' y u P else P (.bool false)
theorem de_chain {c : Expr} {W : TD} {op op' : CmpOp} {r r' : R2} {f f' : F2} (hr : R2Ok r f) (hr' : R2Ok r' f') (ho : OpR X (compareOp op) r) (ho' : OpR X (compareOp op') r') (ha : PE X a (lf T)) (hb : PE X b (lf U)) (hc : PE X c (lf W)) (hm : lastMarks [op, op'] [b, c] = false := by rfl) :
    PE X (.Compare a [op, op'] [b, c] pos) (lf (dChain f f' T U W)) := by
  refine PE.weak (pe_chain ho ho' ha hb hc (hm := hm)) fun σ H Q ⟨F, G, ρ, P, k, p, fo⟩ => ?_
  refine ⟨F, G, ρ, _, k, p, fun d v H1 p1 st fd r1 => ⟨F, G, ρ, _, k.step st fd, p1, fun e u H2 p2 st2 fd2 r2 => ?_⟩⟩
  have k2 := (k.step st fd).step st2 fd2
  refine hr F G H2 σ ρ v u d e _ _ k2 (dp_mono (st2.hide k.gf) d v r1) r2 p2 fun z zv H3 ⟨b, ez, p3⟩ st3 fd3 r3 => ?_
  subst ez
  cases r3
  refine ⟨b, rfl, ?_⟩
  cases b with
  | false => exact fol_here (fo.step ((st.trans st2).trans st3)) fd3 p3 (.bl _)
  | true =>
    refine ⟨F, G, ρ, _, k2.step st3 fd3, p3, fun w wv H4 p4 st4 fd4 r4 => ?_⟩
    exact hr' F G H4 σ ρ u wv e w _ _ ((k2.step st3 fd3).step st4 fd4) (dp_mono ((st3.trans st4).hide k.gf) e u r2) r4 p4 (fo.step (((st.trans st2).trans st3).trans st4))
end

/-! ### calls of the text's defs -/
abbrev DSp := List SV → (D → Prop) → Prop
def lsp (sp : DSp) : Sp := fun vs H Q _ => ∃ F G ss P, G F ∧ (∀ b, G b → H b ≠ none) ∧ FeedOk F H ∧ SAll F (hide H G) vs ss ∧ sp ss P ∧ Fol F G H P Q
def dCall (sp : DSp) (dd : List SV) (U : TL) : TD := fun ρ P => U ρ fun ss => sp (ss ++ dd) P
section
variable {X : Cx}
theorem de_call {k : Nat} {f : Addr} {fd : FuncData} {ps : List Str} {sp : DSp} {dvs : List V} {dd : List SV} {ds : List Value} {e : Expr} {es : List Expr} {U : TL} {x : Str} {p pos : Pos} (Fn : FnOk X.prog X.w X.K X.mg X.base CX0 k f fd ps (lsp sp)) (hr : Room k X.A) (hg : Gl X x) (hm : X.mg x = some (.ref f))
    (hk : PySem.W.keepIn X.K (.ref f) = true) (hb : Binds X.K fd ps ds) (hd : Vals dvs ds) (hdd : ∀ F H, SAll F H dvs dd) (ha : PA X (e :: es) (la U)) (hdb : (x == ("__debug__" : Str)) = false := by decide) (he : starEach (e :: es) X.env = (false, eval e X.env) :: starEach es X.env := by rfl)
    (hpl : (backTo pos (starEach es X.env)).any (·.1) = false := by rfl) : PE X (.Call (.Name x p) (e :: es) [] pos) (lf (dCall sp dd U)) := by
  refine PE.weak (pe_call Fn hr hg hm hk hb hd pass0 ha hdb he hpl) fun σ H Q ⟨F, G, ρ, P, k, q, fo⟩ => ?_
  refine ⟨F, G, ρ, _, k, q, fun ss vs H1 p1 st fd r => ?_⟩
  have k1 := k.step st fd
  exact ⟨F, G, ss ++ dd, P, k.gf, k1.sub, fd, r.app (hdd F _), p1, fo.step st⟩
end

/-! ### a table's item -/
def dDct (i : Nat) (T : TD) : TD := fun ρ P => ∃ kvs : List (Str × D), ρ[i]? = some (some (.dct kvs)) ∧ T ρ fun y => ∃ k v, y = .str k ∧ kvs.lookup k = some v ∧ P v
theorem dct_get {Hh : Hp} : ∀ {ps : List (Key × V)} {kvs : List (Str × D)} {k : Str} {d : D}, Paired (fun (p : Key × V) (q : Str × D) => p.1 = .inr q.1 ∧ Dq Hh p.2 q.2) ps kvs → kvs.lookup k = some d → ∃ v, valV ps (.inr k) = some v ∧ Dq Hh v d
  | _, [], _, _, _, e => by cases e
  | _, (k0, d0) :: kvs, k, d, .cons (a := (kp, vp)) ⟨r1, r2⟩ t, e => by
    simp only at r1 r2
    subst r1
    rw [List.lookup_cons] at e
    cases hb : k == k0 with
    | true =>
      rw [hb] at e
      have ek : k = k0 := by simpa using hb
      subst ek
      cases e
      refine ⟨vp, ?_, r2⟩
      unfold valV
      rw [List.find?_cons_of_pos (by simp)] <;> rfl
    | false =>
      rw [hb] at e
      obtain ⟨v, h1, h2⟩ := dct_get t e
      refine ⟨v, ?_, h2⟩
      unfold valV at h1 ⊢
      rw [List.find?_cons_of_neg (by
        have hn : k0 ≠ k := fun z => by rw [z] at hb; simp at hb
        simp [hn])]
      exact h1
theorem de_dct {X : Cx} {i : Nat} {x : Str} {b : Expr} {T : TD} {pos p2 : Pos} (hb : PE X b (lf T)) (hu : X.A.units + 1 < cLine) (hN : X.N[i]? = some x := by rfl) (hv : Vis X.env.scope x := by first | exact Or.inl rfl | exact Or.inr (Or.inl rfl) | exact Or.inr (Or.inr rfl)) (hs : NoSl b := by exact fun _ _ => rfl)
    (hd : (x == ("__debug__" : Str)) = false := by decide) (hcd : (x == ("__classdict__" : Str)) = false := by decide) : PE X (.Subscript (.Name x p2) b pos) (lf (dDct i T)) := by
  refine PE.weak (pe_dget hu (pe_var hN hv hd hcd) hb hs) fun σ H Q ⟨F, G, ρ, P, k, ⟨kvs, e, q⟩, fo⟩ => ?_
  obtain ⟨v, q1, a, ps, q2, q3, q4⟩ := k.rel.at_ i _ e
  refine ⟨v, q1, F, G, ρ, _, k, q, fun y yv H1 ⟨kk, d, e1, e2, p1⟩ st fd r => ?_⟩
  subst q2 e1
  cases r
  obtain ⟨dv, g1, g2⟩ := dct_get q4 e2
  have ha : H1 a = some (.dK ps) := by
    obtain ⟨h1, n1⟩ := hide_get q3
    exact st.at_ a _ (fun z => n1 (by rw [z]; exact k.gf)) h1
  refine ⟨a, dv, rfl, ?_, fol_here (fo.step st) fd p1 (dp_mono (st.hide k.gf) d dv g2)⟩
  have := DGet.k (k := .inr kk) ha
  rw [g1] at this
  exact this

/-! ### what is walked -/
/-- no list or tuple is too long -/
def Sized (H : Hp) : Prop := ∀ (a : Addr) (xs : List V), H a = some (.lst xs) ∨ H a = some (.tup xs) → xs.length ≤ sizeLine
theorem Inv.sized {X : Cx} {pins : List (Addr × Obj)} {σ : Sg} {H : Hp} {s : Shared} (I : Inv X pins σ H s) : Sized H := fun a xs h => by
  rcases h with h | h
  · exact (I.hok a _ h).1
  · exact (I.hok a _ h).1
theorem PI.sized {X : Cx} {tg iter : Expr} {t : TI} (h : PI X tg iter t) : PI X tg iter (fun σ H R => t σ H fun J H1 => Sized H1 → R J H1) := by
  refine ⟨fun pins s σ H R I q => thn (h.run pins s σ H _ I q) fun v s1 h1 => thn h1 fun itv s2 ⟨it, fp, tn, J, H', e, I2, T, t0, f, r⟩ => ?_⟩
  exact ⟨it, fp, tn, J, H', e, I2, T, t0, f, r (Ao.Inv.sized I2)⟩
structure DWalk (F : Addr) (G : Addr → Prop) (H1 : Hp) (J : It) (items : List D) : Prop where
  len : items.length ≤ sizeLine
  ex : ∀ G' : Addr → Prop, (∀ b, G b → G' b) → (∀ b, G' b → ¬ G b → H1 b = none) → ∃ Gp : Hp → Prop, Gp H1 ∧ (∀ Ha Hb, Gp Ha → Same (hide Ha G') (hide Hb G') → Gp Hb) ∧
    Walk J items.length (fun H => Gp H ∧ ∀ b, G' b → H b ≠ none) fun i H x H' => Same H H' ∧ ∃ d, items[i]? = some d ∧ Dq (hide H' G') x d
abbrev TIt := SS → (List D → Prop) → Prop
def li (T : TIt) : TI := fun σ H R => ∃ F G ρ P, Ok F G H σ ρ ∧ T ρ P ∧ ∀ ds J H1, P ds → Step F H H1 → FeedOk F H1 → DWalk F G H1 J ds → R J H1
theorem PI.weak {X : Cx} {tg iter : Expr} {t t' : TI} (h : PI X tg iter t) (w : ∀ σ H R, t' σ H R → t σ H R) : PI X tg iter t' := ⟨fun pins s σ H R I q => h.run pins s σ H R I (w σ H R q)⟩
/-- the list or the tuple at a -/
def iSeq (T : TD) : TIt := fun ρ P => T ρ fun d => ∃ ds, Seq d ds ∧ P ds
theorem walk_l {F : Addr} {G : Addr → Prop} {H : Hp} {K : AK} {a : Addr} {xs : List V} {ds : List D} (h1 : hide H G a = some (.lst xs)) (h2 : DqAll (hide H G) xs ds) (sz : Sized H) : DWalk F G H (Itl K a) ds := by
  refine ⟨by rw [← dps_len h2]; exact sz _ _ (.inl (hide_get h1).1), fun G' hg hn => ?_⟩
  have sm : Same (hide H G) (hide H G') := hide_more hn
  refine ⟨fun H => hide H G' a = some (.lst xs) ∧ DqAll (hide H G') xs ds, ⟨sm _ _ h1, dps_mono sm ds _ h2⟩, fun Ha Hb ⟨q1, q2⟩ s => ⟨s _ _ q1, dps_mono s ds _ q2⟩, ?_⟩
  rw [← dps_len h2]
  refine walk_list.mono (fun H ⟨⟨q, _⟩, _⟩ => .inl (.inl (hide_get q).1)) fun i H x H' hi ⟨⟨q, q2⟩, _⟩ ⟨e, ex⟩ => ?_
  subst e
  obtain ⟨d, e1, e2⟩ := dps_getV q2 ex
  exact ⟨Same.refl _, d, e1, e2⟩
theorem walk_t {F : Addr} {G : Addr → Prop} {H : Hp} {K : AK} {a : Addr} {xs : List V} {ds : List D} (h1 : hide H G a = some (.tup xs)) (h2 : DqAll (hide H G) xs ds) (sz : Sized H) : DWalk F G H (Itt K a) ds := by
  refine ⟨by rw [← dps_len h2]; exact sz _ _ (.inr (hide_get h1).1), fun G' hg hn => ?_⟩
  have sm : Same (hide H G) (hide H G') := hide_more hn
  refine ⟨fun H => hide H G' a = some (.tup xs) ∧ DqAll (hide H G') xs ds, ⟨sm _ _ h1, dps_mono sm ds _ h2⟩, fun Ha Hb ⟨q1, q2⟩ s => ⟨s _ _ q1, dps_mono s ds _ q2⟩, ?_⟩
  rw [← dps_len h2]
  refine walk_tup.mono (fun H ⟨⟨q, _⟩, _⟩ => .inl (.inl (hide_get q).1)) fun i H x H' hi ⟨⟨q, q2⟩, _⟩ ⟨e, ex⟩ => ?_
  subst e
  obtain ⟨d, e1, e2⟩ := dps_getV q2 ex
  exact ⟨Same.refl _, d, e1, e2⟩
section
variable {X : Cx} {tg : Expr}
/-- whichever of the two comes -/
def iBoth (t : TE) : TI := fun σ H R => t σ H fun x H1 => (∃ a, x = .ref a ∧ (∃ xs, SqL X.K H1 a xs) ∧ R (Itl X.K a) H1) ∨ ∃ a, x = .ref a ∧ (∃ xs, SqT X.K H1 a xs) ∧ R (Itt X.K a) H1
theorem pi_both {l : Expr} {t : TE} (h : PE X l t) : PI X tg l (iBoth (X := X) t) := by
  refine ⟨fun pins s σ H R I q => ?_⟩
  refine thn (h.run pins s σ H _ I q) fun v s1 ⟨x, H1, I1, r1, q1⟩ => ?_
  rcases q1 with ⟨a, rfl, ⟨xs, hq⟩, qr⟩ | ⟨a, rfl, ⟨xs, hq⟩, qr⟩
  · cases r1
    obtain ⟨its, rv, p, hz⟩ := I1.list hq
    refine wpAny_pyIter_list p.isList ?_
    have hf : ∀ b ∈ [s1.heap.objs.size], FpOk X pins H1 b := fun b hb => by
      cases List.mem_singleton.mp hb
      exact I1.fpOk (Nat.le_refl _) (I1.hok.fresh (Nat.le_refl _))
    exact ⟨_, _, _, _, H1, rfl, I1.kept (t' := s1.toks) fun b o e => Heap.get?_push_of_some _ e, turn_list a _, ⟨_, Heap.get?_push_size _ rfl, rfl, rfl⟩, hf, qr⟩
  · cases r1
    obtain ⟨its, rv, p, hz⟩ := I1.tuple hq
    have ht : s1.heap.IsTuple a its.toArray := p
    refine wpAny_pyIter_tuple ht ?_
    have hf : ∀ b ∈ [s1.heap.objs.size], FpOk X pins H1 b := fun b hb => by
      cases List.mem_singleton.mp hb
      exact I1.fpOk (Nat.le_refl _) (I1.hok.fresh (Nat.le_refl _))
    exact ⟨_, _, _, _, H1, rfl, I1.kept (t' := s1.toks) fun b o e => Heap.get?_push_of_some _ e, turn_tuple a _, ⟨_, Heap.get?_push_size _ rfl, rfl, rfl⟩, hf, qr⟩
theorem di_seq {l : Expr} {T : TD} (h : PE X l (lf T)) : PI X tg l (li (iSeq T)) := by
  refine PI.weak (PI.sized (pi_both h)) fun σ H R ⟨F, G, ρ, P, k, p, fo⟩ => ?_
  refine ⟨F, G, ρ, _, k, p, fun d v H1 ⟨ds, hs, p1⟩ st fd r => ?_⟩
  rcases hs with e | e
  · subst e
    cases r with
    | lst h1 h2 => exact .inl ⟨_, rfl, ⟨_, .inl (.inl (hide_get h1).1)⟩, fun sz => fo _ _ _ p1 st fd (walk_l h1 h2 sz)⟩
  · subst e
    cases r with
    | tup h1 h2 => exact .inr ⟨_, rfl, ⟨_, .inl (.inl (hide_get h1).1)⟩, fun sz => fo _ _ _ p1 st fd (walk_t h1 h2 sz)⟩
/-- the signs of a text -/
def iTxt (T : TD) : TIt := fun ρ P => T ρ fun d => ∃ z : Str, d = .str z ∧ z.length ≤ 1000 ∧ P (z.cps.toList.map fun c => .str ⟨#[c]⟩)
theorem di_txt {l : Expr} {T : TD} (h : PE X l (lf T)) : PI X tg l (li (iTxt T)) := by
  refine PI.weak (pi_str h) fun σ H R ⟨F, G, ρ, P, k, p, fo⟩ => ?_
  refine ⟨F, G, ρ, _, k, p, fun d v H1 ⟨z, e, hz, p1⟩ st fd r => ?_⟩
  subst e
  cases r
  refine ⟨z, rfl, fo _ _ _ p1 st fd ⟨by simp only [List.length_map]; exact Nat.le_of_lt (small1000 hz), fun G' hg hn => ⟨fun _ => True, trivial, fun _ _ _ _ => trivial, ?_⟩⟩⟩
  have hl : (z.cps.toList.map fun c => (PyData.str ⟨#[c]⟩)).length = z.cps.size := by simp
  rw [hl]
  refine walk_str.mono (fun _ _ => trivial) fun i H x H' hi _ ⟨e, c, ec, ex⟩ => ?_
  subst e ex
  exact ⟨Same.refl _, _, by rw [List.getElem?_map, Array.getElem?_toList, ec]; rfl, .str _⟩
/-- range(n), range(m, n) -/
def iRng (T : TD) : TIt := fun ρ P => T ρ fun d => ∃ n : Nat, d = .int n ∧ n ≤ 100000 ∧ P ((List.range n).map fun i => .int (i : Nat))
def iRg2 (T U : TD) : TIt := fun ρ P => T ρ fun c => U ρ fun d => ∃ m n : Nat, c = .int m ∧ d = .int n ∧ m ≤ 100000 ∧ n ≤ 100000 ∧ P ((List.range (n - m)).map fun i => .int ((m + i : Nat) : Int))
theorem walk_r {F : Addr} {G : Addr → Prop} {H : Hp} {lo : Int} {n : Nat} {f : Nat → D} (hf : ∀ i, f i = .int (lo + i)) (hn : n ≤ 100000) : DWalk F G H (Itr lo n) ((List.range n).map f) := by
  refine ⟨by rw [List.length_map, List.length_range]; exact line_ok hn, fun G' hg hn => ⟨fun _ => True, trivial, fun _ _ _ _ => trivial, ?_⟩⟩
  rw [List.length_map, List.length_range]
  refine walk_range.mono (fun _ _ => trivial) fun i H x H' hi _ ⟨e, ex⟩ => ?_
  subst e ex
  refine ⟨Same.refl _, f i, ?_, ?_⟩
  · rw [List.getElem?_map, List.getElem?_range hi]; rfl
  · rw [hf]; exact .int _
theorem di_rng {a : Expr} {T : TD} {p pos : Pos} (hg : Gl X "range") (hm : X.mg "range" = none) (ha : PE X a (lf T)) (hs : starEach [a] X.env = [(false, eval a X.env)] := by rfl) : PI X tg (.Call (.Name "range" p) [a] [] pos) (li (iRng T)) := by
  refine PI.weak (pi_range1 hg hm (pa_cons ha pa_nil hs) hs) fun σ H R ⟨F, G, ρ, P, k, p, fo⟩ => ?_
  refine ⟨F, G, ρ, _, k, p, fun d v H1 ⟨n, e, hn, p1⟩ st fd r => ?_⟩
  subst e
  cases r
  refine ⟨(n : Int), rfl, by omega, by omega, ?_⟩
  rw [Int.toNat_natCast]
  exact fo _ _ _ p1 st fd (walk_r (fun i => by rw [Int.zero_add]) hn)
theorem di_rg2 {a b : Expr} {T U : TD} {p pos : Pos} (hg : Gl X "range") (hm : X.mg "range" = none) (ha : PE X a (lf T)) (hb : PE X b (lf U)) (hs : starEach [a, b] X.env = [(false, eval a X.env), (false, eval b X.env)] := by rfl) (hs2 : starEach [b] X.env = [(false, eval b X.env)] := by rfl) :
    PI X tg (.Call (.Name "range" p) [a, b] [] pos) (li (iRg2 T U)) := by
  refine PI.weak (pi_range2 hg hm (pa_cons ha (pa_cons hb pa_nil (by rw [hs2]; rfl)) (by rw [hs, hs2])) hs hs2) fun σ H R ⟨F, G, ρ, P, k, p, fo⟩ => ?_
  refine ⟨F, G, ρ, _, k, p, fun c v H1 p1 st fd r => ⟨F, G, ρ, _, k.step st fd, p1, fun d u H2 ⟨m, n, e1, e2, hm, hn, p2⟩ st2 fd2 r2 => ?_⟩⟩
  subst e1 e2
  cases r
  cases r2
  refine ⟨(m : Int), (n : Int), rfl, ⟨by omega, by omega, by omega, by omega⟩, ?_⟩
  have e : ((n : Int) - (m : Int)).toNat = n - m := by omega
  rw [e]
  exact fo _ _ _ p2 (st.trans st2) fd2 (walk_r (fun i => by push_cast; rfl) (by omega))
/-- zip(t, u), xs and ys alike -/
def iZp (T U : TD) : TIt := fun ρ P => T ρ fun c => U ρ fun d => ∃ xs ys, ((c = .tuple xs ∧ d = .tuple ys) ∨ (c = .list xs ∧ d = .list ys)) ∧ P (List.zipWith (fun x y => .tuple [x, y]) xs ys)
theorem zip_get {xs ys : List D} {i : Nat} {x y : D} (h1 : xs[i]? = some x) (h2 : ys[i]? = some y) : (List.zipWith (fun x y => PyData.tuple [x, y]) xs ys)[i]? = some (.tuple [x, y]) := by
  rw [List.getElem?_zipWith, h1, h2]
theorem pair_new {G' : Addr → Prop} {H : Hp} {T : Addr} {x y : V} {d e : D} (nT : H T = none) (sub : ∀ b, G' b → H b ≠ none) (r1 : Dq (hide H G') x d) (r2 : Dq (hide H G') y e) : Dq (hide (upd H T (.tup [x, y])) G') (.ref T) (.tuple [d, e]) := by
  have ng : ¬ G' T := fun g => sub T g nT
  have sm : Same (hide H G') (hide (upd H T (.tup [x, y])) G') := fun b o q => by
    obtain ⟨q1, q2⟩ := hide_get q
    exact hide_of (same_new nT b o q1) q2
  exact .tup (hide_of upd_same ng) (.cons (dp_mono sm _ _ r1) (.cons (dp_mono sm _ _ r2) .nil))
theorem walk_zt {K : AK} {a b : Addr} {n : Nat} {xs ys : List V} (hn : n = min xs.length ys.length) : Walk (RZ.ItzT K a b) n (fun H => SqT K H a xs ∧ SqT K H b ys) (YPair (fun i => xs[i]?) (fun i => ys[i]?)) := by
  subst hn
  refine ⟨fun i _ hi q => ?_, fun _ q => ⟨xs, ys, q.1, q.2, by omega⟩, fun i H v H' _ q ⟨T, x, z, h1, h2, h3, h4, h5⟩ => ⟨T, x, z, h1, h2, h3, h4 xs q.1, h5 ys q.2⟩⟩
  have h1 : i < xs.length := by omega
  have h2 : i < ys.length := by omega
  exact ⟨xs, ys, xs[i], ys[i], q.1, q.2, by simp [h1], by simp [h2]⟩
theorem di_zip {e e2 : Expr} {T U : TD} {p pos tpos : Pos} {elts : List Expr} {kk : Nat} (hg : Gl X "zip") (hm : X.mg "zip" = none) (ha : PE X e (lf T)) (hb : PE X e2 (lf U)) (hs : starEach [e, e2] X.env = (false, eval e X.env) :: starEach [e2] X.env := by rfl) (hpl : (backTo pos (starEach [e2] X.env)).any (·.1) = false := by rfl)
    (hs2 : starEach [e2] X.env = (false, eval e2 X.env) :: starEach [] X.env := by rfl) : PI X (.Tuple elts kk tpos) (.Call (.Name "zip" p) [e, e2] [] pos) (li (iZp T U)) := by
  refine PI.weak (PI.sized (RZ.pi_zipA hg hm (pa_cons ha (pa_cons hb pa_nil hs2) hs) hs hpl)) fun σ H R ⟨F, G, ρ, P, k, p, fo⟩ => ?_
  refine ⟨F, G, ρ, _, k, p, fun c v H1 p1 st fd r => ⟨F, G, ρ, _, k.step st fd, p1, fun d u H2 ⟨xs, ys, hs, p2⟩ st2 fd2 r2 => ?_⟩⟩
  have r1' := dp_mono (st2.hide k.gf) c v r
  rcases hs with ⟨e1, e2⟩ | ⟨e1, e2⟩
  · subst e1 e2
    cases r1' with
    | @tup a1 vs1 _ h1 h2 =>
      cases r2 with
      | @tup a2 vs2 _ h3 h4 =>
        refine ⟨_, _, _, _, rfl, .inr ⟨.inl (.inl (hide_get h1).1), .inl (.inl (hide_get h3).1), fun sz => fo _ _ _ p2 (st.trans st2) fd2 ⟨by rw [List.length_zipWith, ← dps_len h2]; exact Nat.le_trans (Nat.min_le_left _ _) (sz _ _ (.inr (hide_get h1).1)), fun G' hg hn => ?_⟩⟩⟩
        have sm : Same (hide H2 G) (hide H2 G') := hide_more hn
        refine ⟨fun H => hide H G' a1 = some (.tup vs1) ∧ DqAll (hide H G') vs1 xs ∧ hide H G' a2 = some (.tup vs2) ∧ DqAll (hide H G') vs2 ys, ⟨sm _ _ h1, dps_mono sm xs _ h2, sm _ _ h3, dps_mono sm ys _ h4⟩, fun Ha Hb ⟨q1, q2, q3, q4⟩ s => ⟨s _ _ q1, dps_mono s xs _ q2, s _ _ q3, dps_mono s ys _ q4⟩, ?_⟩
        have hl : (List.zipWith (fun x y => PyData.tuple [x, y]) xs ys).length = min vs1.length vs2.length := by
          rw [List.length_zipWith, ← dps_len h2, ← dps_len h4]
        refine (walk_zt hl).mono (fun H ⟨⟨q1, _, q3, _⟩, _⟩ => ⟨.inl (.inl (hide_get q1).1), .inl (.inl (hide_get q3).1)⟩) fun i H x H' hi ⟨⟨q1, q2, q3, q4⟩, sub⟩ ⟨T, x1, x2, ev, nT, eH, g1, g2⟩ => ?_
        subst ev eH
        obtain ⟨d1, e1, w1⟩ := dps_getV q2 g1
        obtain ⟨d2, e2, w2⟩ := dps_getV q4 g2
        exact ⟨same_new nT, _, zip_get e1 e2, pair_new nT sub w1 w2⟩
  · subst e1 e2
    cases r1' with
    | @lst a1 vs1 _ h1 h2 =>
      cases r2 with
      | @lst a2 vs2 _ h3 h4 =>
        refine ⟨_, _, _, _, rfl, .inl ⟨.inl (.inl (hide_get h1).1), .inl (.inl (hide_get h3).1), fun sz => fo _ _ _ p2 (st.trans st2) fd2 ⟨by rw [List.length_zipWith, ← dps_len h2]; exact Nat.le_trans (Nat.min_le_left _ _) (sz _ _ (.inl (hide_get h1).1)), fun G' hg hn => ?_⟩⟩⟩
        have sm : Same (hide H2 G) (hide H2 G') := hide_more hn
        refine ⟨fun H => hide H G' a1 = some (.lst vs1) ∧ DqAll (hide H G') vs1 xs ∧ hide H G' a2 = some (.lst vs2) ∧ DqAll (hide H G') vs2 ys, ⟨sm _ _ h1, dps_mono sm xs _ h2, sm _ _ h3, dps_mono sm ys _ h4⟩, fun Ha Hb ⟨q1, q2, q3, q4⟩ s => ⟨s _ _ q1, dps_mono s xs _ q2, s _ _ q3, dps_mono s ys _ q4⟩, ?_⟩
        have hl : (List.zipWith (fun x y => PyData.tuple [x, y]) xs ys).length = min vs1.length vs2.length := by
          rw [List.length_zipWith, ← dps_len h2, ← dps_len h4]
        refine (walk_zip hl).mono (fun H ⟨⟨q1, _, q3, _⟩, _⟩ => ⟨.inl (.inl (hide_get q1).1), .inl (.inl (hide_get q3).1)⟩) fun i H x H' hi ⟨⟨q1, q2, q3, q4⟩, sub⟩ ⟨T, x1, x2, ev, nT, eH, g1, g2⟩ => ?_
        subst ev eH
        obtain ⟨d1, e1, w1⟩ := dps_getV q2 g1
        obtain ⟨d2, e2, w2⟩ := dps_getV q4 g2
        exact ⟨same_new nT, _, zip_get e1 e2, pair_new nT sub w1 w2⟩
/-- enumerate(xs), xs a list -/
def enums (ds : List D) : List D := ds.zipIdx.map fun p => .tuple [.int (p.2 : Nat), p.1]
def iEnL (T : TD) : TIt := fun ρ P => T ρ fun c => ∃ ds, c = .list ds ∧ P (enums ds)
theorem enums_get {ds : List D} {i : Nat} {d : D} (h : ds[i]? = some d) : (enums ds)[i]? = some (.tuple [.int (i : Nat), d]) := by
  unfold enums
  rw [List.getElem?_map, List.getElem?_zipIdx, h]
  simp
theorem enums_len (ds : List D) : (enums ds).length = ds.length := by simp [enums]
theorem di_enL {e : Expr} {T : TD} {p pos tpos : Pos} {elts : List Expr} {kk : Nat} (hg : Gl X "enumerate") (hm : X.mg "enumerate" = none) (ha : PE X e (lf T)) (hs : starEach [e] X.env = [(false, eval e X.env)] := by rfl) : PI X (.Tuple elts kk tpos) (.Call (.Name "enumerate" p) [e] [] pos) (li (iEnL T)) := by
  refine PI.weak (PI.sized (pi_enum hg hm (pa_cons ha pa_nil hs) hs)) fun σ H R ⟨F, G, ρ, P, k, p, fo⟩ => ?_
  refine ⟨F, G, ρ, _, k, p, fun c v H1 ⟨ds, e, p1⟩ st fd r => ?_⟩
  subst e
  cases r with
  | @lst a1 vs1 _ h1 h2 =>
    refine ⟨_, _, rfl, .inl (.inl (hide_get h1).1), fun sz => fo _ _ _ p1 st fd ⟨by rw [enums_len, ← dps_len h2]; exact sz _ _ (.inl (hide_get h1).1), fun G' hg hn => ?_⟩⟩
    have sm : Same (hide H1 G) (hide H1 G') := hide_more hn
    refine ⟨fun H => hide H G' a1 = some (.lst vs1) ∧ DqAll (hide H G') vs1 ds, ⟨sm _ _ h1, dps_mono sm ds _ h2⟩, fun Ha Hb ⟨q1, q2⟩ s => ⟨s _ _ q1, dps_mono s ds _ q2⟩, ?_⟩
    rw [enums_len, ← dps_len h2]
    refine walk_enum.mono (fun H ⟨⟨q1, _⟩, _⟩ => .inl (.inl (hide_get q1).1)) fun i H x H' hi ⟨⟨q1, q2⟩, sub⟩ ⟨T, x1, x2, ev, nT, eH, g1, g2⟩ => ?_
    subst ev eH
    cases g1
    obtain ⟨d2, e2, w2⟩ := dps_getV q2 g2
    exact ⟨same_new nT, _, enums_get e2, pair_new nT sub (.int _) w2⟩
end
end Ao
set_option Elab.async false
set_option autoImplicit false
set_option linter.all false
set_option maxRecDepth 100000
set_option maxHeartbeats 1000000
namespace Ao
open PySem PySem.Spec PyProof.Rows L2

/-! ### targets -/
abbrev GD := D → SS → (SS → Prop) → Prop
abbrev GDs := List D → SS → (SS → Prop) → Prop
/-- the slots but those at ws are as they were -/
def Kept (ws : List Nat) (σ σ' : Sg) : Prop := σ'.length = σ.length ∧ ∀ i, i ∉ ws → σ'[i]? = σ[i]?
def lg (ws : List Nat) (T : GD) : TG := fun v σ H Q => ∃ F G ρ d P, Ok F G H σ ρ ∧ Dq (hide H G) v d ∧ T d ρ P ∧ ∀ ρ' σ', P ρ' → Kept ws σ σ' → RelS F (hide H G) σ' ρ' → Q σ' H
def lgs (ws : List Nat) (T : GDs) : TGs := fun vs σ H Q => ∃ F G ρ ds P, Ok F G H σ ρ ∧ DqAll (hide H G) vs ds ∧ T ds ρ P ∧ ∀ ρ' σ', P ρ' → Kept ws σ σ' → RelS F (hide H G) σ' ρ' → Q σ' H
theorem PG.weak {X : Cx} {e : Expr} {t t' : TG} (h : PG X e t) (w : ∀ v σ H Q, t' v σ H Q → t v σ H Q) : PG X e t' := ⟨fun pins s σ H v u Q I r q => h.run pins s σ H v u Q I r (w v σ H Q q)⟩
theorem PGs.weak {X : Cx} {es : List Expr} {t t' : TGs} (h : PGs X es t) (w : ∀ v σ H Q, t' v σ H Q → t v σ H Q) : PGs X es t' := ⟨fun pins s σ H vs us Q I r q => h.run pins s σ H vs us Q I r (w vs σ H Q q)⟩
def gN (i : Nat) : GD := fun d ρ P => P (ρ.set i (some (.d d)))
def gNl : GDs := fun ds ρ P => ds = [] ∧ P ρ
def gCs (A : GD) (B : GDs) : GDs := fun ds ρ P => ∃ d r, ds = d :: r ∧ A d ρ fun ρ' => B r ρ' P
def gTp (n : Nat) (B : GDs) : GD := fun d ρ P => ∃ ds, d = .tuple ds ∧ ds.length = n ∧ B ds ρ P
section
variable {X : Cx} {pos : Pos}
theorem dg_n (i : Nat) {x : Str} (hN : X.N.Nodup) (hi : X.N[i]? = some x := by rfl) (hx : Loc X.env.scope x := by first | exact Or.inl rfl | exact Or.inr rfl) (hf : X.fn x = true ∨ X.env.scope.names.lookup x = some .local := by first | exact .inl rfl | exact .inr rfl) : PG X (.Name x pos) (lg [i] (gN i)) := by
  refine PG.weak (pg_name hN hi hx hf) fun v σ H Q ⟨F, G, ρ, d, P, k, r, p, fo⟩ => ?_
  refine fo _ _ p ⟨by simp, fun j hj => ?_⟩ (k.rel.set (s := .d d) r)
  have : i ≠ j := fun e => hj (by simp [e])
  rw [List.getElem?_set_ne this]
theorem dg_nil : PGs X [] (lgs [] gNl) := by
  refine PGs.weak pgs_nil fun vs σ H Q ⟨F, G, ρ, ds, P, k, r, ⟨e, p⟩, fo⟩ => ?_
  subst e
  cases r
  exact ⟨rfl, fo _ _ p ⟨rfl, fun _ _ => rfl⟩ k.rel⟩
theorem dg_cons {e : Expr} {es : List Expr} {A : GD} {B : GDs} {wa wb : List Nat} (h1 : PG X e (lg wa A)) (h2 : PGs X es (lgs wb B)) (hs : (assignEach (e :: es) X.env).map (·.2) = assign e X.env :: (assignEach es X.env).map (·.2) := by rfl) : PGs X (e :: es) (lgs (wa ++ wb) (gCs A B)) := by
  refine PGs.weak (pgs_cons h1 h2 hs) fun vs σ H Q ⟨F, G, ρ, ds, P, k, r, ⟨d, dr, e, p⟩, fo⟩ => ?_
  subst e
  cases r with
  | cons r1 r2 =>
    refine ⟨_, _, rfl, F, G, ρ, d, _, k, r1, p, fun ρ1 σ1 p1 ⟨kl, ka⟩ rel => ?_⟩
    refine ⟨F, G, ρ1, dr, P, ⟨k.gf, k.sub, k.feed, rel⟩, r2, p1, fun ρ2 σ2 p2 ⟨kl2, kb⟩ rel2 => ?_⟩
    refine fo _ _ p2 ⟨kl2.trans kl, fun i hi => ?_⟩ rel2
    rw [List.mem_append, not_or] at hi
    exact (kb i hi.2).trans (ka i hi.1)
theorem dg_tup {es : List Expr} {kk : Nat} {B : GDs} {ws : List Nat} {n : Nat} (h : PGs X es (lgs ws B)) (hc : X.calm = true := by rfl) (hn : (assignEach es X.env).length = n := by rfl) (hst : (assignEach es X.env).findIdx? (·.1) = none := by rfl) : PG X (.Tuple es kk pos) (lg ws (gTp n B)) := by
  refine PG.weak (pg_tup hc h hn hst) fun v σ H Q ⟨F, G, ρ, d, P, k, r, ⟨ds, e, hl, p⟩, fo⟩ => ?_
  subst e
  cases r with
  | tup h1 h2 => exact ⟨_, _, rfl, .inl (.inl (hide_get h1).1), (dps_len h2).trans hl, F, G, ρ, ds, P, k, h2, p, fo⟩
end

/-! ### comprehensions -/
def wipeS (ρ : SS) : List Nat → SS
  | [] => ρ
  | v :: vs => (wipeS ρ vs).set v none
theorem rel_wipe {F : Addr} {Hh : Hp} {σ : Sg} {ρ : SS} (h : RelS F Hh σ ρ) : ∀ vs : List Nat, RelS F Hh (wipe σ vs) (wipeS ρ vs)
  | [] => h
  | v :: vs => (rel_wipe h vs).unset
theorem wipe_at {σ : Sg} {i : Nat} : ∀ {vs : List Nat}, i < σ.length → (wipe σ vs)[i]? = if i ∈ vs then some none else σ[i]?
  | [], h => by simp [wipe]
  | v :: vs, h => by
    have ih := wipe_at (vs := vs) h
    unfold wipe
    by_cases e : v = i
    · subst e
      rw [List.getElem?_set_self (by rw [wipe_length]; exact h), if_pos (by simp)]
    · rw [List.getElem?_set_ne e, ih]
      have : (i ∈ v :: vs) ↔ i ∈ vs := by simp [Ne.symm e]
      simp only [this]
theorem wipe_same {σ σ2 : Sg} {ws vs : List Nat} (k : Kept ws (wipe σ vs) σ2) (hw : ∀ i ∈ ws, i ∈ vs) : wipe σ2 vs = wipe σ vs := by
  have hl : σ2.length = σ.length := k.1.trans (wipe_length σ vs)
  refine List.ext_getElem? fun i => ?_
  by_cases h : i < σ.length
  · rw [wipe_at (by rw [hl]; exact h), wipe_at h]
    split
    · rfl
    · rename_i hn
      rw [k.2 i fun z => hn (hw i z), wipe_at h, if_neg hn]
  · rw [List.getElem?_eq_none (by rw [wipe_length, hl]; omega), List.getElem?_eq_none (by rw [wipe_length]; omega)]
def lcW (Tg : GD) (Tt : TB) (Te : TD) : List D → List D → SS → (D → Prop) → Prop
  | [], acc, _, P => P (.list acc)
  | d :: r, acc, ρ, P => Tg d ρ fun ρ' => Tt ρ' fun b => if b = true then Te ρ' fun y => lcW Tg Tt Te r (acc ++ [y]) ρ P else lcW Tg Tt Te r acc ρ P
def dLc (Ti : TIt) (Tg : GD) (Tt : TB) (Te : TD) (vs : List Nat) : TD := fun ρ P => Ti ρ fun ds => lcW Tg Tt Te ds [] (wipeS ρ vs) P
def bYes : TB := fun _ P => P true
theorem lc_lift {Ti : TIt} {Tg : GD} {Tt : TB} {Te : TD} {ws vs : List Nat} {tt : TT} (htt : ∀ σ H Q, lt Tt σ H Q → tt σ H Q) (hw : ∀ i ∈ ws, i ∈ vs) (σ : Sg) (H : Hp) (Q : VK) (h : lf (dLc Ti Tg Tt Te vs) σ H Q) : tLc (li Ti) (lg ws Tg) tt (lf Te) vs σ H Q := by
  obtain ⟨F, G, ρ, P, k, hT, fo⟩ := h
  refine ⟨F, G, ρ, _, k, hT, fun items J H1 hl st fd dw => fun L nL => ?_⟩
  have k1 := k.step st fd
  obtain ⟨Gp, g0, gk, wk⟩ := dw.ex (fun b => G b ∨ b = L) (fun _ g => .inl g) (fun b g n => by
    rcases g with g | g
    · exact absurd g n
    · rw [g]; exact nL)
  have gF : (fun b => G b ∨ b = L) F := .inl k.gf
  have st0 : Step F H1 (upd H1 L (.lst [])) := Step.of (same_new nL)
  have nLF : L ≠ F := (feed_cells fd (Step.refl F H1) fd nL).1
  have hsub : ∀ {H' : Hp} {acc : List V}, Step F H1 H' → FeedOk F H' → H' L = some (.lst acc) → ∀ b, (G b ∨ b = L) → H' b ≠ none := fun s f e b g => by
    rcases g with g | g
    · exact (k1.step s f).sub b g
    · rw [g, e]; simp
  have hrel : ∀ {H' : Hp}, Step F H1 H' → RelS F (hide H' fun b => G b ∨ b = L) (wipe σ vs) (wipeS ρ vs) := fun s => by
    refine rel_wipe (RelS.mono ?_ k1.rel) vs
    intro b o e
    obtain ⟨e1, n1⟩ := hide_get e
    refine hide_of (s.at_ b o (fun z => n1 (by rw [z]; exact k.gf)) e1) fun g => ?_
    rcases g with g | g
    · exact n1 g
    · rw [g, nL] at e1; cases e1
  refine lc_it wk (Pv := fun i H' => Step F H1 H' ∧ FeedOk F H' ∧ Gp H' ∧ ∃ acc ds, H' L = some (.lst acc) ∧ DqAll (hide H' fun b => G b ∨ b = L) acc ds ∧ ds.length ≤ i ∧ lcW Tg Tt Te (items.drop i) ds (wipeS ρ vs) P)
    ⟨st0, feed_same (same_new nL) fd, gk _ _ g0 (st0.hide gF), [], [], upd_same, .nil, Nat.le_refl _, hl⟩ (fun i H' hi ⟨s, f, g, acc, ds, e, _⟩ => ⟨g, hsub s f e⟩) (fun i x H' H2 hi ⟨s, f, g, acc, ds, e, ra, hn, hw'⟩ ⟨sm, d, ed, rd⟩ => ?_) (fun H' ⟨s, f, g, acc, ds, e, ra, hn, hw'⟩ => ?_)
  · rw [List.drop_eq_getElem_cons hi] at hw'
    have ei : items[i] = d := by
      rw [List.getElem?_eq_getElem hi] at ed
      exact Option.some.inj ed
    rw [ei] at hw'
    have s2 : Step F H1 H2 := s.trans (Step.of sm)
    have f2 := feed_same sm f
    have e2 := sm _ _ e
    have sm2 : Same (hide H' fun b => G b ∨ b = L) (hide H2 fun b => G b ∨ b = L) := (Step.of sm).hide gF
    have g2 := gk _ _ g sm2
    have ok2 : Ok F (fun b => G b ∨ b = L) H2 (wipe σ vs) (wipeS ρ vs) := ⟨gF, hsub s2 f2 e2, f2, hrel s2⟩
    refine ⟨F, _, _, d, _, ok2, rd, hw', fun ρ3 σ3 p3 kp rel3 => ⟨wipe_same kp hw, ?_⟩⟩
    refine htt _ _ _ ⟨F, _, ρ3, _, ⟨gF, ok2.sub, f2, rel3⟩, p3, fun b H3 pb s3 f3 => ?_⟩
    have s13 := s2.trans s3
    have e3 : H3 L = some (.lst acc) := s3.at_ L _ nLF e2
    have sm3 := s3.hide (G := fun b => G b ∨ b = L) gF
    cases b with
    | false =>
      refine iteF ⟨s13, f3, gk _ _ g2 sm3, acc, ds, e3, dps_mono (fun b o q => sm3 b o (sm2 b o q)) ds _ ra, Nat.le_succ_of_le hn, pb⟩
    | true =>
      refine iteT ⟨F, _, ρ3, _, (⟨gF, ok2.sub, f2, rel3⟩ : Ok F (fun b => G b ∨ b = L) H2 σ3 ρ3).step s3 f3, pb, fun y yv H4 p4 s4 f4 r4 => ?_⟩
      have s14 := s13.trans s4
      have e4 : H4 L = some (.lst acc) := s4.at_ L _ nLF e3
      have sm4 := s4.hide (G := fun b => G b ∨ b = L) gF
      have al := dps_len ra
      have dl := dw.len
      have up : Same (hide H4 fun b => G b ∨ b = L) (hide (upd H4 L (.lst (acc ++ [yv]))) fun b => G b ∨ b = L) := fun b o q => by
        obtain ⟨q1, q2⟩ := hide_get q
        refine hide_of ?_ q2
        rw [upd_ne fun z => q2 (.inr z)]
        exact q1
      have fd5 : FeedOk F (upd H4 L (.lst (acc ++ [yv]))) := (feed_cells fd s14 f4 nL).2 _
      refine ⟨acc, e4, by omega, ?_, fd5, gk _ _ (gk _ _ (gk _ _ g2 sm3) sm4) up, acc ++ [yv], ds ++ [y], upd_same, ?_, by simp; omega, p4⟩
      · refine ⟨fun b o nb q => ?_, fun C sp re co q => ?_⟩
        · by_cases z : b = L
          · rw [z, nL] at q; cases q
          · rw [upd_ne z]; exact s14.at_ b o nb q
        · rw [upd_ne nLF.symm]
          exact s14.cell C sp re co q
      · exact dps_app (dps_mono (fun b o q => up b o (sm4 b o (sm3 b o (sm2 b o q)))) ds _ ra) (.cons (dp_mono up _ _ r4) .nil)
  · rw [List.drop_length] at hw'
    refine fo _ _ _ hw' (st.trans s) f (.lst (hide_of e (fun g => k1.sub L g nL)) (dps_mono (hide_less fun b g => .inl g) ds _ ra))
end Ao
set_option Elab.async false
set_option autoImplicit false
set_option linter.all false
set_option maxRecDepth 100000
set_option maxHeartbeats 1000000
namespace Ao
open PySem PySem.Spec PyProof.Rows L2
theorem dts_nil {X : Cx} : PTs X [] (lt bYes) := ⟨fun pins s σ H Q I ⟨F, G, ρ, P, k, p, fo⟩ => (pts_nil (X := X)).run pins s σ H Q I (fo true H p (Step.refl F H) k.feed)⟩
theorem dts_one {X : Cx} {c : Expr} {T : TB} (h : PT X c (lt T)) : PTs X [c] (lt T) := pts_one h
section
variable {X : Cx} {elt tg iter : Expr} {ifs : List Expr} {scope : Scope} {own : List (Str × Nat)} {pos spos : Pos} {Ti : TIt} {Tg : GD} {Tt : TB} {Te : TD} {ws : List Nat}
theorem de_lc (hN : X.N.Nodup) (hi : PI X tg iter (li Ti)) (ok : BlkOk X.N X.env.scope scope own)
    (hg : ∀ (s : Shared) (H : Hp) (C : Addr) (cl : List (Str × Addr)) (fp : List Addr), PG (X.blk s H scope (compEnvC scope cl C X.env) fp) tg (lg ws Tg)) (ht : ∀ (s : Shared) (H : Hp) (C : Addr) (cl : List (Str × Addr)) (fp : List Addr), PTs (X.blk s H scope (compEnvC scope cl C X.env) fp) ifs (lt Tt))
    (he : ∀ (s : Shared) (H : Hp) (C : Addr) (cl : List (Str × Addr)) (fp : List Addr), PE (X.blk s H scope (compEnvC scope cl C X.env) fp) elt (lf Te)) (hw : ∀ i ∈ ws, i ∈ own.map (·.2) := by decide) (hc : X.calm = true := by rfl) (hs : ∀ x, foldedSetIterable iter X.env x = pure x := by intro _; rfl) :
    PE X (.ListComp elt [⟨tg, iter, ifs, 0⟩] scope pos) (lf (dLc Ti Tg Tt Te (own.map (·.2)))) :=
  PE.weak (pe_lc hc hN hi ok hg ht he hs) fun σ H Q h => lc_lift (fun _ _ _ q => q) hw σ H Q h
end

/-! ### two clauses -/
def lcI (Tg : GD) (Tt : TB) (Te : TD) : List D → List D → SS → (List D → Prop) → Prop
  | [], acc, _, C => C acc
  | d :: r, acc, ρ, C => Tg d ρ fun ρ' => Tt ρ' fun b => if b = true then Te ρ' fun y => acc.length < 100000 ∧ lcI Tg Tt Te r (acc ++ [y]) ρ C else lcI Tg Tt Te r acc ρ C
def lcO (Tg : GD) (Tt : TB) (Ti1 : TIt) (Tg1 : GD) (Tt1 : TB) (Te : TD) (vs1 : List Nat) : List D → List D → SS → (D → Prop) → Prop
  | [], acc, _, P => P (.list acc)
  | d :: r, acc, ρ, P => Tg d ρ fun ρ' => Tt ρ' fun b => if b = true then Ti1 ρ' fun es => lcI Tg1 Tt1 Te es acc (wipeS ρ' vs1) fun acc' => lcO Tg Tt Ti1 Tg1 Tt1 Te vs1 r acc' ρ P else lcO Tg Tt Ti1 Tg1 Tt1 Te vs1 r acc ρ P
def dLc2 (Ti : TIt) (Tg : GD) (Tt : TB) (Ti1 : TIt) (Tg1 : GD) (Tt1 : TB) (Te : TD) (vs vs1 : List Nat) : TD := fun ρ P => Ti ρ fun ds => lcO Tg Tt Ti1 Tg1 Tt1 Te vs1 ds [] (wipeS ρ vs) P
/-- a growing list at L, hidden -/
structure Grow (F : Addr) (G : Addr → Prop) (H1 : Hp) (L : Addr) (H : Hp) (ds : List D) : Prop where
  step : Step F H1 H
  feed : FeedOk F H
  lst : ∃ acc, H L = some (.lst acc) ∧ DqAll (hide H fun b => G b ∨ b = L) acc ds
section
variable {F : Addr} {G : Addr → Prop} {H1 H H' : Hp} {L : Addr} {ds : List D} {σ : Sg} {ρ : SS}
theorem Grow.go (g : Grow F G H1 L H ds) (gf : G F) (nL : H1 L = none) (fd : FeedOk F H1) (st : Step F H H') (f : FeedOk F H') : Grow F G H1 L H' ds := by
  obtain ⟨s, f0, acc, e, r⟩ := g
  exact ⟨s.trans st, f, acc, st.at_ L _ (feed_cells fd (Step.refl F H1) fd nL).1 e, dps_mono (st.hide (G := fun b => G b ∨ b = L) (.inl gf)) ds _ r⟩
theorem Grow.sub (g : Grow F G H1 L H ds) (k : Ok F G H1 σ ρ) : ∀ b, (G b ∨ b = L) → H b ≠ none := fun b q => by
  obtain ⟨s, f, acc, e, r⟩ := g
  rcases q with q | q
  · exact (k.step s f).sub b q
  · rw [q, e]; simp
theorem Grow.push (g : Grow F G H1 L H ds) (gf : G F) (nL : H1 L = none) (fd : FeedOk F H1) {y : D} {yv : V} (r : Dq (hide H fun b => G b ∨ b = L) yv y) :
    ∃ acc, H L = some (.lst acc) ∧ acc.length = ds.length ∧ Grow F G H1 L (upd H L (.lst (acc ++ [yv]))) (ds ++ [y]) ∧ Same (hide H fun b => G b ∨ b = L) (hide (upd H L (.lst (acc ++ [yv]))) fun b => G b ∨ b = L) := by
  obtain ⟨s, f, acc, e, ra⟩ := g
  have nLF := (feed_cells fd (Step.refl F H1) fd nL).1
  have up : Same (hide H fun b => G b ∨ b = L) (hide (upd H L (.lst (acc ++ [yv]))) fun b => G b ∨ b = L) := fun b o q => by
    obtain ⟨q1, q2⟩ := hide_get q
    refine hide_of ?_ q2
    rw [upd_ne fun z => q2 (.inr z)]
    exact q1
  refine ⟨acc, e, dps_len ra, ⟨⟨fun b o nb q => ?_, fun C sp re co q => ?_⟩, (feed_cells fd s f nL).2 _, _, upd_same, dps_app (dps_mono up ds _ ra) (.cons (dp_mono up _ _ r) .nil)⟩, up⟩
  · by_cases z : b = L
    · rw [z, nL] at q; cases q
    · rw [upd_ne z]; exact s.at_ b o nb q
  · rw [upd_ne nLF.symm]
    exact s.cell C sp re co q
end
theorem lc2_lift {Ti Ti1 : TIt} {Tg Tg1 : GD} {Tt Tt1 : TB} {Te : TD} {ws ws1 vs vs1 : List Nat} (hw : ∀ i ∈ ws, i ∈ vs) (hw1 : ∀ i ∈ ws1, i ∈ vs1) (σ : Sg) (H : Hp) (Q : VK) (h : lf (dLc2 Ti Tg Tt Ti1 Tg1 Tt1 Te vs vs1) σ H Q) :
    tLc2 (li Ti) (lg ws Tg) (lt Tt) (li Ti1) (lg ws1 Tg1) (lt Tt1) (lf Te) vs vs1 σ H Q := by
  obtain ⟨F, G, ρ, P, k, hT, fo⟩ := h
  refine ⟨F, G, ρ, _, k, hT, fun items J H1 hl st fd dw => fun L nL => ?_⟩
  have k1 := k.step st fd
  have fresh : ∀ b, (G b ∨ b = L) → ¬ G b → H1 b = none := fun b g n => by
    rcases g with g | g
    · exact absurd g n
    · rw [g]; exact nL
  obtain ⟨Gp, g0, gk, wk⟩ := dw.ex (fun b => G b ∨ b = L) (fun _ g => .inl g) fresh
  have gF : (fun b => G b ∨ b = L) F := .inl k.gf
  have hrel : RelS F (hide H1 fun b => G b ∨ b = L) (wipe σ vs) (wipeS ρ vs) := rel_wipe (RelS.mono (hide_more fresh) k1.rel) vs
  -- the outer loop
  have W0 : Grow F G H1 L (upd H1 L (.lst [])) [] := ⟨Step.of (same_new nL), feed_same (same_new nL) fd, [], upd_same, .nil⟩
  refine ⟨fun i m H' => m = items.length - i ∧ i ≤ items.length ∧ Gp H' ∧ ∃ ds, Grow F G H1 L H' ds ∧ lcO Tg Tt Ti1 Tg1 Tt1 Te vs1 (items.drop i) ds (wipeS ρ vs) P, ⟨_, rfl, Nat.zero_le _, gk _ _ g0 ((Step.of (same_new nL)).hide gF), [], W0, hl⟩, ?_⟩
  rintro i m H' ⟨rfl, hi, gp, ds, gr, hw'⟩
  have sub := gr.sub k1
  by_cases hlt : i < items.length
  · refine .inr ⟨wk.goes i H' hlt ⟨gp, sub⟩, fun H3 => Gp H3 ∧ ∃ ds, Grow F G H1 L H3 ds ∧ lcO Tg Tt Ti1 Tg1 Tt1 Te vs1 (items.drop (i + 1)) ds (wipeS ρ vs) P, fun H3 ⟨q1, q2⟩ => ⟨_, by omega, rfl, hlt, q1, q2⟩, fun x H2 y => ?_⟩
    obtain ⟨sm, d, ed, rd⟩ := wk.yields i H' x H2 hlt ⟨gp, sub⟩ y
    rw [List.drop_eq_getElem_cons hlt] at hw'
    have ei : items[i] = d := by
      rw [List.getElem?_eq_getElem hlt] at ed
      exact Option.some.inj ed
    rw [ei] at hw'
    have gr2 := gr.go k.gf nL fd (Step.of sm) (feed_same sm gr.feed)
    have gp2 := gk _ _ gp ((Step.of sm).hide gF)
    have rel2 : RelS F (hide H2 fun b => G b ∨ b = L) (wipe σ vs) (wipeS ρ vs) := RelS.mono (gr2.step.hide gF) hrel
    refine ⟨F, _, _, d, _, ⟨gF, gr2.sub k1, gr2.feed, rel2⟩, rd, hw', fun ρ3 σ3 p3 kp rel3 => ⟨wipe_same kp hw, ?_⟩⟩
    have ok3 : Ok F (fun b => G b ∨ b = L) H2 σ3 ρ3 := ⟨gF, gr2.sub k1, gr2.feed, rel3⟩
    refine ⟨F, _, ρ3, _, ok3, p3, fun b H3 pb s3 f3 => ?_⟩
    have gr3 := gr2.go k.gf nL fd s3 f3
    have gp3 := gk _ _ gp2 (s3.hide gF)
    cases b with
    | false => exact iteF ⟨gp3, ds, gr3, pb⟩
    | true =>
      refine iteT ⟨F, _, ρ3, _, ok3.step s3 f3, pb, fun es J1 H4 he st4 fd4 dw1 => ?_⟩
      have gr4 := gr3.go k.gf nL fd st4 fd4
      have gp4 := gk _ _ gp3 (st4.hide gF)
      obtain ⟨Gp1, g10, gk1, wk1⟩ := dw1.ex (fun b => G b ∨ b = L) (fun _ g => g) fun b g n => absurd g n
      have rel4 : RelS F (hide H4 fun b => G b ∨ b = L) (wipe σ3 vs1) (wipeS ρ3 vs1) := rel_wipe ((ok3.step s3 f3).step st4 fd4).rel vs1
      refine ⟨fun j m H' => m = es.length - j ∧ j ≤ es.length ∧ Gp H' ∧ Gp1 H' ∧ Same (hide H4 fun b => G b ∨ b = L) (hide H' fun b => G b ∨ b = L) ∧ ∃ ds, Grow F G H1 L H' ds ∧ lcI Tg1 Tt1 Te (es.drop j) ds (wipeS ρ3 vs1) fun acc' => lcO Tg Tt Ti1 Tg1 Tt1 Te vs1 (items.drop (i + 1)) acc' (wipeS ρ vs) P,
        ⟨_, rfl, Nat.zero_le _, gp4, g10, Same.refl _, ds, gr4, he⟩, ?_⟩
      rintro j m H5 ⟨rfl, hj, gp5, g15, st5, ds5, gr5, hw5⟩
      have sub5 := gr5.sub k1
      by_cases hjl : j < es.length
      · refine .inr ⟨wk1.goes j H5 hjl ⟨g15, sub5⟩, fun H6 => Gp H6 ∧ Gp1 H6 ∧ Same (hide H4 fun b => G b ∨ b = L) (hide H6 fun b => G b ∨ b = L) ∧ ∃ ds, Grow F G H1 L H6 ds ∧ lcI Tg1 Tt1 Te (es.drop (j + 1)) ds (wipeS ρ3 vs1) fun acc' => lcO Tg Tt Ti1 Tg1 Tt1 Te vs1 (items.drop (i + 1)) acc' (wipeS ρ vs) P, fun H6 ⟨q1, q2, q3, q4⟩ => ⟨_, by omega, rfl, hjl, q1, q2, q3, q4⟩, fun x6 H6 y6 => ?_⟩
        obtain ⟨sm6, d6, ed6, rd6⟩ := wk1.yields j H5 x6 H6 hjl ⟨g15, sub5⟩ y6
        rw [List.drop_eq_getElem_cons hjl] at hw5
        have ej : es[j] = d6 := by
          rw [List.getElem?_eq_getElem hjl] at ed6
          exact Option.some.inj ed6
        rw [ej] at hw5
        have gr6 := gr5.go k.gf nL fd (Step.of sm6) (feed_same sm6 gr5.feed)
        have gp6 := gk _ _ gp5 ((Step.of sm6).hide gF)
        have g16 := gk1 _ _ g15 ((Step.of sm6).hide gF)
        have st6 := st5.trans ((Step.of sm6).hide (G := fun b => G b ∨ b = L) gF)
        have rel6 : RelS F (hide H6 fun b => G b ∨ b = L) (wipe σ3 vs1) (wipeS ρ3 vs1) := RelS.mono st6 rel4
        refine ⟨F, _, _, d6, _, ⟨gF, gr6.sub k1, gr6.feed, rel6⟩, rd6, hw5, fun ρ7 σ7 p7 kp7 rel7 => ⟨wipe_same kp7 hw1, ?_⟩⟩
        have ok7 : Ok F (fun b => G b ∨ b = L) H6 σ7 ρ7 := ⟨gF, gr6.sub k1, gr6.feed, rel7⟩
        refine ⟨F, _, ρ7, _, ok7, p7, fun b H8 pb s8 f8 => ?_⟩
        have gr8 := gr6.go k.gf nL fd s8 f8
        have gp8 := gk _ _ gp6 (s8.hide gF)
        have g18 := gk1 _ _ g16 (s8.hide gF)
        cases b with
        | false => exact iteF ⟨gp8, g18, st6.trans (s8.hide gF), ds5, gr8, pb⟩
        | true =>
          refine iteT ⟨F, _, ρ7, _, ok7.step s8 f8, pb, fun y yv H9 ⟨hz, p9⟩ s9 f9 r9 => ?_⟩
          have gr9 := gr8.go k.gf nL fd s9 f9
          obtain ⟨acc, ea, el, gr10, up⟩ := gr9.push k.gf nL fd r9
          exact ⟨acc, ea, Nat.lt_of_lt_of_le (by rw [el]; exact hz) (line_ok (Nat.le_refl _)), gk _ _ (gk _ _ gp8 (s9.hide gF)) up, gk1 _ _ (gk1 _ _ g18 (s9.hide gF)) up, (st6.trans ((s8.trans s9).hide gF)).trans up, _, gr10, p9⟩
      · have e : j = es.length := by omega
        subst e
        rw [List.drop_length] at hw5
        exact .inl ⟨wk1.stops H5 ⟨g15, sub5⟩, gp5, ds5, gr5, hw5⟩
  · have e : i = items.length := by omega
    subst e
    rw [List.drop_length] at hw'
    obtain ⟨s, f, acc, ea, ra⟩ := gr
    exact .inl ⟨wk.stops H' ⟨gp, sub⟩, fo _ _ _ hw' (st.trans s) f (.lst (hide_of ea (fun g => k1.sub L g nL)) (dps_mono (hide_less fun b g => .inl g) ds _ ra))⟩
section
variable {X : Cx} {elt tg iter tg1 iter1 : Expr} {ifs ifs1 : List Expr} {scope : Scope} {own : List (Str × Nat)} {vs1 : List Nat} {pos spos : Pos} {Ti Ti1 : TIt} {Tg Tg1 : GD} {Tt Tt1 : TB} {Te : TD} {ws ws1 : List Nat}
theorem de_lc2 (hN : X.N.Nodup) (hi : PI X tg iter (li Ti)) (ok : BlkOk X.N X.env.scope scope own) (hv : ∀ i ∈ vs1, i ∈ own.map (·.2))
    (hg : ∀ (s : Shared) (H : Hp) (C : Addr) (cl : List (Str × Addr)) (fp : List Addr), PG (X.blk s H scope (compEnvC scope cl C X.env) fp) tg (lg ws Tg)) (ht : ∀ (s : Shared) (H : Hp) (C : Addr) (cl : List (Str × Addr)) (fp : List Addr), PTs (X.blk s H scope (compEnvC scope cl C X.env) fp) ifs (lt Tt))
    (hi1 : ∀ (s : Shared) (H : Hp) (C : Addr) (cl : List (Str × Addr)) (fp : List Addr), PI (X.blk s H scope (compEnvC scope cl C X.env) fp) tg1 iter1 (li Ti1))
    (hg1 : ∀ (s : Shared) (H : Hp) (C : Addr) (cl : List (Str × Addr)) (fp : List Addr), PG (X.blk s H scope (compEnvC scope cl C X.env) fp) tg1 (lg ws1 Tg1)) (ht1 : ∀ (s : Shared) (H : Hp) (C : Addr) (cl : List (Str × Addr)) (fp : List Addr), PTs (X.blk s H scope (compEnvC scope cl C X.env) fp) ifs1 (lt Tt1))
    (he : ∀ (s : Shared) (H : Hp) (C : Addr) (cl : List (Str × Addr)) (fp : List Addr), PE (X.blk s H scope (compEnvC scope cl C X.env) fp) elt (lf Te)) (hw : ∀ i ∈ ws, i ∈ own.map (·.2) := by decide) (hw1 : ∀ i ∈ ws1, i ∈ vs1 := by decide) (hc : X.calm = true := by rfl) (hs : ∀ x, foldedSetIterable iter X.env x = pure x := by intro _; rfl)
    (hs1 : ∀ env x, foldedSetIterable iter1 env x = pure x := by intro _ _; rfl) :
    PE X (.ListComp elt [⟨tg, iter, ifs, 0⟩, ⟨tg1, iter1, ifs1, 0⟩] scope pos) (lf (dLc2 Ti Tg Tt Ti1 Tg1 Tt1 Te (own.map (·.2)) vs1)) :=
  PE.weak (pe_lc2 hc hN hi ok hv hg ht hi1 hg1 ht1 he hs hs1) fun σ H Q h => lc2_lift hw hw1 σ H Q h
end

/-! ### statements -/
abbrev Acc := Option (Addr × List D)
structure DEnds where
  nx : SS → Acc → Prop
  rt : D → Prop
  bk : SS → Acc → Prop := fun _ _ => False
  ct : SS → Acc → Prop := fun _ _ => False
abbrev DS := DEnds → SS → Acc → Prop
def gOf (Gc : Addr → Prop) : Option Addr → Addr → Prop
  | none => Gc
  | some a => fun b => Gc b ∨ b = a
/-- where a def's body stands: the feed at F, hidden Gc, the heap He at its entry, the growing list in slot k -/
structure SOk (F : Addr) (Gc : Addr → Prop) (He : Hp) (k : Nat) (H : Hp) (σ : Sg) (ρ : SS) (acc : Acc) : Prop where
  gf : Gc F
  sub : ∀ b, Gc b → He b ≠ none
  fe : FeedOk F He
  step : Step F He H
  feed : FeedOk F H
  rel : RelS F (hide H (gOf Gc (acc.map (·.1)))) σ ρ
  acc : ∀ a ds, acc = some (a, ds) → He a = none ∧ σ[k]? = some (some (.ref a)) ∧ ∃ xs, H a = some (.lst xs) ∧ DqAll (hide H (gOf Gc (some a))) xs ds
/-- on the way: all but the feed and the growing list is as it was -/
structure Adv (F : Addr) (a0 : Option Addr) (H : Hp) (a1 : Option Addr) (H' : Hp) : Prop where
  at_ : ∀ b o, b ≠ F → some b ≠ a0 → H b = some o → H' b = some o
  new : a1 = a0 ∨ (a0 = none ∧ ∃ a, a1 = some a ∧ H a = none)
theorem Adv.of {F : Addr} {a0 : Option Addr} {H H' : Hp} (st : Step F H H') : Adv F a0 H a0 H' := ⟨fun b o n _ q => st.at_ b o n q, .inl rfl⟩
theorem Adv.trans {F : Addr} {a0 a1 a2 : Option Addr} {H H1 H2 : Hp} (x : Adv F a0 H a1 H1) (y : Adv F a1 H1 a2 H2) (f1 : FeedOk F H1) : Adv F a0 H a2 H2 := by
  refine ⟨fun b o nF n q => y.at_ b o nF (fun e => ?_) (x.at_ b o nF n q), ?_⟩
  · rcases x.new with z | ⟨z, a, e1, e2⟩
    · exact n (e.trans z)
    · rw [e1] at e
      cases e
      rw [e2] at q; cases q
  · rcases y.new with z | ⟨z, a, e1, e2⟩
    · rcases x.new with z' | ⟨z', a, e1, e2⟩
      · exact .inl (z.trans z')
      · exact .inr ⟨z', a, z.trans e1, e2⟩
    · rcases x.new with z' | ⟨z', a', e1', e2'⟩
      · refine .inr ⟨z'.symm.trans z, a, e1, ?_⟩
        cases q : H a with
        | none => rfl
        | some o =>
          have nF : a ≠ F := fun w => by
            obtain ⟨_, _, _, _, _, r, _⟩ := f1
            rw [w, r] at e2; cases e2
          have := x.at_ a o nF (by rw [← z', z]; simp) q
          rw [e2] at this; cases this
      · rw [z] at e1'; cases e1'
section
variable {F : Addr} {Gc : Addr → Prop} {He : Hp} {k : Nat} {H H' : Hp} {σ σ' : Sg} {ρ ρ' : SS} {acc : Acc}
theorem SOk.aF (s : SOk F Gc He k H σ ρ acc) {a : Addr} {ds : List D} (e : acc = some (a, ds)) : a ≠ F := fun z => by
  obtain ⟨h, _⟩ := s.acc a ds e
  obtain ⟨_, _, _, _, _, q, _⟩ := s.fe
  rw [z, q] at h; cases h
theorem SOk.gF (s : SOk F Gc He k H σ ρ acc) : gOf Gc (acc.map (·.1)) F := by
  cases acc with
  | none => exact s.gf
  | some p => exact .inl s.gf
theorem SOk.ok (s : SOk F Gc He k H σ ρ acc) : Ok F (gOf Gc (acc.map (·.1))) H σ ρ := by
  have base : ∀ b, Gc b → H b ≠ none := fun b g e => by
    by_cases hb : b = F
    · obtain ⟨_, _, _, _, _, q, _⟩ := s.feed
      rw [hb, q] at e; cases e
    · cases q : He b with
      | none => exact s.sub b g q
      | some o => rw [s.step.at_ b o hb q] at e; cases e
  refine ⟨s.gF, fun b g => ?_, s.feed, s.rel⟩
  cases hacc : acc with
  | none =>
    rw [hacc] at g
    exact base b g
  | some p =>
    obtain ⟨a, ds⟩ := p
    rw [hacc] at g
    rcases g with g | g
    · exact base b g
    · obtain ⟨_, _, xs, e, _⟩ := s.acc a ds hacc
      rw [g]
      show H a ≠ none
      rw [e]; simp
/-- behind something that leaves the growing list alone -/
theorem SOk.next (s : SOk F Gc He k H σ ρ acc) (st : Step F H H') (fd : FeedOk F H') (rel : RelS F (hide H' (gOf Gc (acc.map (·.1)))) σ' ρ') (hk : σ'[k]? = σ[k]?) : SOk F Gc He k H' σ' ρ' acc := by
  refine ⟨s.gf, s.sub, s.fe, s.step.trans st, fd, rel, fun a ds e => ?_⟩
  obtain ⟨h1, h2, xs, h3, h4⟩ := s.acc a ds e
  exact ⟨h1, hk.trans h2, xs, st.at_ a _ (s.aF e) h3, dps_mono (st.hide (G := gOf Gc (some a)) (.inl s.gf)) ds _ h4⟩
theorem SOk.go (s : SOk F Gc He k H σ ρ acc) (st : Step F H H') (fd : FeedOk F H') : SOk F Gc He k H' σ ρ acc := s.next st fd (s.rel.mono (st.hide s.gF)) rfl
theorem SOk.set (s : SOk F Gc He k H σ ρ acc) {i : Nat} {v : V} {x : SV} (r : SRel F (hide H (gOf Gc (acc.map (·.1)))) v x) (hk : i ≠ k) : SOk F Gc He k H (σ.set i (some v)) (ρ.set i (some x)) acc :=
  s.next (Step.refl F H) s.feed (s.rel.set r) (by rw [List.getElem?_set_ne hk])
end
/-- the ends that are wanted, by the ends that are told -/
structure Imp (F : Addr) (Gc : Addr → Prop) (He : Hp) (k : Nat) (a0 : Option Addr) (H0 : Hp) (E : DEnds) (N : Ends) : Prop where
  nx : ∀ ρ acc σ H, SOk F Gc He k H σ ρ acc → Adv F a0 H0 (acc.map (·.1)) H → E.nx ρ acc → N.nx σ H
  bk : ∀ ρ acc σ H, SOk F Gc He k H σ ρ acc → Adv F a0 H0 (acc.map (·.1)) H → E.bk ρ acc → N.bk σ H
  ct : ∀ ρ acc σ H, SOk F Gc He k H σ ρ acc → Adv F a0 H0 (acc.map (·.1)) H → E.ct ρ acc → N.ct σ H
  rt : ∀ d v H, Step F He H → FeedOk F H → Dq (hide H Gc) v d → E.rt d → N.rt v H
theorem Imp.adv {F : Addr} {Gc : Addr → Prop} {He : Hp} {k : Nat} {a0 a1 : Option Addr} {H0 H1 : Hp} {E : DEnds} {N : Ends} (x : Imp F Gc He k a0 H0 E N) (y : Adv F a0 H0 a1 H1) (f1 : FeedOk F H1) : Imp F Gc He k a1 H1 E N :=
  ⟨fun ρ acc σ H s z e => x.nx ρ acc σ H s (y.trans z f1) e, fun ρ acc σ H s z e => x.bk ρ acc σ H s (y.trans z f1) e, fun ρ acc σ H s z e => x.ct ρ acc σ H s (y.trans z f1) e, x.rt⟩
def ls (k : Nat) (T : DS) : TS := fun N σ H => ∃ F Gc He ρ acc E, SOk F Gc He k H σ ρ acc ∧ T E ρ acc ∧ Imp F Gc He k (acc.map (·.1)) H E N
def dNx : DS := fun E ρ acc => E.nx ρ acc
def dSq (T U : DS) : DS := fun E ρ acc => T { E with nx := U E } ρ acc
section
variable {X : Cx} {k : Nat} {st : Stmt} {rest : List Stmt} {T U : DS} {pos : Pos}
theorem dss_nil : PSs X [] (ls k dNx) := PSs.weak pss_nil fun N σ H ⟨F, Gc, He, ρ, acc, E, s, t, im⟩ => im.nx _ _ _ _ s (Adv.of (Step.refl F H)) t
theorem dss_cons (h1 : PS X st (ls k T)) (h2 : PSs X rest (ls k U)) : PSs X (st :: rest) (ls k (dSq T U)) := by
  refine PSs.weak (pss_cons h1 h2) fun N σ H ⟨F, Gc, He, ρ, acc, E, s, t, im⟩ => ?_
  exact ⟨F, Gc, He, ρ, acc, { E with nx := U E }, s, t, fun ρ' acc' σ' H' s' a' u => ⟨F, Gc, He, ρ', acc', E, s', u, im.adv a' s'.feed⟩, im.bk, im.ct, im.rt⟩
theorem dss_one (h1 : PS X st (ls k T)) : PSs X [st] (ls k T) := pss_one h1
def dIfS (A : TB) (T U : DS) : DS := fun E ρ acc => A ρ fun b => if b = true then T E ρ acc else U E ρ acc
theorem ds_if {c : Expr} {a b : List Stmt} {A : TB} (hc : PT X c (lt A)) (ha : PSs X a (ls k T)) (hb : PSs X b (ls k U)) : PS X (.If c a b pos) (ls k (dIfS A T U)) := by
  refine PS.weak (ps_if hc ha hb) fun N σ H ⟨F, Gc, He, ρ, acc, E, s, t, im⟩ => ?_
  refine ⟨F, _, ρ, _, s.ok, t, fun b H1 p1 s1 f1 => ?_⟩
  have im1 := im.adv (Adv.of s1) f1
  cases b with
  | true => exact iteT ⟨F, Gc, He, ρ, acc, E, s.go s1 f1, p1, im1⟩
  | false => exact iteF ⟨F, Gc, He, ρ, acc, E, s.go s1 f1, p1, im1⟩
def withAcc (k : Nat) (ρ : SS) : Acc → SS
  | none => ρ
  | some (_, ds) => ρ.set k (some (.d (.list ds)))
/-- return e: the growing list may be read -/
def dRet (k : Nat) (Te : TD) : DS := fun E ρ acc => Te (withAcc k ρ acc) E.rt
theorem ds_ret {e : Expr} {Te : TD} (he : PE X e (lf Te)) : PS X (.Return (some e) pos) (ls k (dRet k Te)) := by
  refine PS.weak (ps_ret he) fun N σ H ⟨F, Gc, He, ρ, acc, E, s, t, im⟩ => ?_
  have sub : ∀ b, Gc b → H b ≠ none := fun b g => s.ok.sub b (by cases acc with | none => exact g | some p => exact .inl g)
  have less : ∀ b, Gc b → gOf Gc (acc.map (·.1)) b := fun b g => by cases acc with | none => exact g | some p => exact .inl g
  refine ⟨F, Gc, withAcc k ρ acc, E.rt, ⟨s.gf, sub, s.feed, ?_⟩, t, fun d v H1 p1 s1 f1 r1 => im.rt d v H1 (s.step.trans s1) f1 r1 p1⟩
  have rel := s.rel.mono (hide_less less)
  cases hacc : acc with
  | none => exact rel
  | some p =>
    obtain ⟨a, ds⟩ := p
    obtain ⟨h1, h2, xs, h3, h4⟩ := s.acc a ds hacc
    have na : ¬ Gc a := fun g => s.sub a g h1
    have q := rel.set (i := k) (v := .ref a) (s := .d (.list ds)) (.lst (hide_of h3 na) (dps_mono (hide_less fun b g => .inl g) ds _ h4))
    have e : σ.set k (some (.ref a)) = σ := by
      refine List.ext_getElem? fun i => ?_
      by_cases hi : k = i
      · subst hi
        have hl : k < σ.length := (List.getElem?_eq_some_iff.mp h2).1
        rw [List.getElem?_set_self hl, h2]
      · rw [List.getElem?_set_ne hi]
    rw [e] at q
    exact q
/-- x = e -/
def dSet (i : Nat) (Te : TD) : DS := fun E ρ acc => Te ρ fun d => E.nx (ρ.set i (some (.d d))) acc
theorem set_lift {i : Nat} {Te : TD} {te : TE} (ht : ∀ σ H Q, lf Te σ H Q → te σ H Q) (hk : i ≠ k) (N : Ends) (σ : Sg) (H : Hp) (h : ls k (dSet i Te) N σ H) : tAsg te (gName i) N σ H := by
  obtain ⟨F, Gc, He, ρ, acc, E, s, t, im⟩ := h
  refine ht _ _ _ ⟨F, _, ρ, _, s.ok, t, fun d v H1 p1 s1 f1 r1 => ?_⟩
  exact im.nx _ _ _ _ ((s.go s1 f1).set (x := .d d) r1 hk) (Adv.of s1) p1
theorem ds_set (i : Nat) {x : Str} {e : Expr} {Te : TD} {pos' : Pos} (hN : X.N.Nodup) (he : PE X e (lf Te)) (hk : i ≠ k := by decide) (hi : X.N[i]? = some x := by rfl) (hx : Loc X.env.scope x := by first | exact Or.inl rfl | exact Or.inr rfl) (hs : swapsWith e (some (.Name x pos')) pos.line X.env = pure false := by rfl)
    (hf : X.fn x = true ∨ X.env.scope.names.lookup x = some .local := by first | exact .inl rfl | exact .inr rfl) : PS X (.Assign [.Name x pos'] e pos) (ls k (dSet i Te)) :=
  PS.weak (ps_set hN hi hx he hs hf) (set_lift (fun _ _ _ q => q) hk)
theorem ds_setLc (i : Nat) {y : Str} {py spos : Pos} {elt tg iter : Expr} {ifs : List Expr} {scope : Scope} {own : List (Str × Nat)} {Ti : TIt} {Tg : GD} {Tt : TB} {Te : TD} {ws : List Nat} (hN : X.N.Nodup) (hi : PI X tg iter (li Ti)) (ok : BlkOk X.N X.env.scope scope own)
    (hg : ∀ (s : Shared) (H : Hp) (C : Addr) (cl : List (Str × Addr)) (fp : List Addr), PG (X.blk s H scope (compEnvC scope cl C X.env) fp) tg (lg ws Tg)) (ht : ∀ (s : Shared) (H : Hp) (C : Addr) (cl : List (Str × Addr)) (fp : List Addr), PTs (X.blk s H scope (compEnvC scope cl C X.env) fp) ifs (lt Tt))
    (he : ∀ (s : Shared) (H : Hp) (C : Addr) (cl : List (Str × Addr)) (fp : List Addr), PE (X.blk s H scope (compEnvC scope cl C X.env) fp) elt (lf Te)) (hsw : swapsWith (.ListComp elt [⟨tg, iter, ifs, 0⟩] scope pos) (some (.Name y py)) spos.line X.env = pure true := by exact sw_true rfl rfl rfl (by decide +kernel))
    (hk : i ≠ k := by decide) (hw : ∀ i ∈ ws, i ∈ own.map (·.2) := by decide) (hc : X.calm = true := by rfl) (hy : X.N[i]? = some y := by rfl) (hyl : X.env.scope.names.lookup y = some .local := by rfl) (hs : ∀ x, foldedSetIterable iter X.env x = pure x := by intro _; rfl) :
    PS X (.Assign [.Name y py] (.ListComp elt [⟨tg, iter, ifs, 0⟩] scope pos) spos) (ls k (dSet i (dLc Ti Tg Tt Te (own.map (·.2))))) :=
  PS.weak (ps_setLc hc hN hy hyl hsw hi ok hg ht he hs) (set_lift (fun σ H Q h => lc_lift (fun _ _ _ q => q) hw σ H Q h) hk)
theorem ds_setLc2 (i : Nat) {y : Str} {py spos : Pos} {elt tg iter tg1 iter1 : Expr} {ifs ifs1 : List Expr} {scope : Scope} {own : List (Str × Nat)} {vs1 : List Nat} {Ti Ti1 : TIt} {Tg Tg1 : GD} {Tt Tt1 : TB} {Te : TD} {ws ws1 : List Nat} (hN : X.N.Nodup) (hi : PI X tg iter (li Ti)) (ok : BlkOk X.N X.env.scope scope own) (hv : ∀ i ∈ vs1, i ∈ own.map (·.2))
    (hg : ∀ (s : Shared) (H : Hp) (C : Addr) (cl : List (Str × Addr)) (fp : List Addr), PG (X.blk s H scope (compEnvC scope cl C X.env) fp) tg (lg ws Tg)) (ht : ∀ (s : Shared) (H : Hp) (C : Addr) (cl : List (Str × Addr)) (fp : List Addr), PTs (X.blk s H scope (compEnvC scope cl C X.env) fp) ifs (lt Tt))
    (hi1 : ∀ (s : Shared) (H : Hp) (C : Addr) (cl : List (Str × Addr)) (fp : List Addr), PI (X.blk s H scope (compEnvC scope cl C X.env) fp) tg1 iter1 (li Ti1))
    (hg1 : ∀ (s : Shared) (H : Hp) (C : Addr) (cl : List (Str × Addr)) (fp : List Addr), PG (X.blk s H scope (compEnvC scope cl C X.env) fp) tg1 (lg ws1 Tg1)) (ht1 : ∀ (s : Shared) (H : Hp) (C : Addr) (cl : List (Str × Addr)) (fp : List Addr), PTs (X.blk s H scope (compEnvC scope cl C X.env) fp) ifs1 (lt Tt1))
    (he : ∀ (s : Shared) (H : Hp) (C : Addr) (cl : List (Str × Addr)) (fp : List Addr), PE (X.blk s H scope (compEnvC scope cl C X.env) fp) elt (lf Te)) (hsw : swapsWith (.ListComp elt [⟨tg, iter, ifs, 0⟩, ⟨tg1, iter1, ifs1, 0⟩] scope pos) (some (.Name y py)) spos.line X.env = pure true := by exact sw_true rfl rfl rfl (by decide +kernel))
    (hk : i ≠ k := by decide) (hw : ∀ i ∈ ws, i ∈ own.map (·.2) := by decide) (hw1 : ∀ i ∈ ws1, i ∈ vs1 := by decide) (hc : X.calm = true := by rfl) (hy : X.N[i]? = some y := by rfl) (hyl : X.env.scope.names.lookup y = some .local := by rfl) (hs : ∀ x, foldedSetIterable iter X.env x = pure x := by intro _; rfl) (hs1 : ∀ env x, foldedSetIterable iter1 env x = pure x := by intro _ _; rfl) :
    PS X (.Assign [.Name y py] (.ListComp elt [⟨tg, iter, ifs, 0⟩, ⟨tg1, iter1, ifs1, 0⟩] scope pos) spos) (ls k (dSet i (dLc2 Ti Tg Tt Ti1 Tg1 Tt1 Te (own.map (·.2)) vs1))) :=
  PS.weak (ps_setLc2 hc hN hy hyl hsw hi ok hv hg ht hi1 hg1 ht1 he hs hs1) (set_lift (fun σ H Q h => lc2_lift hw hw1 σ H Q h) hk)
end
end Ao
set_option Elab.async false
set_option autoImplicit false
set_option linter.all false
set_option maxRecDepth 100000
set_option maxHeartbeats 1000000
namespace Ao
open PySem PySem.Spec PyProof.Rows L2
section
variable {F : Addr} {Gc : Addr → Prop} {He : Hp} {k : Nat} {H : Hp} {σ : Sg} {ρ : SS}
/-- the growing list begins -/
theorem SOk.new (s : SOk F Gc He k H σ ρ none) {p : Addr} (np : H p = none) (hk : k < ρ.length) : SOk F Gc He k (upd H p (.lst [])) (σ.set k (some (.ref p))) (ρ.set k none) (some (p, [])) ∧ Adv F none H (some p) (upd H p (.lst [])) := by
  have st : Step F H (upd H p (.lst [])) := Step.of (same_new np)
  have he : He p = none := by
    cases q : He p with
    | none => rfl
    | some o =>
      have nF : p ≠ F := fun w => by
        obtain ⟨_, _, _, _, _, r, _⟩ := s.feed
        rw [w, r] at np; cases np
      rw [s.step.at_ p o nF q] at np; cases np
  refine ⟨⟨s.gf, s.sub, s.fe, s.step.trans st, feed_same (same_new np) s.feed, ?_, fun a ds e => ?_⟩, ⟨fun b o _ _ q => same_new np b o q, .inr ⟨rfl, p, rfl, np⟩⟩⟩
  · refine RelS.unset (RelS.mono ?_ s.rel)
    intro b o q
    obtain ⟨q1, q2⟩ := hide_get q
    refine hide_of (same_new np b o q1) fun g => ?_
    rcases g with g | g
    · exact q2 g
    · rw [g, np] at q1; cases q1
  · cases e
    exact ⟨he, by rw [List.getElem?_set_self (by rw [s.rel.len]; exact hk)], [], upd_same, .nil⟩
/-- the growing list has grown -/
theorem SOk.grow {a : Addr} {ds : List D} (s : SOk F Gc He k H σ ρ (some (a, ds))) {xs : List V} {es : List D} (hx : DqAll (hide H (gOf Gc (some a))) xs es) {ys : List V} (hy : H a = some (.lst ys)) :
    SOk F Gc He k (upd H a (.lst xs)) σ ρ (some (a, es)) ∧ Adv F (some a) H (some a) (upd H a (.lst xs)) := by
  obtain ⟨h1, h2, zs, h3, h4⟩ := s.acc a ds rfl
  obtain ⟨nF, fd⟩ := feed_cells s.fe s.step s.feed h1
  have up : Same (hide H (gOf Gc (some a))) (hide (upd H a (.lst xs)) (gOf Gc (some a))) := fun b o q => by
    obtain ⟨q1, q2⟩ := hide_get q
    refine hide_of ?_ q2
    rw [upd_ne fun z => q2 (.inr z)]
    exact q1
  refine ⟨⟨s.gf, s.sub, s.fe, ⟨fun b o n q => ?_, fun C sp re co q => ?_⟩, fd _, s.rel.mono up, fun a' ds' e => ?_⟩, ⟨fun b o n n2 q => ?_, .inl rfl⟩⟩
  · rw [upd_ne fun z => by rw [z, h1] at q; cases q]
    exact s.step.at_ b o n q
  · rw [upd_ne nF.symm]
    exact s.step.cell C sp re co q
  · cases e
    exact ⟨h1, h2, xs, upd_same, dps_mono up es _ hx⟩
  · rw [upd_ne fun z => n2 (by rw [z])]
    exact q
end
section
variable {X : Cx} {k : Nat} {T : DS} {pos : Pos}
/-- found = [] -/
def dNew (k : Nat) : DS := fun E ρ acc => acc = none ∧ k < ρ.length ∧ ∀ a, E.nx (ρ.set k none) (some (a, []))
theorem ds_new {x : Str} {p1 p2 : Pos} (hN : X.N.Nodup) (hi : X.N[k]? = some x := by rfl) (hx : Loc X.env.scope x := by first | exact Or.inl rfl | exact Or.inr rfl) (hs : swapsWith (.List [] p1) (some (.Name x p2)) pos.line X.env = pure false := by rfl)
    (hf : X.fn x = true ∨ X.env.scope.names.lookup x = some .local := by first | exact .inl rfl | exact .inr rfl) : PS X (.Assign [.Name x p2] (.List [] p1) pos) (ls k (dNew k)) := by
  refine PS.weak (ps_set hN hi hx (pe_lst pa_nil) hs hf) fun N σ H ⟨F, Gc, He, ρ, acc, E, s, ⟨e, hk, t⟩, im⟩ => ?_
  subst e
  refine ⟨Nat.zero_le _, fun p np => ?_⟩
  obtain ⟨s1, a1⟩ := s.new np hk
  exact im.nx _ _ _ _ s1 a1 (t p)
/-- an expression alone -/
def dDo (Te : TD) : DS := fun E ρ acc => Te ρ fun _ => E.nx ρ acc
theorem ds_do {e : Expr} {Te : TD} (he : PE X e (lf Te)) (hs : swapsWith e none pos.line X.env = pure false := by rfl) : PS X (.Expr e pos) (ls k (dDo Te)) := by
  refine PS.weak (ps_expr he hs) fun N σ H ⟨F, Gc, He, ρ, acc, E, s, t, im⟩ => ?_
  exact ⟨F, _, ρ, _, s.ok, t, fun d v H1 p1 s1 f1 r1 => im.nx _ _ _ _ (s.go s1 f1) (Adv.of s1) p1⟩
def dNo : DS := fun _ _ _ => False
theorem ds_no {st : Stmt} : PS X st (ls k dNo) := PS.weak ps_never fun N σ H ⟨F, Gc, He, ρ, acc, E, s, t, im⟩ => t.elim
theorem dss_no {st : List Stmt} : PSs X st (ls k dNo) := PSs.weak pss_never fun N σ H ⟨F, Gc, He, ρ, acc, E, s, t, im⟩ => t.elim
/-- found.append(e), found.extend(e) -/
def dApp (Te : TD) : DS := fun E ρ acc => ∃ a ds, acc = some (a, ds) ∧ ds.length < 100000 ∧ Te ρ fun d => E.nx ρ (some (a, ds ++ [d]))
theorem ds_app {x : Str} {e : Expr} {Te : TD} {p1 p2 p3 : Pos}
    (hm : PE X (.Call (.Attribute (.Name x p1) "append" p2) [e] [] p3) (tBM X.K "list" rAppend (tVar k) (tCons (lf Te) tNil))) (hs : swapsWith (.Call (.Attribute (.Name x p1) "append" p2) [e] [] p3) none pos.line X.env = pure false := by rfl) :
    PS X (.Expr (.Call (.Attribute (.Name x p1) "append" p2) [e] [] p3) pos) (ls k (dApp Te)) := by
  refine PS.weak (ps_expr hm hs) fun N σ H ⟨F, Gc, He, ρ, acc, E, s, ⟨a, ds, ea, hz, t⟩, im⟩ => ?_
  subst ea
  obtain ⟨h1, h2, xs, h3, h4⟩ := s.acc a ds rfl
  refine ⟨.ref a, h2, .inl ⟨rfl, _, .inl (.inl h3)⟩, F, _, ρ, _, s.ok, t, fun d v H1 p1 s1 f1 r1 => ?_⟩
  have s2 := s.go s1 f1
  obtain ⟨_, _, ys, e3, e4⟩ := s2.acc a ds rfl
  have exy : xs = ys := by
    have := s1.at_ a _ (s.aF rfl) h3
    rw [e3] at this
    injection this with this
    injection this with this
    exact this.symm
  subst exy
  obtain ⟨s3, a3⟩ := s2.grow (dps_app e4 (.cons r1 .nil)) e3
  exact ⟨a, xs, v, rfl, rfl, e3, Nat.lt_of_lt_of_le (by rw [dps_len e4]; exact hz) (line_ok (Nat.le_refl _)), im.nx _ _ _ _ s3 ((Adv.of s1).trans a3 f1) p1⟩
def dExt (Te : TD) : DS := fun E ρ acc => ∃ a ds, acc = some (a, ds) ∧ Te ρ fun d => ∃ es, d = .list es ∧ ds.length + es.length ≤ 100000 ∧ E.nx ρ (some (a, ds ++ es))
theorem ds_ext {x : Str} {e : Expr} {Te : TD} {p1 p2 p3 : Pos}
    (hm : PE X (.Call (.Attribute (.Name x p1) "extend" p2) [e] [] p3) (tBM X.K "list" rExtend (tVar k) (tCons (lf Te) tNil))) (hs : swapsWith (.Call (.Attribute (.Name x p1) "extend" p2) [e] [] p3) none pos.line X.env = pure false := by rfl) :
    PS X (.Expr (.Call (.Attribute (.Name x p1) "extend" p2) [e] [] p3) pos) (ls k (dExt Te)) := by
  refine PS.weak (ps_expr hm hs) fun N σ H ⟨F, Gc, He, ρ, acc, E, s, ⟨a, ds, ea, t⟩, im⟩ => ?_
  subst ea
  obtain ⟨h1, h2, xs, h3, h4⟩ := s.acc a ds rfl
  refine ⟨.ref a, h2, .inl ⟨rfl, _, .inl (.inl h3)⟩, F, _, ρ, _, s.ok, t, fun d v H1 ⟨es, ed, hz, p1⟩ s1 f1 r1 => ?_⟩
  subst ed
  have s2 := s.go s1 f1
  obtain ⟨_, _, ys, e3, e4⟩ := s2.acc a ds rfl
  have exy : xs = ys := by
    have := s1.at_ a _ (s.aF rfl) h3
    rw [e3] at this
    injection this with this
    injection this with this
    exact this.symm
  subst exy
  cases r1 with
  | @lst b zs _ q1 q2 =>
    obtain ⟨s3, a3⟩ := s2.grow (dps_app e4 q2) e3
    exact ⟨a, b, xs, zs, rfl, rfl, e3, (hide_get q1).1, line_ok (by rw [dps_len e4, dps_len q2]; exact hz), im.nx _ _ _ _ s3 ((Adv.of s1).trans a3 f1) p1⟩
/-- targets = e -/
def dAsg (Te : TD) (Tg : GD) : DS := fun E ρ acc => Te ρ fun d => Tg d ρ fun ρ' => E.nx ρ' acc
theorem ds_asg {tg e : Expr} {Te : TD} {Tg : GD} {ws : List Nat} (he : PE X e (lf Te)) (hg : PG X tg (lg ws Tg)) (hk : k ∉ ws := by decide) (hs : swapsWithSole [tg] e pos.line X.env = pure false := by rfl) (hw : swappedStores [tg] e X.env = pure none := by rfl)
    (h1 : (assignEach [tg] X.env).map (·.2) = [assign tg X.env] := by rfl) : PS X (.Assign [tg] e pos) (ls k (dAsg Te Tg)) := by
  refine PS.weak (ps_asg he hg hs hw h1) fun N σ H ⟨F, Gc, He, ρ, acc, E, s, t, im⟩ => ?_
  refine ⟨F, _, ρ, _, s.ok, t, fun d v H1 p1 s1 f1 r1 => ?_⟩
  have s2 := s.go s1 f1
  exact ⟨F, _, ρ, d, _, s2.ok, r1, p1, fun ρ' σ' p2 kp rel => im.nx _ _ _ _ (s2.next (Step.refl F H1) f1 rel (kp.2 k hk)) (Adv.of s1) p2⟩
/-! ### values of any kind in displays -/
def lv (T : TL) : TE := fun σ H Q => ∃ F G ρ P, Ok F G H σ ρ ∧ T ρ P ∧ ∀ s v H', P [s] → Step F H H' → FeedOk F H' → SRel F (hide H' G) v s → Q v H'
def aConsV (T : TL) (U : TL) : TL := fun ρ P => T ρ fun s => U ρ fun ss => ∃ x, s = [x] ∧ P (x :: ss)
theorem da_consV {e : Expr} {es : List Expr} {T : TL} {U : TL} (he : PE X e (lv T)) (hr : PA X es (la U)) (hs : starEach (e :: es) X.env = (false, eval e X.env) :: starEach es X.env := by rfl) : PA X (e :: es) (la (aConsV T U)) := by
  refine PA.weak (pa_cons he hr hs) fun σ H Q ⟨F, G, ρ, P, k, p, fo⟩ => ?_
  refine ⟨F, G, ρ, _, k, p, fun s v H1 p1 st1 fd1 r1 => ?_⟩
  refine ⟨F, G, ρ, _, k.step st1 fd1, p1, fun ss vs H2 ⟨x, ex, p2⟩ st2 fd2 r2 => ?_⟩
  cases ex
  exact fo _ _ H2 p2 (st1.trans st2) fd2 (.cons (r1.mono (st2.hide k.gf)) r2)
/-- dict([(k, v), ..]), the keys texts, no key twice -/
def vDict (T : TD) : TL := fun ρ P => T ρ fun d => ∃ kvs : List (Str × D), d = .list (kvs.map fun p => .tuple [.str p.1, p.2]) ∧ (kvs.map (·.1)).Nodup ∧ P [.dct kvs]
theorem merge_new : ∀ (qs ps : List (Key × V)), ((ps ++ qs).map (·.1)).Nodup → mergeK ps qs = ps ++ qs
  | [], ps, _ => by simp [mergeK]
  | (k0, v0) :: qs, ps, h => by
    have hn : k0 ∉ ps.map (·.1) := fun hm => by
      rw [List.map_append, List.nodup_append] at h
      exact h.2.2 k0 hm k0 (by simp) rfl
    have e : putK ps k0 v0 = ps ++ [(k0, v0)] := by
      unfold putK
      rw [if_neg]
      intro ha
      obtain ⟨p, hp, e⟩ := List.any_eq_true.mp ha
      exact hn (List.mem_map.mpr ⟨p, hp, of_decide_eq_true e⟩)
    show mergeK (putK ps k0 v0) qs = _
    rw [e, merge_new qs (ps ++ [(k0, v0)]) (by simpa using h)]
    simp
theorem pairs_dct {Hh : Hp} : ∀ {vs : List V} {kvs : List (Str × D)}, DqAll Hh vs (kvs.map fun p => .tuple [.str p.1, p.2]) → ∃ (as : List Addr) (ps : List (Key × V)), vs = as.map V.ref ∧ Paired (fun p kv => Hh p = some (.tup [kV kv.1, kv.2])) as ps ∧ Paired (fun (p : Key × V) (q : Str × D) => p.1 = .inr q.1 ∧ Dq Hh p.2 q.2) ps kvs ∧ ps.map (·.1) = kvs.map fun p => .inr p.1
  | _, [], h => by cases h; exact ⟨[], [], rfl, .nil, .nil, rfl⟩
  | _, (k0, d0) :: kvs, h => by
    cases h with
    | cons h1 h2 =>
      obtain ⟨as, ps, e, p1, p2, e2⟩ := pairs_dct h2
      cases h1 with
      | tup t1 t2 =>
        cases t2 with
        | cons u1 u2 =>
          cases u2 with
          | cons u3 u4 =>
            cases u4
            cases u1
            exact ⟨_ :: as, (.inr k0, _) :: ps, by rw [List.map_cons, ← e], .cons t1 p1, .cons ⟨rfl, u3⟩ p2, by simp [e2]⟩
theorem nodup_inr {ks : List Str} (h : ks.Nodup) : (ks.map (Sum.inr : Str → Key)).Nodup := List.pairwise_map.mpr (h.imp fun hn e => hn (Sum.inr.inj e))
theorem de_dict {e : Expr} {T : TD} {p pos : Pos} (hg : Gl X "dict") (hm : X.mg "dict" = none) (ha : PE X e (lf T)) (hc : X.calm = true := by rfl) (hs : starEach [e] X.env = (false, eval e X.env) :: starEach [] X.env := by rfl) (hpl : (backTo pos (starEach [] X.env)).any (·.1) = false := by rfl) :
    PE X (.Call (.Name "dict" p) [e] [] pos) (lv (vDict T)) := by
  refine PE.weak (pe_callTy (call_dictP hc) hg hm (by decide +kernel) (pa_cons ha pa_nil hs) (by decide) (by decide) hs hpl) fun σ H Q ⟨F, G, ρ, P, k, p, fo⟩ => ?_
  refine ⟨F, G, ρ, _, k, p, fun d v H1 ⟨kvs, ed, nd, p1⟩ st fd r => ?_⟩
  subst ed
  cases r with
  | lst h1 h2 =>
    obtain ⟨as, ps, ev, q1, q2, q3⟩ := pairs_dct h2
    subst ev
    refine ⟨_, as, ps, rfl, .inl (.inl (hide_get h1).1), Paired.mapP q1 fun a b z => .inl (.inl (hide_get z).1), fun q nq => ?_⟩
    have e : mergeK [] ps = ps := by
      rw [merge_new ps [] (by rw [List.nil_append, q3]; have := nodup_inr nd; rwa [List.map_map] at this)]
      rfl
    rw [e]
    have ng := (k.step st fd).fresh nq
    refine fo _ _ _ p1 (st.trans (Step.of (same_new nq))) (feed_same (same_new nq) fd) ⟨q, ps, rfl, hide_of upd_same ng, Paired.mapP q2 fun a b z => ⟨z.1, dp_mono ((Step.of (same_new nq)).hide k.gf) _ _ z.2⟩⟩
/-! ### a, b = e1, e2 -/
def dPr (i j : Nat) (U : TL) : DS := fun E ρ acc => U ρ fun ss => ∃ s1 s2, ss = [s1, s2] ∧ E.nx ((ρ.set i (some s1)).set j (some s2)) acc
theorem set2_k {i j k : Nat} {σ : Sg} {v w : V} (hi : i ≠ k) (hj : j ≠ k) : ((σ.set i (some v)).set j (some w))[k]? = σ[k]? := by
  rw [List.getElem?_set_ne hj, List.getElem?_set_ne hi]
/-- both names plain locals -/
theorem ds_par (i j : Nat) {x y : Str} {a b : Expr} {U : TL} {px py pt pt2 : Pos} {kt k2 : Nat} (hN : X.N.Nodup) (ha : PA X [a, b] (la U)) (hw : swappedStores [.Tuple [.Name x px, .Name y py] kt pt] (.Tuple [a, b] k2 pt2) X.env = pure (some [x, y]) := by rfl)
    (hik : i ≠ k := by decide) (hjk : j ≠ k := by decide) (hij : i ≠ j := by decide) (hi : X.N[i]? = some x := by rfl) (hj : X.N[j]? = some y := by rfl) (hx : X.env.scope.names.lookup x = some .local := by rfl) (hy : X.env.scope.names.lookup y = some .local := by rfl) (hc : X.calm = true := by rfl)
    (hs : swapsWithSole [.Tuple [.Name x px, .Name y py] kt pt] (.Tuple [a, b] k2 pt2) pos.line X.env = pure false := by rfl) : PS X (.Assign [.Tuple [.Name x px, .Name y py] kt pt] (.Tuple [a, b] k2 pt2) pos) (ls k (dPr i j U)) := by
  refine PS.weak (ps_par hc hN hi hj hij hx hy ha hw hs) fun N σ H ⟨F, Gc, He, ρ, acc, E, s, t, im⟩ => ?_
  refine ⟨F, _, ρ, _, s.ok, t, fun ss vs H1 ⟨s1, s2, e, p1⟩ st f1 r1 => ?_⟩
  subst e
  cases r1 with
  | cons r1 r2 =>
    cases r2 with
    | cons r2 r3 =>
      cases r3
      have sg := s.go st f1
      exact ⟨_, _, rfl, im.nx _ _ _ _ (sg.next (Step.refl F H1) f1 ((sg.rel.set r1).set r2) (set2_k hik hjk)) (Adv.of st) p1⟩
/-- a tuple is made and taken apart -/
theorem ds_pr (i j : Nat) {x y : Str} {a b : Expr} {U : TL} {px py pt pt2 : Pos} {kt k2 : Nat} (hN : X.N.Nodup) (ha : PA X [a, b] (la U)) (hw : swappedStores [.Tuple [.Name x px, .Name y py] kt pt] (.Tuple [a, b] k2 pt2) X.env = pure none := by rfl)
    (hik : i ≠ k := by decide) (hjk : j ≠ k := by decide) (hi : X.N[i]? = some x := by rfl) (hj : X.N[j]? = some y := by rfl) (hx : Loc X.env.scope x := by first | exact Or.inl rfl | exact Or.inr rfl) (hy : Loc X.env.scope y := by first | exact Or.inl rfl | exact Or.inr rfl) (hc : X.calm = true := by rfl)
    (hfx : X.fn x = true ∨ X.env.scope.names.lookup x = some .local := by first | exact .inl rfl | exact .inr rfl) (hfy : X.fn y = true ∨ X.env.scope.names.lookup y = some .local := by first | exact .inl rfl | exact .inr rfl)
    (hs : swapsWithSole [.Tuple [.Name x px, .Name y py] kt pt] (.Tuple [a, b] k2 pt2) pos.line X.env = pure false := by rfl) (h1 : (assignEach [.Tuple [.Name x px, .Name y py] kt pt] X.env).map (·.2) = [assign (.Tuple [.Name x px, .Name y py] kt pt) X.env] := by rfl) :
    PS X (.Assign [.Tuple [.Name x px, .Name y py] kt pt] (.Tuple [a, b] k2 pt2) pos) (ls k (dPr i j U)) := by
  refine PS.weak (ps_asg (pe_tup ha) (pg_tup hc (pgs_cons (pg_name hN hi hx hfx) (pgs_cons (pg_name hN hj hy hfy) pgs_nil))) hs hw h1) fun N σ H ⟨F, Gc, He, ρ, acc, E, s, t, im⟩ => ?_
  refine ⟨F, _, ρ, _, s.ok, t, fun ss vs H1 ⟨s1, s2, e, p1⟩ st f1 r1 => ?_⟩
  subst e
  cases r1 with
  | cons r1 r2 =>
    cases r2 with
    | cons r2 r3 =>
      cases r3
      refine ⟨by show 2 ≤ sizeLine; decide, fun q nq => ?_⟩
      rename_i v1 v2
      have sq : Same H1 (upd H1 q (.tup [v1, v2])) := same_new nq
      have st2 := st.trans (Step.of (F := F) sq)
      have f2 := feed_same sq f1
      have sg2 := s.go st2 f2
      have sm := (Step.of (F := F) sq).hide s.gF
      exact ⟨q, _, rfl, .inl (.inl upd_same), rfl, _, _, rfl, _, _, rfl, rfl, im.nx _ _ _ _ (sg2.next (Step.refl F _) f2 ((sg2.rel.set (r1.mono sm)).set (r2.mono sm)) (set2_k hik hjk)) (Adv.of st2) p1⟩
def dPrN (k i : Nat) (U : TL) : DS := fun E ρ acc => acc = none ∧ k < ρ.length ∧ U ρ fun ss => ∃ s1, ss = [s1] ∧ ∀ a, E.nx ((ρ.set i (some s1)).set k none) (some (a, []))
/-- a, found = e, [] -/
theorem ds_prN (i : Nat) {x y : Str} {a : Expr} {U : TL} {px py pt pt2 p0 : Pos} {kt k2 : Nat} (hN : X.N.Nodup) (ha : PE X a (lv U)) (hw : swappedStores [.Tuple [.Name x px, .Name y py] kt pt] (.Tuple [a, .List [] p0] k2 pt2) X.env = pure none := by rfl)
    (hik : i ≠ k := by decide) (hi : X.N[i]? = some x := by rfl) (hj : X.N[k]? = some y := by rfl) (hx : Loc X.env.scope x := by first | exact Or.inl rfl | exact Or.inr rfl) (hy : Loc X.env.scope y := by first | exact Or.inl rfl | exact Or.inr rfl) (hc : X.calm = true := by rfl)
    (hfx : X.fn x = true ∨ X.env.scope.names.lookup x = some .local := by first | exact .inl rfl | exact .inr rfl) (hfy : X.fn y = true ∨ X.env.scope.names.lookup y = some .local := by first | exact .inl rfl | exact .inr rfl)
    (hs : swapsWithSole [.Tuple [.Name x px, .Name y py] kt pt] (.Tuple [a, .List [] p0] k2 pt2) pos.line X.env = pure false := by rfl) (h1 : (assignEach [.Tuple [.Name x px, .Name y py] kt pt] X.env).map (·.2) = [assign (.Tuple [.Name x px, .Name y py] kt pt) X.env] := by rfl)
    (hs2 : starEach [a, .List [] p0] X.env = (false, eval a X.env) :: starEach [.List [] p0] X.env := by rfl) :
    PS X (.Assign [.Tuple [.Name x px, .Name y py] kt pt] (.Tuple [a, .List [] p0] k2 pt2) pos) (ls k (dPrN k i U)) := by
  refine PS.weak (ps_asg (pe_tup (pa_cons ha (pa_cons (pe_lst pa_nil) pa_nil) hs2)) (pg_tup hc (pgs_cons (pg_name hN hi hx hfx) (pgs_cons (pg_name hN hj hy hfy) pgs_nil))) hs hw h1) fun N σ H ⟨F, Gc, He, ρ, acc, E, s, ⟨ea, hk, t⟩, im⟩ => ?_
  subst ea
  refine ⟨F, _, ρ, _, s.ok, t, fun s1 v H1 ⟨s1', e, p1⟩ st f1 r1 => ?_⟩
  cases e
  refine ⟨Nat.zero_le _, fun q nq => ⟨by show 2 ≤ sizeLine; decide, fun w nw => ?_⟩⟩
  have sg := (s.go st f1).set (x := s1) r1 hik
  obtain ⟨s2, a2⟩ := sg.new nq (by rw [List.length_set]; exact hk)
  have sw : Same (upd H1 q (.lst [])) (upd (upd H1 q (.lst [])) w (.tup [v, .ref q])) := same_new nw
  have f3 := feed_same sw s2.feed
  exact ⟨w, _, rfl, .inl (.inl upd_same), rfl, _, _, rfl, _, _, rfl, rfl, im.nx _ _ _ _ (s2.go (Step.of sw) f3) (((Adv.of st).trans a2 f1).trans (Adv.of (Step.of sw)) s2.feed) (p1 q)⟩
/-- plain data as any value -/
def vD (T : TD) : TL := fun ρ P => T ρ fun d => P [.d d]
theorem de_v {e : Expr} {T : TD} (h : PE X e (lf T)) : PE X e (lv (vD T)) := PE.weak h fun σ H Q ⟨F, G, ρ, P, k, p, fo⟩ => ⟨F, G, ρ, _, k, p, fun d v H1 p1 st fd r => fo (.d d) v H1 p1 st fd r⟩
/-! ### for -/
def forW (Tg : GD) (Tb : DS) (E : DEnds) (a0 : Option Addr) : List D → SS → Acc → Prop
  | [], ρ, acc => E.nx ρ acc
  | d :: r, ρ, acc => Tg d ρ fun ρ' => Tb { nx := fun ρ2 acc2 => acc2.map (·.1) = a0 ∧ forW Tg Tb E a0 r ρ2 acc2, rt := E.rt, bk := E.nx, ct := fun ρ2 acc2 => acc2.map (·.1) = a0 ∧ forW Tg Tb E a0 r ρ2 acc2 } ρ' acc
def dFor (Ti : TIt) (Tg : GD) (Tb : DS) : DS := fun E ρ acc => Ti ρ fun ds => forW Tg Tb E (acc.map (·.1)) ds ρ acc
theorem ds_for {tg iter : Expr} {body : List Stmt} {Ti : TIt} {Tg : GD} {Tb : DS} {ws : List Nat} (hx : X.xe = fun _ _ => False) (hi : PI X tg iter (li Ti)) (hg : PG X tg (lg ws Tg)) (hb : PSs X body (ls k Tb)) (hk : k ∉ ws := by decide) (hc : X.calm = true := by rfl)
    (hs : ∀ x, foldedSetIterable iter X.env x = pure x := by intro _; rfl) : PS X (.For tg iter body [] pos) (ls k (dFor Ti Tg Tb)) := by
  refine PS.weak (ps_for (by rw [hx]; exact PassesOwn.never) hc hi hg hb hs) fun N σ H ⟨F, Gc, He, ρ, acc, E, s, t, im⟩ => ?_
  refine ⟨F, _, ρ, _, s.ok, t, fun items J H1 hfor st fd dw => ?_⟩
  obtain ⟨Gp, g0, gk, wk⟩ := dw.ex (gOf Gc (acc.map (·.1))) (fun _ g => g) fun b g n => absurd g n
  refine for_it wk (Pv := fun i σ' H' => ∃ ρ' acc', SOk F Gc He k H' σ' ρ' acc' ∧ Gp H' ∧ acc'.map (·.1) = acc.map (·.1) ∧ Adv F (acc.map (·.1)) H (acc.map (·.1)) H' ∧ forW Tg Tb E (acc.map (·.1)) (items.drop i) ρ' acc')
    ⟨ρ, acc, s.go st fd, g0, rfl, Adv.of st, hfor⟩ (fun i σ' H' hi ⟨ρ', acc', s', g', e', a', w'⟩ => ⟨g', fun b gb => s'.ok.sub b (by rw [e']; exact gb)⟩) (fun i x σ' H' H2 hi ⟨ρ', acc', s', g', e', a', w'⟩ ⟨sm, d, ed, rd⟩ => ?_) (fun σ' H' ⟨ρ', acc', s', g', e', a', w'⟩ => ?_)
  · rw [List.drop_eq_getElem_cons hi] at w'
    have ei : items[i] = d := by
      rw [List.getElem?_eq_getElem hi] at ed
      exact Option.some.inj ed
    rw [ei] at w'
    have f2 := feed_same sm s'.feed
    have s2 := s'.go (Step.of sm) f2
    have sm2 : Same (hide H' (gOf Gc (acc.map (·.1)))) (hide H2 (gOf Gc (acc.map (·.1)))) := (Step.of (F := F) sm).hide s.gF
    have g2 := gk _ _ g' sm2
    have a2 := a'.trans (Adv.of (Step.of sm)) s'.feed
    have rd' : Dq (hide H2 (gOf Gc (acc'.map (·.1)))) x d := by rw [e']; exact rd
    refine ⟨F, _, ρ', d, _, s2.ok, rd', w', fun ρ3 σ3 p3 kp rel3 => ?_⟩
    have s3 := s2.next (Step.refl F H2) f2 rel3 (kp.2 k hk)
    have go : ∀ ρ4 acc4 σ4 H4, SOk F Gc He k H4 σ4 ρ4 acc4 → Adv F (acc'.map (·.1)) H2 (acc4.map (·.1)) H4 → (acc4.map (·.1) = acc.map (·.1) ∧ forW Tg Tb E (acc.map (·.1)) (items.drop (i + 1)) ρ4 acc4) →
        ∃ ρ' acc', SOk F Gc He k H4 σ4 ρ' acc' ∧ Gp H4 ∧ acc'.map (·.1) = acc.map (·.1) ∧ Adv F (acc.map (·.1)) H (acc.map (·.1)) H4 ∧ forW Tg Tb E (acc.map (·.1)) (items.drop (i + 1)) ρ' acc' := fun ρ4 acc4 σ4 H4 s4 a4 ⟨e4, w4⟩ => by
      rw [e'] at a4
      have a5 := a2.trans a4 f2
      rw [e4] at a5
      refine ⟨ρ4, acc4, s4, gk _ _ g2 (fun b o q => ?_), e4, a5, w4⟩
      obtain ⟨q1, q2⟩ := hide_get q
      refine hide_of (a4.at_ b o (fun z => q2 (by rw [z]; exact s.gF)) (fun z => q2 ?_) q1) q2
      cases hacc : acc.map (·.1) with
      | none => rw [hacc] at z; cases z
      | some a => rw [hacc] at z; cases z; exact .inr rfl
    exact ⟨F, Gc, He, ρ3, acc', _, s3, p3, ⟨go, fun ρ4 acc4 σ4 H4 s4 a4 e4 => im.nx _ _ _ _ s4 (by rw [e'] at a4; exact a2.trans a4 f2) e4, go, im.rt⟩⟩
  · rw [List.drop_length] at w'
    exact im.nx _ _ _ _ s' (by rw [e']; exact a') w'
end
/-! ### a def -/
def startS (n : Nat) (ss : List SV) : SS := ss.map some ++ List.replicate (n - ss.length) none
theorem start_rel {F : Addr} {Hh : Hp} {N : List Str} {vs : List V} {ss : List SV} (h : SAll F Hh vs ss) : RelS F Hh (start N vs) (startS N.length ss) := by
  have hl := h.len
  refine ⟨by simp [L2.start, startS, hl], fun i s e => ?_⟩
  unfold startS at e
  by_cases hi : i < ss.length
  · rw [List.getElem?_append_left (by simpa using hi), List.getElem?_map] at e
    cases q : ss[i]? with
    | none => rw [q] at e; cases e
    | some s' =>
      rw [q] at e
      cases e
      obtain ⟨v, h1, h2⟩ := h.get q
      refine ⟨v, ?_, h2⟩
      unfold L2.start
      rw [List.getElem?_append_left (by simpa [hl] using hi), List.getElem?_map, h1]
      rfl
  · rw [List.getElem?_append_right (by simpa using hi)] at e
    have := List.mem_of_getElem? e
    rw [List.mem_replicate] at this
    cases this.2
theorem fn_deep {P : Program} {w : World} {K : PySem.W.Frag} {mg : Str → Option Value} {base : Heap} {x qual : Str} {params : Arguments} {body : List Stmt} {scope : Scope} {dvs : List V} {kws : List (Str × V)} {f : Addr} {fd : FuncData} {N ps : List Str} {lev k : Nat} {sp : DSp} {T : DS}
    (Fu : FunD K x qual params body scope dvs kws f fd) (S : FnScope N ps scope) (hlen : ∀ ss P, sp ss P → ss.length = ps.length)
    (hb : ∀ (cdv : Value) (A : Around) (outer : List Env) (s : Shared) (H : Hp) (E : XK), Room lev (A.deeper (envOfC qual scope s.heap.objs.size f cdv)) → PSs (cxOf CX0 P w K mg base N qual scope f cdv A outer s H E).nox body (ls k T))
    (hT : ∀ ss Q, sp ss Q → T { nx := fun _ _ => Q .none, rt := Q } (startS N.length ss) none) : FnOk P w K mg base CX0 (lev + 1) f fd ps (lsp sp) := by
  refine Fu.ok S (fun vs H Q E ⟨F, G, ss, R, _, _, _, r, h, _⟩ => r.len.trans (hlen ss R h)) fun cdv A outer s H vs Q E hr ⟨F, G, ss, R, gF, sub, fe, r, h, fo⟩ => ⟨ls k T, PSs.nox (hb cdv A outer s H E hr), ?_⟩
  refine ⟨F, G, H, startS N.length ss, none, _, ⟨gF, sub, fe, Step.refl F H, fe, start_rel r, fun a ds e => nomatch e⟩, hT ss R h, ⟨fun ρ acc σ H' s' a' p => ?_, fun _ _ _ _ _ _ z => z.elim, fun _ _ _ _ _ _ z => z.elim, fun d v H' st f1 rv p => fo d v H' p st f1 rv⟩⟩
  exact fo .none .non H' p s'.step s'.feed .non
end Ao
set_option Elab.async false
set_option autoImplicit false
set_option linter.all false
set_option maxRecDepth 100000
set_option maxHeartbeats 1000000
namespace Ao
open PySem PySem.Spec PyProof.Rows L2
/-! ### callees -/
structure CalD (P : Program) (w : World) (K : AK) (mg : Str → Option Value) (base : Heap) (x : Str) (k : Nat) (sp : DSp) (dd : List SV) : Prop where
  ex : ∃ (f : Addr) (fd : FuncData) (ps : List Str) (dvs : List V) (ds : List Value), FnOk P w K mg base CX0 k f fd ps (lsp sp) ∧ mg x = some (.ref f) ∧ PySem.W.keepIn K (.ref f) = true ∧ Binds K fd ps ds ∧ Vals dvs ds ∧ ∀ F H, SAll F H dvs dd
theorem de_c {X : Cx} {k j : Nat} {sp : DSp} {dd : List SV} {e : Expr} {es : List Expr} {U : TL} {x : Str} {p pos : Pos} (c : CalD X.prog X.w X.K X.mg X.base x k sp dd) (hr : Room j X.A) (hg : Gl X x) (ha : PA X (e :: es) (la U)) (hk : k ≤ j := by decide) (hdb : (x == ("__debug__" : Str)) = false := by decide) (he : starEach (e :: es) X.env = (false, eval e X.env) :: starEach es X.env := by rfl)
    (hpl : (backTo pos (starEach es X.env)).any (·.1) = false := by rfl) : PE X (.Call (.Name x p) (e :: es) [] pos) (lf (dCall sp dd U)) := by
  obtain ⟨f, fd, ps, dvs, ds, F, hm, kp, b, d, hdd⟩ := c.ex
  exact de_call F (hr.mono hk) hg hm kp b d hdd ha hdb he hpl
theorem CalD.imp {P : Program} {w : World} {K : AK} {mg : Str → Option Value} {base : Heap} {x : Str} {k : Nat} {sp sp' : DSp} {dd : List SV} (c : CalD P w K mg base x k sp dd) (h : ∀ ss Q, sp' ss Q → sp ss Q) : CalD P w K mg base x k sp' dd := by
  obtain ⟨f, fd, ps, dvs, ds, F, r⟩ := c.ex
  exact ⟨f, fd, ps, dvs, ds, F.imp fun vs H Q E ⟨F, G, ss, P, a1, a2, a3, a4, a5, a6⟩ => ⟨F, G, ss, P, a1, a2, a3, a4, h _ _ a5, a6⟩, r⟩
theorem Room.u65 {k : Nat} {A : Around} (r : Room k A) : A.units + 65 < cLine := by have := r.un; omega
theorem Room.u1 {k : Nat} {A : Around} (r : Room k A) : A.units + 1 < cLine := by have := r.un; omega
end Ao
set_option Elab.async false
set_option autoImplicit false
set_option linter.all false
set_option maxRecDepth 100000
set_option maxHeartbeats 1000000
namespace Ao
open PySem PySem.Spec PyProof.Rows L2
open PySem.AutoSeq1 (wpAny_loadPart')
/-! ### enumerate of a tuple -/
theorem meets_enum_newT (l : Addr) (items : Array Value) (n : Nat) (dct : Option Addr) (sl : Array (Option Value)) :
    Meets (Builtin.«enumerate.__new__» ⟨[.type "enumerate", .ref l], []⟩) (fun _ R s => s.heap.get? l = some { cls := .type "tuple", dict := dct, data := .seq items n, slots := sl } ∧
      R (.ok (.ret (.ref (s.heap.push { cls := .type "tuple_iterator", data := .fields #[.ref l, .int 0 0] }).objs.size)))
        { s with heap := (s.heap.push { cls := .type "tuple_iterator", data := .fields #[.ref l, .int 0 0] }).push { cls := .type "enumerate", data := .fields #[.none, .bool false, .ref s.heap.objs.size, rawInt 0, .none, .none] } }) :=
  .of_wp fun prog w A R s h => by
    obtain ⟨hp, g, d, tk, os⟩ := s; obtain ⟨hl, h⟩ := h
    have hsub := sub_enumerate
    have hL : Heap.IsTuple (Shared.heap ⟨hp, g, d, tk, os⟩) l items := ⟨_, hl, rfl, n, rfl⟩
    wp_walk using wpAny_loadPart' hl
    refine wpAny_stack_any fun st => wpAny_pure ?_
    split
    · rename_i c _ _ _ _ _
      cases (c == Value.type "enumerate")
      · wp_walk using wpAny_loadPart' hl, wpAny_pyIter_tuple hL
        exact ⟨_, rfl, h⟩
      · wp_walk using wpAny_loadPart' hl, wpAny_pyIter_tuple hL
        exact ⟨_, rfl, h⟩
    · wp_walk using wpAny_loadPart' hl, wpAny_pyIter_tuple hL
      exact ⟨_, rfl, h⟩
theorem call_enum_tup {prog : Program} {w : World} {A : Around} {E : Value → Shared → Prop} {s : Shared} {l : Addr} {items : Array Value} {Q : Value → Shared → Prop} (hL : s.heap.IsTuple l items)
    (h : ∀ h', IsEnum h' (s.heap.objs.size + 1) s.heap.objs.size 0 .none → h'.IsTupleIter s.heap.objs.size l 0 → h'.objs.size = s.heap.objs.size + 2 →
      (∀ b o, s.heap.get? b = some o → h'.get? b = some o) → Q (.ref (s.heap.objs.size + 1)) { s with heap := h' }) :
    wpAny (model prog w) A (call (.type "enumerate") [.ref l]) Q E s := by
  obtain ⟨⟨c, dct, dt, sl⟩, hl, hc, n, hd⟩ := hL
  replace hc : c = .type "tuple" := hc
  replace hd : dt = .seq items n := hd
  subst hc hd
  refine callType_new F.called_enumerate (by decide) (F.typeCall_enumerate_1 _) (F.newCall_enumerate_1 _) (fun obj => F.args_object_init_2 obj _) F.entry_enumerate_new
    (meets_enum_newT l items n dct sl) ⟨hl, ?_⟩
  have hz : (s.heap.push { cls := .type "tuple_iterator", data := .fields #[.ref l, .int 0 0] }).objs.size = s.heap.objs.size + 1 := Heap.size_push ..
  show _ ∧ _
  rw [hz]
  have he : IsEnum ((s.heap.push { cls := .type "tuple_iterator", data := .fields #[.ref l, .int 0 0] }).push
      { cls := .type "enumerate", data := .fields #[.none, .bool false, .ref s.heap.objs.size, rawInt 0, .none, .none] }) (s.heap.objs.size + 1) s.heap.objs.size 0 .none := by
    have := Heap.get?_push_size (s.heap.push { cls := .type "tuple_iterator", data := .fields #[.ref l, .int 0 0] })
      (o := { cls := .type "enumerate", data := .fields #[.none, .bool false, .ref s.heap.objs.size, rawInt 0, .none, .none] }) rfl
    rw [hz] at this; exact this
  exact ⟨⟨_, he, rfl⟩, h _ he ⟨_, Heap.get?_push_of_some _ (Heap.get?_push_size _ rfl), rfl, rfl⟩ (by rw [Heap.size_push, hz]) fun b o x => Heap.get?_push_of_some _ (Heap.get?_push_of_some _ x)⟩
def IteT (K : AK) (a : Addr) : It :=
  ⟨fun i H => ∃ (xs : List V) (x : V), SqT K H a xs ∧ xs[i]? = some x, fun i H v H' => ∃ T x, v = .ref T ∧ H T = none ∧ H' = upd H T (.tup [.int (i : Nat), x]) ∧ ∀ xs, SqT K H a xs → xs[i]? = some x, fun i H => ∃ xs : List V, SqT K H a xs ∧ xs.length = i⟩
theorem turn_enT {P : Program} {w : World} {K : AK} {elts : List Expr} {kk : Nat} {tpos : Pos} (a e it : Addr) :
    Turn P w K (.Tuple elts kk tpos) (IteT K a) [e, it] e (fun i h => (∃ old, IsEnum h e it ((i : Nat) : Int) old) ∧ h.IsTupleIter it a i ∧ e ≠ it ∧ e ≠ a ∧ a ≠ it) where
  mem := by simp
  obj := fun i h st b hb => by
    obtain ⟨⟨old, he⟩, ⟨o, ho, hc, hd⟩, _⟩ := st
    have e' : b = e ∨ b = it := by simpa using hb
    rcases e' with z | z
    · rw [z]; exact ⟨_, he, fun v q => nomatch q⟩
    · rw [z]; exact ⟨o, ho, fun v q => by rw [hd] at q; cases q⟩
  keep := fun i h h' st k => let ⟨⟨old, he⟩, hi, hne⟩ := st; ⟨⟨old, k e (by simp) _ he⟩, hi.at fun o q => k it (by simp) o q, hne⟩
  item := by
    intro X hP hw hK hc i pins s σ H E I hf st hg
    subst hP hw hK
    obtain ⟨⟨old, he⟩, hit, hne, hea, hai⟩ := st
    obtain ⟨xs, x, hq, hx⟩ := hg
    obtain ⟨its, rv, p, hz⟩ := I.tuple hq
    obtain ⟨u, hu, ru⟩ := rv.get hx
    have hel : e < s.heap.objs.size := Heap.lt_size he
    have hil : it < s.heap.objs.size := by obtain ⟨_, q, _⟩ := hit; exact Heap.lt_size q
    have htup : s.heap.IsTuple a its.toArray := p
    have hi : i < its.toArray.size := by
      have := (List.getElem?_eq_some_iff.mp hu).1
      simpa using this
    refine wpAny_pyNext_enum_itemD (Draws.tuple (A := X.A.in1) (I.ok.hd hc) it a hai its.toArray) he ⟨hit, htup⟩ hi hne (by simp [hne, hea]) fun y h' tk hy ho hit' hT hsz hk => ?_
    have ey : y = u := by
      have hy' : its[i]? = some y := by simpa using hy
      rw [hu] at hy'
      exact (Option.some.inj hy').symm
    subst ey
    refine ⟨_, rfl, wpAny_letOwnedTupleGo_enum (s := { s with heap := h', toks := tk + 1 }) ho fun h'' he' sb => ?_⟩
    have hT2 : h''.get? s.heap.objs.size = some { cls := .type "tuple", data := .seq #[.int i tk, y] } := (sb.2 _ (Nat.ne_of_gt hel)).trans hT
    have new : ObjOk X.prog X.w (upd H s.heap.objs.size (.tup [.int (i : Nat), x])) h'' s.heap.objs.size (.tup [.int (i : Nat), x]) :=
      ⟨by show 2 ≤ sizeLine; decide, [.int i tk, y], .cons ⟨_, rfl⟩ (.cons ru .nil), ⟨_, hT2, rfl, _, rfl⟩⟩
    have I1 : Inv X pins σ (upd H s.heap.objs.size (.tup [.int (i : Nat), x])) { s with heap := h'', toks := tk + 1 } :=
      I.turnedNew (ch := [e, it]) (fun b ob hb q => (sb.2 b (fun z => hb (by simp [z]))).trans (hk b ob (fun z => hb (by simp [z])) (fun z => hb (by simp [z])) q)) hf (Nat.le_refl _) new
    refine ⟨.ref s.heap.objs.size, _, I1, rfl, ⟨_, x, rfl, I.hok.fresh (Nat.le_refl _), rfl, fun ys hy => by rw [I.tuple_inj hy hq]; exact hx⟩, ⟨⟨y, ?_⟩, hit'.1.at fun o q => (sb.2 it (Ne.symm hne)).trans q, hne, hea, hai⟩, fun b hb => ?_⟩
    · have e1 : ((i + 1 : Nat) : Int) = (i : Int) + 1 := by omega
      rw [e1]; exact he'
    · have hb' : b < s.heap.objs.size := by
        have e' : b = e ∨ b = it := by simpa using hb
        rcases e' with z | z
        · rw [z]; exact hel
        · rw [z]; exact hil
      rw [upd_ne (Nat.ne_of_lt hb')]
      exact (hf b hb).1
  done := by
    intro X hP hw hK hc i pins s σ H E I hf st hg
    subst hP hw hK
    obtain ⟨⟨old, he⟩, hit, hne, hea, hai⟩ := st
    obtain ⟨xs, hq, hx⟩ := hg
    obtain ⟨its, rv, p, hz⟩ := I.tuple hq
    obtain ⟨f0, f1, f2, f3, f4, f5⟩ := hf it (by simp)
    have htup : s.heap.IsTuple a its.toArray := p
    have hl := rv.length
    have ei : i = its.toArray.size := by simp; omega
    exact wpAny_pyNext_enum_endD (Draws.tuple (A := X.A.in1) (I.ok.hd hc) it a hai its.toArray) he ⟨ei ▸ hit, htup⟩ fun h' eb => ⟨rfl, I.turned (t' := s.toks) (fun b o hb q => eb b o hb q) f0 f1 f3 f4 f5⟩
  self := fun A i s Q E st h => let ⟨⟨_, he⟩, _⟩ := st; wpAny_pyIter_enum he h
def iEnumT (K : AK) (ta : TA) : TI := fun σ H R => ta σ H fun vs H1 => ∃ a xs, vs = [.ref a] ∧ SqT K H1 a xs ∧ R (IteT K a) H1
theorem pi_enT {X : Cx} {e : Expr} {ta : TA} {p pos tpos : Pos} {elts : List Expr} {kk : Nat} (hg : Gl X "enumerate") (hm : X.mg "enumerate" = none) (ha : PA X [e] ta) (hs : starEach [e] X.env = [(false, eval e X.env)] := by rfl) :
    PI X (.Tuple elts kk tpos) (.Call (.Name "enumerate" p) [e] [] pos) (iEnumT X.K ta) := by
  refine ⟨fun pins s σ H R I h => ?_⟩
  refine Call_ (ld_blt I hg hm boot_enumerate (PyProof.Rows.callWith_type1 (thn (ha.run pos pins s σ H _ I h) fun us s1 ⟨vs, H1, I1, r1, q1⟩ => ?_) hs rfl))
  obtain ⟨a, xs, ex, hq, q⟩ := q1
  subst ex
  cases r1 with
  | cons r rr =>
    cases rr
    cases r
    obtain ⟨its, rv, p', hz⟩ := I1.tuple hq
    have htup : s1.heap.IsTuple a its.toArray := p'
    have hal : a < s1.heap.objs.size := by obtain ⟨_, q, _⟩ := htup; exact Heap.lt_size q
    refine call_enum_tup htup fun h' he hit hsz hk => wpAny_pyIter_enum he ?_
    have I2 : Inv X pins σ H1 { s1 with heap := h' } := I1.kept (t' := s1.toks) hk
    refine ⟨s1.heap.objs.size + 1, [s1.heap.objs.size + 1, s1.heap.objs.size], _, _, H1, rfl, I2, turn_enT a (s1.heap.objs.size + 1) s1.heap.objs.size, ⟨⟨.none, he⟩, hit, Nat.succ_ne_self _, Nat.ne_of_gt (Nat.lt_succ_of_lt hal), Nat.ne_of_lt hal⟩, fun b hb => ?_, q⟩
    have e' : b = s1.heap.objs.size + 1 ∨ b = s1.heap.objs.size := by simpa using hb
    have hle : s1.heap.objs.size ≤ b := by
      rcases e' with z | z
      · exact Nat.le_trans (Nat.le_succ _) (Nat.le_of_eq z.symm)
      · exact Nat.le_of_eq z.symm
    exact I1.fpOk hle (I1.hok.fresh hle)
theorem walk_enT {K : AK} {a : Addr} {n : Nat} {xs : List V} (hn : n = xs.length) : Walk (IteT K a) n (fun H => SqT K H a xs) (YPair (fun i => some (.int (i : Nat))) (fun i => xs[i]?)) := by
  subst hn
  refine ⟨fun i _ hi q => ⟨xs, xs[i], q, by simp [hi]⟩, fun _ q => ⟨xs, q, rfl⟩, fun i H v H' _ q ⟨T, x, h1, h2, h3, h4⟩ => ⟨T, .int (i : Nat), x, h1, h2, h3, rfl, h4 xs q⟩⟩
section
variable {X : Cx} {tg : Expr}
def iEnT (T : TD) : TIt := fun ρ P => T ρ fun c => ∃ ds, c = .tuple ds ∧ P (enums ds)
theorem di_enT {e : Expr} {T : TD} {p pos tpos : Pos} {elts : List Expr} {kk : Nat} (hg : Gl X "enumerate") (hm : X.mg "enumerate" = none) (ha : PE X e (lf T)) (hs : starEach [e] X.env = [(false, eval e X.env)] := by rfl) : PI X (.Tuple elts kk tpos) (.Call (.Name "enumerate" p) [e] [] pos) (li (iEnT T)) := by
  refine PI.weak (PI.sized (pi_enT hg hm (pa_cons ha pa_nil hs) hs)) fun σ H R ⟨F, G, ρ, P, k, p, fo⟩ => ?_
  refine ⟨F, G, ρ, _, k, p, fun c v H1 ⟨ds, e, p1⟩ st fd r => ?_⟩
  subst e
  cases r with
  | @tup a1 vs1 _ h1 h2 =>
    refine ⟨_, _, rfl, .inl (.inl (hide_get h1).1), fun sz => fo _ _ _ p1 st fd ⟨by rw [enums_len, ← dps_len h2]; exact sz _ _ (.inr (hide_get h1).1), fun G' hg hn => ?_⟩⟩
    have sm : Same (hide H1 G) (hide H1 G') := hide_more hn
    refine ⟨fun H => hide H G' a1 = some (.tup vs1) ∧ DqAll (hide H G') vs1 ds, ⟨sm _ _ h1, dps_mono sm ds _ h2⟩, fun Ha Hb ⟨q1, q2⟩ s => ⟨s _ _ q1, dps_mono s ds _ q2⟩, ?_⟩
    have hl : (enums ds).length = vs1.length := by rw [enums_len, ← dps_len h2]
    refine (walk_enT hl).mono (fun H ⟨⟨q1, _⟩, _⟩ => .inl (.inl (hide_get q1).1)) fun i H x H' hi ⟨⟨q1, q2⟩, sub⟩ ⟨T, x1, x2, ev, nT, eH, g1, g2⟩ => ?_
    subst ev eH
    cases g1
    obtain ⟨d2, e2, w2⟩ := dps_getV q2 g2
    exact ⟨same_new nT, _, enums_get e2, pair_new nT sub (.int _) w2⟩
end
/-! ### [*a, *b] -/
def aStar (T : TD) (U : TL) : TL := fun ρ P => T ρ fun d => ∃ ds, Seq d ds ∧ U ρ fun ss => P (ds.map .d ++ ss)
theorem dqs_sall {F : Addr} {H : Hp} : ∀ {ds : List D} {vs : List V}, DqAll H vs ds → SAll F H vs (ds.map .d)
  | [], _, h => by cases h; exact .nil
  | d :: ds, _, h => by
    cases h with
    | cons h1 h2 => exact .cons h1 (dqs_sall h2)
theorem da_star {X : Cx} {e : Expr} {es : List Expr} {T : TD} {U : TL} {p : Pos} (he : PE X e (lf T)) (hr : PA X es (la U)) (hs : starEach (.Starred e p :: es) X.env = (true, eval e X.env) :: starEach es X.env := by rfl) : PA X (.Starred e p :: es) (la (aStar T U)) := by
  refine PA.weak (StX.pa_star he hr hs) fun σ H Q ⟨F, G, ρ, P, k, q, fo⟩ => ?_
  refine ⟨F, G, ρ, _, k, q, fun d v H1 ⟨ds, hsq, p1⟩ st1 fd1 r1 => ?_⟩
  rcases hsq with e | e
  · subst e
    cases r1 with
    | lst h1 h2 =>
      refine ⟨_, _, rfl, .inr (.inl (.inl (hide_get h1).1)), F, G, ρ, _, k.step st1 fd1, p1, fun ss vs H2 p2 st2 fd2 r2 => ?_⟩
      exact fo _ _ H2 p2 (st1.trans st2) fd2 ((dqs_sall (dps_mono (st2.hide k.gf) ds _ h2)).app r2)
  · subst e
    cases r1 with
    | tup h1 h2 =>
      refine ⟨_, _, rfl, .inl (.inl (.inl (hide_get h1).1)), F, G, ρ, _, k.step st1 fd1, p1, fun ss vs H2 p2 st2 fd2 r2 => ?_⟩
      exact fo _ _ H2 p2 (st1.trans st2) fd2 ((dqs_sall (dps_mono (st2.hide k.gf) ds _ h2)).app r2)
/-! ### three names -/
def dPr3 (i j l : Nat) (U : TL) : DS := fun E ρ acc => U ρ fun ss => ∃ s1 s2 s3, ss = [s1, s2, s3] ∧ E.nx (((ρ.set i (some s1)).set j (some s2)).set l (some s3)) acc
theorem ds_par3 {X : Cx} {k : Nat} {pos : Pos} (i j l : Nat) {x y z : Str} {a b c : Expr} {U : TL} {px py pz pt pt2 : Pos} {kt k2 : Nat} (hN : X.N.Nodup) (ha : PA X [a, b, c] (la U)) (hw : swappedStores [.Tuple [.Name x px, .Name y py, .Name z pz] kt pt] (.Tuple [a, b, c] k2 pt2) X.env = pure (some [x, y, z]) := by rfl)
    (hik : i ≠ k := by decide) (hjk : j ≠ k := by decide) (hlk : l ≠ k := by decide) (hij : i ≠ j := by decide) (hil : i ≠ l := by decide) (hjl : j ≠ l := by decide) (hi : X.N[i]? = some x := by rfl) (hj : X.N[j]? = some y := by rfl) (hl : X.N[l]? = some z := by rfl)
    (hx : X.env.scope.names.lookup x = some .local := by rfl) (hy : X.env.scope.names.lookup y = some .local := by rfl) (hz : X.env.scope.names.lookup z = some .local := by rfl) (hc : X.calm = true := by rfl)
    (hs : swapsWithSole [.Tuple [.Name x px, .Name y py, .Name z pz] kt pt] (.Tuple [a, b, c] k2 pt2) pos.line X.env = pure false := by rfl) : PS X (.Assign [.Tuple [.Name x px, .Name y py, .Name z pz] kt pt] (.Tuple [a, b, c] k2 pt2) pos) (ls k (dPr3 i j l U)) := by
  refine PS.weak (ps_par3 hc hN hi hj hl hij hil hjl hx hy hz ha hw hs) fun N σ H ⟨F, Gc, He, ρ, acc, E, s, t, im⟩ => ?_
  refine ⟨F, _, ρ, _, s.ok, t, fun ss vs H1 ⟨s1, s2, s3, e, p1⟩ st f1 r1 => ?_⟩
  subst e
  cases r1 with
  | cons r1 r2 =>
    cases r2 with
    | cons r2 r3 =>
      cases r3 with
      | cons r3 r4 =>
        cases r4
        have sg := s.go st f1
        exact ⟨_, _, _, rfl, im.nx _ _ _ _ (sg.next (Step.refl F H1) f1 (((sg.rel.set r1).set r2).set r3) (by rw [List.getElem?_set_ne hlk]; exact set2_k hik hjk)) (Adv.of st) p1⟩
end Ao
set_option Elab.async false
set_option autoImplicit false
set_option linter.all false
set_option maxRecDepth 100000
set_option maxHeartbeats 2000000
namespace Ao
open PySem PySem.Spec PyProof.Rows L2
/-! ### a def of whose answer nothing is told -/
def lspU (sp : List SV → Prop) : Sp := fun vs H Q _ => ∃ F G ss, G F ∧ (∀ b, G b → H b ≠ none) ∧ FeedOk F H ∧ SAll F (hide H G) vs ss ∧ sp ss ∧ ∀ v H', Step F H H' → FeedOk F H' → Q v H'
structure CalU (P : Program) (w : World) (K : AK) (mg : Str → Option Value) (base : Heap) (x : Str) (k : Nat) (sp : List SV → Prop) : Prop where
  ex : ∃ (f : Addr) (fd : FuncData) (ps : List Str), FnOk P w K mg base CX0 k f fd ps (lspU sp) ∧ mg x = some (.ref f) ∧ PySem.W.keepIn K (.ref f) = true ∧ Binds K fd ps []
def dSetU (i : Nat) (sp : List SV → Prop) (U : TL) : DS := fun E ρ acc => U ρ fun ss => sp ss ∧ E.nx (ρ.set i none) acc
theorem ds_setU {X : Cx} {k k0 j : Nat} {pos : Pos} (i : Nat) {x y : Str} {sp : List SV → Prop} {U : TL} {e : Expr} {es : List Expr} {p p2 pos' : Pos} (hN : X.N.Nodup) (c : CalU X.prog X.w X.K X.mg X.base y k0 sp) (hr : Room j X.A) (hg : Gl X y) (ha : PA X (e :: es) (la U)) (hkj : k0 ≤ j := by decide) (hk : i ≠ k := by decide)
    (hi : X.N[i]? = some x := by rfl) (hx : Loc X.env.scope x := by first | exact Or.inl rfl | exact Or.inr rfl) (hs : swapsWith (.Call (.Name y p) (e :: es) [] p2) (some (.Name x pos')) pos.line X.env = pure false := by rfl) (hf : X.fn x = true ∨ X.env.scope.names.lookup x = some .local := by first | exact .inl rfl | exact .inr rfl)
    (hdb : (y == ("__debug__" : Str)) = false := by decide) (he : starEach (e :: es) X.env = (false, eval e X.env) :: starEach es X.env := by rfl) (hpl : (backTo p2 (starEach es X.env)).any (·.1) = false := by rfl) :
    PS X (.Assign [.Name x pos'] (.Call (.Name y p) (e :: es) [] p2) pos) (ls k (dSetU i sp U)) := by
  obtain ⟨f, fd, ps, Fn, hm, kp, hb⟩ := c.ex
  refine PS.weak (ps_set hN hi hx (pe_call Fn (hr.mono hkj) hg hm kp hb .nil pass0 ha hdb he hpl) hs hf) fun N σ H ⟨F, Gc, He, ρ, acc, E, s, t, im⟩ => ?_
  refine ⟨F, _, ρ, _, s.ok, t, fun ss vs H1 ⟨p1, p2⟩ st fd1 r => ?_⟩
  have s1 := s.go st fd1
  show lspU sp (vs ++ []) H1 _ E0
  rw [List.append_nil]
  refine ⟨F, _, ss, s1.ok.gf, s1.ok.sub, fd1, r, p1, fun v H2 st2 fd2 => ?_⟩
  have s2 := s1.go st2 fd2
  refine im.nx _ _ _ _ (s2.next (Step.refl F H2) fd2 s2.rel.unset (by rw [List.getElem?_set_ne hk])) (Adv.of (st.trans st2)) p2
/-- {.. for .. in ()} -/
theorem pe_no {X : Cx} {e : Expr} : PE X e fun _ _ _ => False := ⟨fun _ _ _ _ _ _ h => h.elim⟩
theorem pg_no {X : Cx} {e : Expr} : PG X e fun _ _ _ _ => False := ⟨fun _ _ _ _ _ _ _ _ _ h => h.elim⟩
theorem dc_none {X : Cx} {σ : Sg} {H : Hp} {Q : VK} {a : Addr} {vs : List Nat} (h0 : σ[0]? = some (some (.ref a))) (ha : SqT X.K H a []) (hQ : ∀ Dd, H Dd = none → Q (.ref Dd) (upd H Dd (.dK []))) :
    tDc (iBoth (X := X) (tVar 0)) (fun _ _ _ _ => False) tYes (fun _ _ _ => False) (fun _ _ _ => False) vs σ H Q := by
  refine ⟨.ref a, h0, .inr ⟨a, rfl, ⟨[], ha⟩, fun Dd nD => ⟨fun i m H' => i = 0 ∧ H' = upd H Dd (.dK []), ⟨0, rfl, rfl⟩, fun i m H' ⟨e1, e2⟩ => ?_⟩⟩⟩
  subst e1 e2
  refine .inl ⟨⟨[], ?_, Nat.le_refl _⟩, hQ Dd nD⟩
  rcases ha with (h | h) | h
  · refine .inl (.inl ?_)
    rw [upd_ne (ne_of_none h nD)]
    exact h
  · obtain ⟨o, h⟩ := h
    refine .inl (.inr ⟨o, ?_⟩)
    rw [upd_ne (ne_of_none h nD)]
    exact h
  · exact .inr h
end Ao
set_option Elab.async false
set_option autoImplicit false
set_option linter.all false
set_option maxRecDepth 100000
set_option maxHeartbeats 1000000
namespace Ao
open PySem PySem.W PySem.Calls PyProof.Rows
/-! ### tuples, some perhaps empty, can be sorted -/
section
variable {prog : Program} {w : World} {A : Around} {E : Value → Shared → Prop} {s : Shared}
theorem call_tup_lt {Q : Value → Shared → Prop} {l b : Addr} {items items2 : Array Value} {e r : Nat → Bool} (hl : s.heap.IsTuple l items) (hb : s.heap.IsTuple b items2)
    (he : ∀ j (h1 : j < items.size) (h2 : j < items2.size), SeqAt.EqAt A.in1 s items[j] items2[j] (e j)) (hr : ∀ j (h1 : j < items.size) (h2 : j < items2.size), e j = false → SeqAt.RcLt A.in1 s items[j] items2[j] (r j))
    (h : Q (.bool (SeqAt.firstLt e r (decide (items.size < items2.size)) (List.range (min items.size items2.size)))) s) : wpAny (model prog w) A (call (.builtin "tuple.__lt__") [.ref l, .ref b]) Q E s := by
  obtain ⟨⟨c1, d1, t1, z1⟩, ho, e1, n1, k1⟩ := id hl
  obtain ⟨⟨c2, d2, t2, z2⟩, ho2, e2, n2, k2⟩ := id hb
  simp only at e1 k1 e2 k2
  subst e1 k1 e2 k2
  exact call_meets F.slot_tuple_lt ⟨_, ho, rfl⟩ F.entry_tuple_lt (F.args_tuple_lt_2 _ _) (SeqAt.tuple_ltAt l b items items2 n1 n2 d1 d2 z1 z2 e r) ⟨ho, ho2, he, hr, h⟩
theorem oneLt_tup {xs ys : List PyData} {a b : Value} {as bs : List Addr} {Q : Bool → Shared → Prop} (ra : Reads s.heap a (.tuple xs) as) (rb : Reads s.heap b (.tuple ys) bs) (h : alike (.tuple xs) (.tuple ys) = true)
    (hu : A.units + min (PyData.tuple xs).depth (PyData.tuple ys).depth < cLine) (hq : Q (dataLt (.tuple xs) (.tuple ys)) s) : wpAny (model prog w) A (oneLt' true a b) Q E s := by
  have hal : alikeAll xs ys = true := by simpa [alike] using h
  cases ra with
  | @tuple l o vs n _ as₁ h1 h2 h3 h4 =>
    cases rb with
    | @tuple l' o' vs' n' _ bs₁ k1 k2 k3 k4 =>
      have n1 : vs.size = xs.length := by simpa using SeqAt.ReadsAll.length _ _ _ h4
      have n2 : vs'.size = ys.length := by simpa using SeqAt.ReadsAll.length _ _ _ k4
      rw [dataLt_tuple, ← firstLt_toks xs ys hal, ← n1, ← n2] at hq
      rw [oneLt'_eq, if_pos rfl]
      refine wpAny_bind (wpAny_cRoomFor (SeqAt.room_here hu) ?_)
      refine wpAny_bind (wpAny_callSpecialIfBound?_slot (T := "tuple") ⟨_, h1, h2⟩ F.slot_tuple_lt (call_tup_lt (e := SeqAt.pairEq xs ys) (r := fun j => dataLt (xs.getD j .none) (ys.getD j .none)) ⟨_, h1, h2, _, h3⟩ ⟨_, k1, k2, _, k3⟩ (fun j j1 j2 => ?_) (fun j j1 j2 hj => ?_) (wpAny_truthy_bool hq)))
      · have z := eqAt_alikeAll xs ys A.in1 s vs.toList vs'.toList _ _ h4 k4 hal (SeqAt.room_in hu) j (by simpa using j1) (by simpa using j2)
        simpa using z
      · have z := rcLt_alikeAll xs ys A.in1 s vs.toList vs'.toList _ _ h4 k4 hal (SeqAt.room_in hu) j (by simpa using j1) (by simpa using j2) hj
        simpa using z
def nonEmp : PyData → Bool
  | .tuple (_ :: _) => true
  | _ => false
theorem firsts_of {M : Model} : ∀ {vs : List Value} {ds : List PyData}, EachIs (fun v d => ∃ as, Reads s.heap v d as) vs ds → (∀ d ∈ ds, ∃ xs, d = .tuple xs) →
    ∃ fs : List (Option Value), fs.map (·.isSome) = ds.map nonEmp ∧ ∀ (Q : List (Option Value) → Shared → Prop), Q fs s → wpAny M A (vs.mapM firstOfTuple') Q E s
  | _, _, .nil, _ => ⟨[], rfl, fun Q q => by rw [List.mapM_nil]; exact wpAny_pure q⟩
  | _, _, .cons (b := d) ⟨as, r⟩ t, ht => by
    obtain ⟨fs, e1, e2⟩ := firsts_of (M := M) t fun d hd => ht d (List.mem_cons_of_mem _ hd)
    obtain ⟨xs, rfl⟩ := ht d List.mem_cons_self
    cases r with
    | @tuple a o vs n _ _ ho hc hd hr =>
      have hz := SeqAt.ReadsAll.length _ _ _ hr
      refine ⟨vs[0]? :: fs, ?_, fun Q q => ?_⟩
      · rw [List.map_cons, List.map_cons, e1]
        congr 1
        cases xs with
        | nil =>
          have : vs.size = 0 := by simpa using hz
          simp [nonEmp, this]
        | cons x xr =>
          have : 0 < vs.size := by
            have h2 : vs.size = xr.length + 1 := by simpa using hz
            omega
          simp [nonEmp, this]
      · rw [List.mapM_cons]
        refine wpAny_bind ?_
        rw [kas_first_eq]
        refine wpAny_bind (Looks.here (show Looks M s.heap (typeOf (.ref a)) o.cls from (Looks.ld ho).andThen .now) ?_)
        rw [hc, if_neg (by simp)]
        refine wpAny_bind (listItems_at ho hd (wpAny_pure ?_))
        exact wpAny_bind (e2 _ (wpAny_pure q))
theorem types_of {M : Model} {vs : List Value} {ds : List PyData} {Q : Option Value → Shared → Prop} (e : EachIs (fun v d => ∃ as, Reads s.heap v d as) vs ds) (ht : ∀ d ∈ ds, ∃ xs, d = .tuple xs) (h0 : vs ≠ []) (q : Q (some (.type "tuple")) s) : wpAny M A (oneTypeOnly' vs.toArray) Q E s := by
  obtain ⟨v1, vr, rfl⟩ : ∃ v1 vr, vs = v1 :: vr := by
    cases vs with
    | nil => exact absurd rfl h0
    | cons a b => exact ⟨a, b, rfl⟩
  rw [oneTypeOnly'_eq, List.mapM_toArray, map_eq_pure_bind]
  refine wpAny_bind (wpAny_bind (kas_mapM (r := Value.type "tuple") _ (fun v hv Q' hq => ?_) (wpAny_pure ?_)))
  · obtain ⟨d, hd, as, r⟩ := e.left v hv
    obtain ⟨xs, rfl⟩ := ht d hd
    exact (looks_reads r).here hq
  · have hall : ((List.map (fun _ => Value.type "tuple") (v1 :: vr)).toArray.all fun x => x == Value.type "tuple") = true := by
      rw [List.all_toArray, List.all_map, List.all_eq_true]
      exact fun _ _ => beq_self_eq_true _
    have hh : (List.map (fun _ => Value.type "tuple") (v1 :: vr)).toArray[0]? = some (Value.type "tuple") := rfl
    rw [hh]
    simp only [hall]
    exact wpAny_pure q
/-- tuples of alike data can be sorted -/
theorem sorts_tups {vs : List Value} {ds : List PyData} (e : EachIs (fun v d => ∃ as, Reads s.heap v d as) vs ds) (hal : AllAlike ds) (ht : ∀ d ∈ ds, ∃ xs, d = .tuple xs) (hu : ∀ d, d ∈ ds → A.units + d.depth < cLine) : SortsAt prog w A s (dataKind s.heap ds) vs := by
  by_cases hall : ds.all nonEmp = true
  · refine SortsAt.data e hal (.inl fun d hd => ?_) hu
    obtain ⟨xs, rfl⟩ := ht d hd
    have h1 := List.all_eq_true.mp hall _ hd
    cases xs with
    | nil => cases h1
    | cons x r => exact ⟨x, r, rfl⟩
  · have room : ∀ {d d' : PyData}, d ∈ ds → A.units + min d.depth d'.depth < cLine := fun {d d'} hd => Nat.lt_of_le_of_lt (Nat.add_le_add_left (Nat.min_le_left _ _) _) (hu d hd)
    refine ⟨fun v hv => ?_, ?_⟩
    · obtain ⟨d, hd, as, r⟩ := e.left v hv
      exact ⟨_, dataKind_some hal hd r⟩
    · cases ds with
      | nil => exact absurd rfl hall
      | cons d0 dr =>
        have hk : ∀ (kd : SortKind), (kd = general' ∧ nonEmp d0 = true) ∨ (kd = oneType' ∧ nonEmp d0 = false) → ∀ (E : Value → Shared → Prop) {Q : SortKind → Shared → Prop}, Q kd s → wpAny (model prog w) A (keyKind' vs.toArray) Q E s := fun kd hkd E Q q => by
          obtain ⟨fs, f1, f2⟩ := firsts_of (A := A) (E := E) (M := model prog w) e ht
          rw [keyKind'_eq, List.mapM_toArray, map_eq_pure_bind]
          refine wpAny_bind (wpAny_bind (f2 _ (wpAny_pure ?_)))
          have na : (fs.toArray.all fun x => x.isSome) = false := by
            have e1 : (fs.map (·.isSome)).all id = false := by
              rw [f1, List.all_map]
              simpa using hall
            rw [List.all_map] at e1
            simpa using e1
          rw [if_neg (by rw [na]; simp)]
          cases fs with
          | nil => cases f1
          | cons f0 fr =>
            have hf : f0.isSome = nonEmp d0 := (List.cons.inj f1).1
            have h0 : (((f0 :: fr).toArray[0]?).bind id) = f0 := by simp
            rw [h0, hf]
            rcases hkd with ⟨hk1, hk2⟩ | ⟨hk1, hk2⟩
            · rw [if_pos hk2]
              exact wpAny_pure (hk1 ▸ q)
            · rw [if_neg (by rw [hk2]; simp)]
              refine wpAny_bind (types_of e ht (fun z => ?_) (wpAny_pure (hk1 ▸ q)))
              subst z
              cases e
        cases hd : nonEmp d0 with
        | true =>
          refine ⟨general', ?_, fun _ => hk _ (.inl ⟨rfl, hd⟩)⟩
          intro E x y a b Q ha hb hq
          obtain ⟨d, as, hd, ra, rfl⟩ := dataKind_inv ha
          obtain ⟨d', as', hd', rb, rfl⟩ := dataKind_inv hb
          have g : keyLt' general' x y = oneLt' false x y := rfl
          rw [g]
          obtain ⟨xs, rfl⟩ := ht d hd
          exact oneLt_alike (fun z => nomatch z) ra rb (hal _ hd d' hd') (fun z => nomatch z) (room hd) hq
        | false =>
          refine ⟨oneType', ?_, fun _ => hk _ (.inr ⟨rfl, hd⟩)⟩
          intro E x y a b Q ha hb hq
          obtain ⟨d, as, hd, ra, rfl⟩ := dataKind_inv ha
          obtain ⟨d', as', hd', rb, rfl⟩ := dataKind_inv hb
          obtain ⟨xs, rfl⟩ := ht d hd
          obtain ⟨ys, rfl⟩ := ht d' hd'
          rw [keyLt'_oneType]
          exact oneLt_tup ra rb (hal _ hd _ hd') (room hd) hq
end
end Ao
set_option Elab.async false
set_option autoImplicit false
set_option linter.all false
set_option maxRecDepth 100000
set_option maxHeartbeats 2000000
namespace Ao
open PySem PySem.Spec PyProof.Rows L2
abbrev NK := NestedKey
/-- the tuple at a is the key k -/
def Ka (h : Heap) (k : NK) (a : Addr) : Prop := NestedIs h k (.ref a) ∧ k.depth ≤ 8
theorem Ka.stay {h h' : Heap} {k : NK} {a : Addr} (x : Ka h k a) (e : ∀ b o vs n, h.get? b = some o → o.data = .seq vs n → h'.get? b = some o) : Ka h' k a := ⟨NestedIs.at e _ _ x.1, x.2⟩
theorem Ka.one {h : Heap} {k k' : NK} {a : Addr} (x : Ka h k a) (y : Ka h k' a) : k = k' := NestedIs.inj _ _ _ x.1 y.1
section
variable {P : Program} {w : World} {A : Around} {E : Value → Shared → Prop} {s : Shared}
/-! ### what is asked of keys -/
theorem cls_none (n : Nat) : ofAClassStatement n .none = pure false := by cases n <;> rfl
theorem cls_bool (n : Nat) (b : Bool) : ofAClassStatement n (.bool b) = pure false := by cases n <;> rfl
theorem cls_int (n : Nat) (i : Int) (t : Tok) : ofAClassStatement n (.int i t) = pure false := by cases n <;> rfl
theorem cls_str (n : Nat) (x : Str) (t : Tok) : ofAClassStatement n (.str x t) = pure false := by cases n <;> rfl
mutual
theorem cls_key : ∀ (k : NK) (v : Value) (n : Nat) (Q : Bool → Shared → Prop), NestedIs s.heap k v → k.depth ≤ n → Q false s → wpAny (model P w) A (ofAClassStatement n v) Q E s
  | .none, _, n, Q, x, _, q => by cases x; rw [cls_none]; exact wpAny_pure q
  | .num i, _, n, Q, x, _, q => by
    cases x with
    | bool e => rw [cls_bool]; exact wpAny_pure q
    | int _ t => rw [cls_int]; exact wpAny_pure q
  | .text y, _, n, Q, x, _, q => by cases x; rw [cls_str]; exact wpAny_pure q
  | .tup ks, _, 0, Q, x, hn, q => by simp only [NestedKey.depth] at hn; omega
  | .tup ks, _, n + 1, Q, x, hn, q => by
    cases x with
    | @tup a o vs m _ ho hc hd hk =>
      have hdep : NestedKey.depthAll ks ≤ n := by simp only [NestedKey.depth] at hn; omega
      have all := cls_keys ks vs.toList n hk hdep
      have hT : s.TypeIs (.ref a) "tuple" := ⟨o, ho, hc⟩
      unfold ofAClassStatement
      refine wpAny_bind (wpAny_typeOf hT ?_)
      dsimp only
      rw [if_pos (by decide)]
      refine wpAny_bind (wpAny_pure ?_)
      rw [if_neg (by decide)]
      refine wpAny_bind (wpAny_seqItems ho hd ?_)
      dsimp only
      refine wpAny_bind ?_
      show wpAny _ _ (forIn vs _ _) _ _ s
      rw [← Array.forIn_toList]
      refine wpAny_forIn_list _ (fun rest r s' => r.1 = none ∧ s' = s ∧ ∀ v ∈ rest, v ∈ vs.toList) _ ?_ ?_ _ _ ⟨rfl, rfl, fun v hv => hv⟩
      · rintro v rest r s' ⟨hr, rfl, hin⟩
        refine wpAny_bind (all v (hin v List.mem_cons_self) _ ?_)
        rw [if_neg (by decide)]
        exact wpAny_pure ⟨rfl, rfl, fun u hu => hin u (List.mem_cons_of_mem _ hu)⟩
      · rintro ⟨r1, r2⟩ s' ⟨hr, rfl, _⟩
        cases hr
        exact wpAny_pure q
theorem cls_keys : ∀ (ks : List NK) (vs : List Value) (n : Nat), NestedAll s.heap ks vs → NestedKey.depthAll ks ≤ n → ∀ v ∈ vs, ∀ (Q : Bool → Shared → Prop), Q false s → wpAny (model P w) A (ofAClassStatement n v) Q E s
  | [], _, n, x, _, v, hv, _, _ => by cases x; cases hv
  | k :: ks, _, n, x, hn, v, hv, Q, q => by
    cases x with
    | cons x1 x2 =>
      simp only [NestedKey.depthAll] at hn
      cases hv with
      | head => exact cls_key k _ n Q x1 (by omega) q
      | tail _ hv => exact cls_keys ks _ n x2 (by omega) v hv Q q
end
theorem hbv_none (n : Nat) : hashByValue n .none = pure true := by cases n <;> rfl
theorem hbv_bool (n : Nat) (b : Bool) : hashByValue n (.bool b) = pure true := by cases n <;> rfl
theorem hbv_int (n : Nat) (i : Int) (t : Tok) : hashByValue n (.int i t) = pure true := by cases n <;> rfl
theorem hbv_str (n : Nat) (x : Str) (t : Tok) : hashByValue n (.str x t) = pure false := by cases n <;> rfl
mutual
/-- some answer comes -/
theorem hbv_key : ∀ (k : NK) (v : Value) (n : Nat) (Q : Bool → Shared → Prop), NestedIs s.heap k v → k.depth ≤ n → (∀ b, Q b s) → wpAny (model P w) A (hashByValue n v) Q E s
  | .none, _, n, Q, x, _, q => by cases x; rw [hbv_none]; exact wpAny_pure (q _)
  | .num i, _, n, Q, x, _, q => by
    cases x with
    | bool e => rw [hbv_bool]; exact wpAny_pure (q _)
    | int _ t => rw [hbv_int]; exact wpAny_pure (q _)
  | .text y, _, n, Q, x, _, q => by cases x; rw [hbv_str]; exact wpAny_pure (q _)
  | .tup ks, _, 0, Q, x, hn, q => by simp only [NestedKey.depth] at hn; omega
  | .tup ks, _, n + 1, Q, x, hn, q => by
    cases x with
    | @tup a o vs m _ ho hc hd hk =>
      have hdep : NestedKey.depthAll ks ≤ n := by simp only [NestedKey.depth] at hn; omega
      have all := hbv_keys ks vs.toList n hk hdep
      have hT : s.TypeIs (.ref a) "tuple" := ⟨o, ho, hc⟩
      unfold hashByValue
      refine wpAny_bind (wpAny_specialOf hT F.slot_tuple_hash.lookup ?_)
      show wpAny _ _ (seqItems? (.ref a) >>= _) _ _ s
      refine wpAny_bind (wpAny_seqItems ho hd ?_)
      refine wpAny_bind ?_
      show wpAny _ _ (forIn vs _ _) _ _ s
      rw [← Array.forIn_toList]
      refine wpAny_forIn_list _ (fun rest r s' => s' = s ∧ ∀ v ∈ rest, v ∈ vs.toList) _ ?_ ?_ _ _ ⟨rfl, fun v hv => hv⟩
      · rintro v rest r s' ⟨rfl, hin⟩
        refine wpAny_bind (all v (hin v List.mem_cons_self) _ fun b => ?_)
        cases b with
        | true =>
          rw [if_neg (by decide)]
          exact wpAny_pure ⟨rfl, fun u hu => hin u (List.mem_cons_of_mem _ hu)⟩
        | false =>
          rw [if_pos (by decide)]
          refine wpAny_pure ?_
          exact wpAny_pure (q _)
      · rintro ⟨r1, r2⟩ s' ⟨rfl, _⟩
        cases r1 <;> exact wpAny_pure (q _)
theorem hbv_keys : ∀ (ks : List NK) (vs : List Value) (n : Nat), NestedAll s.heap ks vs → NestedKey.depthAll ks ≤ n → ∀ v ∈ vs, ∀ (Q : Bool → Shared → Prop), (∀ b, Q b s) → wpAny (model P w) A (hashByValue n v) Q E s
  | [], _, n, x, _, v, hv, _, _ => by cases x; cases hv
  | k :: ks, _, n, x, hn, v, hv, Q, q => by
    cases x with
    | cons x1 x2 =>
      simp only [NestedKey.depthAll] at hn
      cases hv with
      | head => exact hbv_key k _ n Q x1 (by omega) q
      | tail _ hv => exact hbv_keys ks _ n x2 (by omega) v hv Q q
end
/-- a search among keys shows nothing -/
theorem unseen {k : NK} {b : Addr} {Q : Bool → Shared → Prop} (hk : Ka s.heap k b) {ys : List Value} (hy : ∀ y ∈ ys, ∃ k' c, y = Value.ref c ∧ Ka s.heap k' c) (q : Q false s) : wpAny (model P w) A (searchCouldBeSeen (.ref b) ys) Q E s := by
  unfold searchCouldBeSeen
  refine wpAny_bind ?_
  refine wpAny_forIn_list _ (fun rest r s' => r.1 = none ∧ s' = s ∧ ∀ y ∈ rest, y ∈ ys) _ ?_ ?_ _ _ ⟨rfl, rfl, fun y h => h⟩
  · rintro v rest r s' ⟨hr, rfl, hin⟩
    obtain ⟨k', c, rfl, hc⟩ := hy v (hin v List.mem_cons_self)
    have more : ∀ y ∈ rest, y ∈ ys := fun u hu => hin u (List.mem_cons_of_mem _ hu)
    dsimp only
    split
    · exact wpAny_pure ⟨rfl, rfl, more⟩
    · refine wpAny_bind (quiet_key k _ 8 s' hk.1 hk.2 A E _ ?_)
      rw [if_neg (by decide)]
      refine wpAny_bind (quiet_key k' _ 8 s' hc.1 hc.2 A E _ ?_)
      rw [if_neg (by decide)]
      refine wpAny_bind (cls_key k _ 8 _ hk.1 hk.2 ?_)
      rw [if_neg (by decide)]
      refine wpAny_bind (cls_key k' _ 8 _ hc.1 hc.2 ?_)
      rw [if_neg (by decide)]
      exact wpAny_pure ⟨rfl, rfl, more⟩
  · rintro ⟨r1, r2⟩ s' ⟨hr, rfl, _⟩
    cases hr
    exact wpAny_pure q

/-! ### one probe of the table -/
/-- where the way of the hash h stands behind c steps -/
abbrev pb (t : SetTable) (h : Int) (c : Nat) : SetTable.Probe := nth t.mask (runAt t.mask (SetTable.bits h % (t.mask + 1)) (SetTable.bits h)) c
theorem nth_clean (m : Nat) : ∀ (n : Nat) (p : SetTable.Probe), p.dummy = none → (nth m p n).dummy = none
  | 0, _, h => h
  | n + 1, p, h => nth_clean m n (adv m p) (by unfold adv; split <;> exact h)
theorem pb_more (t : SetTable) (h : Int) (c q : Nat) : nth t.mask (pb t h c) q = pb t h (c + q) := (nth_add t.mask c _ q).symm
theorem probe_ends {t : SetTable} {hs : List Int} (T : TabOk t hs) {h : Int} {K c : Nat} (hc : c ≤ K) (hf : K < 10 * SetTable.turns t.mask) (free : way t.mask h K ∉ t.place.toList) (full : ∀ k, k < K → way t.mask h k ∈ t.place.toList) {hashAt : Nat → Int} (hh : ∀ (i : Nat) (x : Int), hs[i]? = some x → hashAt i = x) :
    (∃ q i : Nat, c ≤ q ∧ q < K ∧ t.place.toList[i]? = some (way t.mask h q) ∧ hs[i]? = some h ∧ (∀ q' i' : Nat, c ≤ q' → q' < q → t.place.toList[i']? = some (way t.mask h q') → hs[i']? ≠ some h) ∧ t.probe hashAt h (pb t h c) = some (.candidate (way t.mask h q) i (pb t h (q + 1)))) ∨
    ((∀ q' i' : Nat, c ≤ q' → q' < K → t.place.toList[i']? = some (way t.mask h q') → hs[i']? ≠ some h) ∧ t.probe hashAt h (pb t h c) = some (.empty (way t.mask h K) none)) := by
  have jt : ∀ q, (nth t.mask (pb t h c) q).j = way t.mask h (c + q) := fun q => congrArg SetTable.Probe.j (pb_more t h c q)
  have hlen : ∀ i j : Nat, t.place.toList[i]? = some j → ∃ x, hs[i]? = some x := fun i j e => by
    have h1 := (List.getElem?_eq_some_iff.mp e).1
    rw [Array.length_toList, T.sz] at h1
    exact ⟨hs[i], List.getElem?_eq_getElem h1⟩
  rcases go_spec t T.ris T.dm hashAt h (10 * SetTable.turns t.mask) (K - c) (pb t h c) (nth_clean _ _ _ rfl) (by omega)
    (fun q hq => by rw [jt]; exact full _ (by omega)) (by rw [jt, show c + (K - c) = K by omega]; exact free) with ⟨q, i, a1, a2, a3, a4, a5⟩ | ⟨a1, a2⟩
  · rw [jt] at a2
    obtain ⟨x, hx⟩ := hlen i _ a2
    refine .inl ⟨c + q, i, by omega, by omega, a2, by rw [hx, ← hh i x hx, a3], fun q' i' h1 h2 h3 h4 => ?_, ?_⟩
    · refine a4 (q' - c) i' (by omega) ?_ (hh i' h h4)
      rw [jt, show c + (q' - c) = q' by omega]
      exact h3
    · rw [jt, pb_more] at a5
      exact a5
  · refine .inr ⟨fun q' i' h1 h2 h3 h4 => ?_, ?_⟩
    · refine a1 (q' - c) i' (by omega) ?_ (hh i' h h4)
      rw [jt, show c + (q' - c) = q' by omega]
      exact h3
    · rw [jt, show c + (K - c) = K by omega] at a2
      exact a2

/-! ### the set at a -/
abbrev Row := Addr × NK
def hsOf (w : World) (L : List Row) : List Int := L.map fun p => p.2.hash w
def rows (w : World) (L : List Row) : List (Int × Value) := L.map fun p => (p.2.hash w, Value.ref p.1)
structure SK (w : World) (h : Heap) (a : Addr) (L : List Row) (es : Array (Int × Value)) (ep : Nat) (t : SetTable) : Prop where
  ob : ∃ o, h.get? a = some o ∧ o.ExactSet ∧ o.data = .set es ep t
  row : es.toList = rows w L
  tab : TabOk t (hsOf w L)
  nd : (L.map (·.2)).Nodup
  key : ∀ p ∈ L, Ka h p.2 p.1
  led : w.params.followText "set-order" = true ∨ t.led = true
  room : L.length * 5 < t.mask * 3
  few : L.length < 64
variable {a : Addr} {L : List Row} {es : Array (Int × Value)} {ep : Nat} {t : SetTable}
theorem rows_len {es : Array (Int × Value)} {L : List Row} (h : es.toList = rows w L) : es.size = L.length := by
  rw [← Array.length_toList, h]
  exact List.length_map _
theorem hs_len (w : World) (L : List Row) : (hsOf w L).length = L.length := List.length_map _
theorem rows_at {es : Array (Int × Value)} {L : List Row} (h : es.toList = rows w L) {i : Nat} {p : Row} (e : L[i]? = some p) : es[i]? = some (p.2.hash w, Value.ref p.1) := by
  rw [← Array.getElem?_toList, h]
  show (L.map _)[i]? = _
  rw [List.getElem?_map, e]
  rfl
theorem hs_at {i : Nat} {p : Row} (e : L[i]? = some p) : (hsOf w L)[i]? = some (p.2.hash w) := by
  show (L.map _)[i]? = _
  rw [List.getElem?_map, e]
  rfl
theorem SK.fits (R : SK w s.heap a L es ep t) : t.fits es.size = true := by
  have h1 := R.tab.sz
  have h2 := rows_len R.row
  have h3 := R.room
  rw [hs_len] at h1
  unfold SetTable.fits SetTable.fill
  rw [R.tab.dm, Bool.and_eq_true, beq_iff_eq, decide_eq_true_eq]
  show t.place.size = es.size ∧ t.place.size + 0 ≤ t.mask
  omega
theorem SK.stands (R : SK w s.heap a L es ep t) : ¬ t.gaveWay = true := by
  unfold SetTable.gaveWay
  rw [mask_odd R.tab.mok]
  decide
/-- a key's place is never passed by -/
theorem place_inj {i i' j : Nat} (T : TabOk t (hsOf w L)) (h : t.place.toList[i]? = some j) (h' : t.place.toList[i']? = some j) : i = i' := by
  have e1 := slot_live T.ris h
  have e2 := slot_live T.ris h'
  rw [e1] at e2
  injection e2
theorem search_go (R : SK w s.heap a L es ep t) {x : Addr} {k : NK} (hx : Ka s.heap k x) (hu : A.units + 8 < cLine) {K : Nat} (hf : K < 10 * SetTable.turns t.mask) (free : way t.mask (k.hash w) K ∉ t.place.toList) (full : ∀ c, c < K → way t.mask (k.hash w) c ∈ t.place.toList)
    {Q : SetFound → Shared → Prop} (yes : k ∈ L.map (·.2) → Q (.there none) s) (no : k ∉ L.map (·.2) → Q (.free (way t.mask (k.hash w) K) false) s) :
    ∀ (f c : Nat) (stand : Option SetTable.Probe), stand.getD (t.probeStart (k.hash w)) = pb t (k.hash w) c → c ≤ K → K - c < f →
      (∀ (i : Nat) p, L[i]? = some p → p.2 = k → ∃ c', c ≤ c' ∧ c' < K ∧ t.place.toList[i]? = some (way t.mask (k.hash w) c')) → wpAny (model P w) A (setSearchFrom a (.ref x) (k.hash w) true f stand) Q E s
  | 0, _, _, _, _, hz, _ => absurd hz (Nat.not_lt_zero _)
  | f + 1, c, stand, hst, hc, hz, ahead => by
    obtain ⟨o, ho, _, hd⟩ := R.ob
    rw [setSearchFrom_succ]
    refine wpAny_bind (wpAny_setState_of ho hd R.fits ?_)
    dsimp only
    refine wp_if_neg R.stands ?_
    try refine wpAny_bind (wpAny_pure ?_)
    have hash : ∀ (i : Nat) (y : Int), (hsOf w L)[i]? = some y → (fun i => (es[i]?.map (·.1)).getD 0) i = y := fun i y e => by
      have hl : i < L.length := by
        have := (List.getElem?_eq_some_iff.mp e).1
        rwa [hs_len] at this
      have ep := List.getElem?_eq_getElem hl
      rw [hs_at (w := w) ep] at e
      show (es[i]?.map (·.1)).getD 0 = y
      rw [rows_at R.row ep]
      exact Option.some.inj e
    rw [hst]
    rcases probe_ends R.tab hc hf free full hash with ⟨q, i, q1, q2, hi, hhi, hno, hpr⟩ | ⟨hno, hpr⟩
    · rw [hpr]
      dsimp only
      have hil : i < L.length := by
        have := (List.getElem?_eq_some_iff.mp hhi).1
        rwa [hs_len] at this
      have hp := List.getElem?_eq_getElem hil
      generalize L[i] = p at hp
      have hm : p ∈ L := List.mem_of_getElem? hp
      have rest : wpAny (model P w) A (searchRest a (.ref x) (k.hash w) true f es t (way t.mask (k.hash w) q) i (pb t (k.hash w) (q + 1))) Q E s := by
        unfold searchRest
        rw [rows_at R.row hp]
        dsimp only
        have eqn := eqAt_key p.2 k A s (.ref p.1) (.ref x) (R.key p hm).1 hx.1 (by have := (R.key p hm).2; omega)
        refine wpAny_bind (wpAny_holding (eqn P w E _ ?_))
        rw [← NestedKey.decide_eq]
        refine wpAny_bind (wpAny_setState_of ho hd R.fits ?_)
        dsimp only
        by_cases e : p.2 = k
        · refine wp_if_pos (by rw [decide_eq_true e]; rfl) ?_
          exact wpAny_pure (yes (List.mem_map.mpr ⟨p, hm, e⟩))
        · refine wp_if_neg (by rw [decide_eq_false e]; decide) ?_
          try refine wpAny_bind (wpAny_pure ?_)
          rw [sameMem]
          dsimp only
          simp only [if_true, slot_live R.tab.ris hi, rows_at R.row hp]
          refine wpAny_bind (wpAny_isSame_ref_self (wpAny_bind (wpAny_pure ?_)))
          simp only [if_true]
          refine wp_if_neg (by rw [decide_eq_false e]; decide) ?_
          refine search_go R hx hu hf free full yes no f (q + 1) _ rfl q2 (by omega) fun i0 p0 h0 e0 => ?_
          obtain ⟨c', b1, b2, b3⟩ := ahead i0 p0 h0 e0
          refine ⟨c', ?_, b2, b3⟩
          have hash0 := hs_at (w := w) h0
          rw [e0] at hash0
          rcases Nat.lt_trichotomy c' q with z | z | z
          · exact absurd hash0 (hno c' i0 b1 z b3)
          · subst z
            have ei := place_inj R.tab hi b3
            subst ei
            rw [hp] at h0
            cases h0
            exact absurd e0 e
          · omega
      by_cases hl : t.led = true
      · refine wp_if_neg (by rw [hl]; decide) ?_
        try refine wpAny_bind (wpAny_pure ?_)
        exact rest
      · refine wp_if_pos (by simp [hl]) ?_
        refine wpAny_bind (unseen hx (fun y hy => ?_) ?_)
        · obtain ⟨e, he, ee⟩ := List.mem_map.mp hy
          have he2 : e ∈ es := (Array.mem_filter.mp (Array.mem_toList_iff.mp he)).1
          have he3 : e ∈ rows w L := by rw [← R.row]; exact Array.mem_toList_iff.mpr he2
          obtain ⟨p2, hp2, e2⟩ := List.mem_map.mp he3
          exact ⟨p2.2, p2.1, by rw [← ee, ← e2], R.key p2 hp2⟩
        · refine wp_if_neg (by decide) ?_
          try refine wpAny_bind (wpAny_pure ?_)
          exact rest
    · rw [hpr]
      dsimp only
      refine wpAny_pure (no fun hm => ?_)
      obtain ⟨p0, h0, e0⟩ := List.mem_map.mp hm
      obtain ⟨i0, hi0, ei⟩ := List.getElem_of_mem h0
      have h00 : L[i0]? = some p0 := by rw [List.getElem?_eq_getElem hi0, ei]
      obtain ⟨c', b1, b2, b3⟩ := ahead i0 p0 h00 e0
      have hash0 := hs_at (w := w) h00
      rw [e0] at hash0
      exact hno c' i0 b1 b2 b3 hash0
/-- as adding asks -/
theorem search_add (R : SK w s.heap a L es ep t) {x : Addr} {k : NK} (hx : Ka s.heap k x) (hu : A.units + 8 < cLine) {Q : SetFound → Shared → Prop} (yes : k ∈ L.map (·.2) → Q (.there none) s)
    (no : ∀ K, k ∉ L.map (·.2) → way t.mask (k.hash w) K ∉ t.place.toList → (∀ c, c < K → way t.mask (k.hash w) c ∈ t.place.toList) → Q (.free (way t.mask (k.hash w) K) false) s) : wpAny (model P w) A (setSearch a (.ref x) (k.hash w) true) Q E s := by
  have hr := R.room
  obtain ⟨K, hf, free, full⟩ := R.tab.first (by rw [hs_len]; omega) (k.hash w)
  have hb : 10 * SetTable.turns t.mask ≤ 1420 := by
    unfold SetTable.turns
    rcases R.tab.mok with e | e | e <;> omega
  unfold setSearch
  refine search_go R hx hu hf free full yes (fun hn => no K hn free full) 100000 0 none rfl (Nat.zero_le _) (by omega) fun i p hp e => ?_
  have hi := hs_at (w := w) hp
  rw [e] at hi
  have hil : i < t.place.toList.length := by
    have h1 := (List.getElem?_eq_some_iff.mp hi).1
    rw [Array.length_toList, R.tab.sz]
    exact h1
  have hj := List.getElem?_eq_getElem hil
  obtain ⟨c, hc, ec⟩ := R.tab.before free hi hj
  exact ⟨c, Nat.zero_le _, hc, by rw [hj, ec]⟩
end
end Ao
set_option Elab.async false
set_option autoImplicit false
set_option linter.all false
set_option maxRecDepth 100000
set_option maxHeartbeats 2000000
namespace Ao
open PySem PySem.Spec PyProof.Rows L2
section
variable {P : Program} {w : World} {A : Around} {E : Value → Shared → Prop} {s : Shared} {a : Addr} {L : List Row} {es : Array (Int × Value)} {ep : Nat} {t : SetTable}
theorem Ka.other {h h' : Heap} {k : NK} {a b : Addr} {o : Obj} {es : Array (Int × Value)} {ep : Nat} {t : SetTable} (hb : Ka h k b) (ho : h.get? a = some o) (hd : o.data = .set es ep t) (hs : Heap.SameBut a h h') : Ka h' k b :=
  hb.stay fun c o' vs n e e' => (hs.2 c fun z => by
    rw [z, ho] at e
    cases e
    rw [hd] at e'
    cases e').trans e
/-- rows in another order -/
theorem reorder {es : Array (Int × Value)} {L : List Row} {order : Array Nat} (hr : es.toList = rows w L) (hp : order.toList.Perm (List.range L.length)) :
    ∃ L2 : List Row, (order.filterMap (es[·]?)).toList = rows w L2 ∧ L2.Perm L ∧ hsOf w L2 = order.toList.map fun i => (es.map (·.1)).getD i 0 := by
  have each : ∀ l : List Nat, (∀ i ∈ l, i < L.length) → l.filterMap (fun i => es[i]?) = rows w (l.filterMap fun i => L[i]?) ∧ hsOf w (l.filterMap fun i => L[i]?) = l.map fun i => (es.map (·.1)).getD i 0 := by
    intro l
    induction l with
    | nil => intro _; exact ⟨rfl, rfl⟩
    | cons i l ih =>
      intro hl
      obtain ⟨e1, e2⟩ := ih fun j hj => hl j (List.mem_cons_of_mem _ hj)
      have g := List.getElem?_eq_getElem (hl i List.mem_cons_self)
      have ge := rows_at hr g
      rw [List.filterMap_cons_some ge, List.filterMap_cons_some (f := fun i => L[i]?) g, e1]
      refine ⟨rfl, ?_⟩
      have gd : (es.map (·.1)).getD i 0 = (L[i]'(hl i List.mem_cons_self)).2.hash w := by
        have q : (es.map (·.1))[i]? = some ((L[i]'(hl i List.mem_cons_self)).2.hash w) := by rw [Array.getElem?_map, ge]; rfl
        rw [Array.getD_eq_getD_getElem?, q]; rfl
      rw [List.map_cons, gd, ← e2]
      rfl
  obtain ⟨e1, e2⟩ := each order.toList fun i hi => List.mem_range.mp (hp.mem_iff.mp hi)
  refine ⟨_, by rw [Array.toList_filterMap]; exact e1, ?_, e2⟩
  have same : ∀ n, n ≤ L.length → (List.range n).filterMap (fun i => L[i]?) = L.take n := by
    intro n
    induction n with
    | zero => intro _; rfl
    | succ n ih =>
      intro hn
      rw [List.range_succ, List.filterMap_append, ih (by omega), List.take_succ, List.getElem?_eq_getElem (by omega : n < L.length)]
      simp [List.getElem?_eq_getElem (by omega : n < L.length)]
  have := hp.filterMap fun i => L[i]?
  rw [same _ (Nat.le_refl _), List.take_length] at this
  exact this
theorem line128 : (128 : Nat) ≤ sizeLine := by rw [sizeLine_eq]; omega
/-- laid anew, larger -/
theorem relay {o : Obj} (ho : s.heap.get? a = some o) (hex : o.ExactSet) (hd : o.data = .set es ep t) (hr : es.toList = rows w L) (hsz : t.place.size = es.size) (hdm : t.dummies = #[]) (hfl : es.size ≤ t.mask) (nd : (L.map (·.2)).Nodup) (key : ∀ p ∈ L, Ka s.heap p.2 p.1)
    (ld : w.params.followText "set-order" = true ∨ t.led = true) (few : L.length < 64) {wanted M : Nat} (hw : SetTable.sizeAbove wanted - 1 = M) (hM : MaskOk M) (hw2 : SetTable.sizeAbove wanted ≤ 128) (hn : L.length * 5 < M * 3) {Q : Unit → Shared → Prop}
    (hQ : ∀ h' L' es' ep' t', Heap.SameBut a s.heap h' → SK w h' a L' es' ep' t' → L'.Perm L → Q () { s with heap := h' }) : wpAny (model P w) A (setRelay a wanted) Q E s := by
  have hl := rows_len hr
  have hfits : t.fits es.size = true := by
    unfold SetTable.fits SetTable.fill
    rw [hdm, Bool.and_eq_true, beq_iff_eq, decide_eq_true_eq]
    show t.place.size = es.size ∧ t.place.size + 0 ≤ t.mask
    omega
  have hhs : (es.map (·.1)).size = L.length := by rw [Array.size_map, hl]
  obtain ⟨t', order, e, hp, T, em, el, _, _⟩ := relaid_ok t (hs := es.map (·.1)) (wanted := wanted) hw hM (by omega)
  rw [hhs] at hp
  obtain ⟨L2, r1, r2, r3⟩ := reorder (w := w) hr hp
  rw [← r3] at T
  have l2 := rows_len r1
  have ll := r2.length_eq
  rw [setRelay_eq]
  refine wpAny_bind (wpAny_setState_of ho hd hfits ?_)
  dsimp only
  refine wp_if_neg (Nat.not_lt.mpr (Nat.le_trans hw2 line128)) ?_
  try refine wpAny_bind (wpAny_pure ?_)
  rw [e]
  dsimp only
  refine wpAny_bind ?_
  refine wp_if_neg (by rw [l2, ll, hl]; simp) ?_
  try refine wpAny_bind (wpAny_pure ?_)
  refine wpAny_pure ?_
  dsimp only
  refine wpAny_storeSet_of ho hd ?_ (by have := line128; omega)
  have sb : Heap.SameBut a s.heap (s.heap.update a (Obj.putSet (order.filterMap (es[·]?)) t')) := Heap.SameBut.update ..
  refine hQ _ L2 (order.filterMap (es[·]?)) (ep + 1) t' sb ⟨⟨_, store_at ho hd, ⟨hex.1, hex.2.1, hex.2.2⟩, rfl⟩, r1, T, (r2.map (·.2)).nodup_iff.mpr nd, fun p hm => (key p (r2.mem_iff.mp hm)).other ho hd sb, by rw [el]; exact ld, by rw [em]; omega, by omega⟩ r2
/-- adding -/
theorem add_key (R : SK w s.heap a L es ep t) {x : Addr} {k : NK} (hx : Ka s.heap k x) (hu : A.units + 8 < cLine) (hfew : k ∉ L.map (·.2) → L.length + 1 < 64) {Q : Bool → Shared → Prop}
    (hQ : ∀ b h' L' es' ep' t', Heap.SameBut a s.heap h' → SK w h' a L' es' ep' t' → (k ∈ L.map (·.2) → L' = L) → (k ∉ L.map (·.2) → L'.Perm ((x, k) :: L)) → Q b { s with heap := h' }) :
    wpAny (model P w) A (setAddHashed a (.ref x) (k.hash w)) Q E s := by
  obtain ⟨o, ho, hex, hd⟩ := R.ob
  have hl := rows_len R.row
  have hroom := R.room
  unfold setAddHashed
  refine wpAny_holding ?_
  rw [show (100000 : Nat) = 99999 + 1 from rfl, setAddHashedIn_succ]
  refine wpAny_bind (wpAny_setState_of ho hd R.fits ?_)
  dsimp only
  refine wp_if_neg (by simp [byScan, Value.scannable]) ?_
  try refine wpAny_bind (wpAny_pure ?_)
  refine wpAny_bind (search_add R hx hu (fun hm => ?_) fun K hm hK hb => ?_)
  · dsimp only
    exact wpAny_pure (hQ false s.heap L es ep t (Heap.SameBut.refl a s.heap) R (fun _ => rfl) fun z => absurd hm z)
  · have few := hfew hm
    dsimp only
    refine wpAny_bind (wpAny_setState_of ho hd R.fits ?_)
    dsimp only
    obtain ⟨q1, q2, q3, q4, q5, _, _, _, q9⟩ := R.tab.put hK hb
    generalize hpt : t.put (way t.mask (k.hash w) K) = pt at q1 q3 q4 q5 q9 ⊢
    obtain ⟨t1, p⟩ := pt
    dsimp only at q1 q3 q4 q5 q9 ⊢
    subst q1
    -- the table with its mark of hashes by value
    have main : ∀ byV : Bool, wpAny (model P w) A (do
        let t2 := if byV then t1 else { t1 with plain := false }
        storeSet a (SetTable.insertAt es (SetTable.below t.place (way t.mask (k.hash w) K)) (k.hash w, Value.ref x)) t2
        if !false && t2.tooFull then setRelay a (SetTable.grown (es.size + 1))
        return true) Q E s := fun byV => by
      dsimp only
      have same : ∃ t2, (if byV then t1 else { t1 with plain := false }) = t2 ∧ t2.place = t1.place ∧ t2.dummies = t1.dummies ∧ t2.mask = t1.mask ∧ t2.led = t1.led := by
        cases byV
        · exact ⟨_, rfl, rfl, rfl, rfl, rfl⟩
        · exact ⟨_, rfl, rfl, rfl, rfl, rfl⟩
      obtain ⟨t2, et, z1, z2, z3, z4⟩ := same
      rw [et]
      have hin : (SetTable.insertAt es (SetTable.below t.place (way t.mask (k.hash w) K)) (k.hash w, Value.ref x)).toList = rows w (L.take (SetTable.below t.place (way t.mask (k.hash w) K)) ++ (x, k) :: L.drop (SetTable.below t.place (way t.mask (k.hash w) K))) := by
        rw [SetTable.toList_insertAt, R.row]
        unfold rows
        rw [List.map_append, List.map_cons, List.map_take, List.map_drop]
      have hhs : hsOf w (L.take (SetTable.below t.place (way t.mask (k.hash w) K)) ++ (x, k) :: L.drop (SetTable.below t.place (way t.mask (k.hash w) K))) = (hsOf w L).take (SetTable.below t.place (way t.mask (k.hash w) K)) ++ k.hash w :: (hsOf w L).drop (SetTable.below t.place (way t.mask (k.hash w) K)) := by
        unfold hsOf
        rw [List.map_append, List.map_cons, List.map_take, List.map_drop]
      rw [← hhs] at q3
      generalize SetTable.below t.place (way t.mask (k.hash w) K) = p at q2 q3 hin
      have pm := put_perm L p (x, k)
      generalize L.take p ++ (x, k) :: L.drop p = L1 at pm q3 hin
      have hlen : L1.length = L.length + 1 := pm.length_eq
      have he1 := rows_len hin
      generalize SetTable.insertAt es p (k.hash w, Value.ref x) = es1 at hin he1 ⊢
      have T2 : TabOk t2 (hsOf w L1) := ⟨by rw [z1]; exact q3.ris, by rw [z2]; exact q3.dm, by rw [z1]; exact q3.sz, by rw [z3]; exact q3.mok, by rw [z1, z3]; exact q3.bd, by rw [z1, z3]; exact q3.reach⟩
      have nd1 : (L1.map (·.2)).Nodup := (pm.map (·.2)).nodup_iff.mpr (List.nodup_cons.mpr ⟨hm, R.nd⟩)
      have ld1 : w.params.followText "set-order" = true ∨ t2.led = true := by rw [z4, q5]; exact R.led
      refine wpAny_bind (wpAny_storeSet_of ho hd ?_ (by have := line128; omega))
      have sb : Heap.SameBut a s.heap (s.heap.update a (Obj.putSet es1 t2)) := Heap.SameBut.update ..
      have ho1 := store_at (es' := es1) (t' := t2) ho hd
      generalize s.heap.update a (Obj.putSet es1 t2) = h1 at sb ho1 ⊢
      have key1 : ∀ p ∈ L1, Ka h1 p.2 p.1 := fun p hp => by
        rcases List.mem_cons.mp (pm.mem_iff.mp hp) with e | hp
        · rw [e]; exact hx.other ho hd sb
        · exact (R.key p hp).other ho hd sb
      have hsz2 := T2.sz
      rw [hs_len, hlen] at hsz2
      by_cases hf : t2.tooFull = true
      · first
          | (refine wpAny_bind ?_; refine wp_if_pos (by simp [hf]) ?_)
          | (refine wp_if_pos (by simp [hf]) ?_; refine wpAny_bind ?_)
        have hfull : (L.length + 1) * 5 ≥ t.mask * 3 := by
          have h := hf
          unfold SetTable.tooFull at h
          rw [decide_eq_true_eq] at h
          unfold SetTable.fill at h
          rw [T2.dm, z3, q4, hsz2] at h
          exact h
        rw [hl]
        have two : (t.mask = 7 ∧ L.length = 4) ∨ (t.mask = 31 ∧ L.length = 18) := by
          rcases R.tab.mok with e | e | e
          · left; rw [e] at hfull hroom; exact ⟨e, by omega⟩
          · right; rw [e] at hfull hroom; exact ⟨e, by omega⟩
          · exfalso; rw [e] at hfull; omega
        have go : ∀ M, SetTable.sizeAbove (SetTable.grown (L.length + 1)) - 1 = M → MaskOk M → SetTable.sizeAbove (SetTable.grown (L.length + 1)) ≤ 128 → (L.length + 1) * 5 < M * 3 →
            wpAny (model P w) A (setRelay a (SetTable.grown (L.length + 1))) (fun _ s' => wpAny (model P w) A (pure true) Q E s') E { s with heap := h1 } := fun M g1 g2 g3 g4 => by
          refine relay (s := { s with heap := h1 }) ho1 ⟨hex.1, hex.2.1, hex.2.2⟩ rfl hin (by omega) T2.dm (by rw [z3, q4]; rcases two with ⟨e, e2⟩ | ⟨e, e2⟩ <;> omega) nd1 key1 ld1 (by omega) g1 g2 g3 (by omega) ?_
          intro h2 L2 es2 ep2 t3 sb2 R2 pm2
          exact wpAny_pure (hQ true h2 L2 es2 ep2 t3 (sb.trans sb2) R2 (fun z => absurd z hm) fun _ => pm2.trans pm)
        rcases two with ⟨_, e2⟩ | ⟨_, e2⟩
        · exact go 31 (by rw [e2, size_20]) (.inr (.inl rfl)) (by rw [e2, size_20]; decide) (by omega)
        · exact go 127 (by rw [e2, size_76]) (.inr (.inr rfl)) (by rw [e2, size_76]; decide) (by omega)
      · first
          | refine wp_if_neg (by simp [hf]) ?_
          | (refine wpAny_bind ?_; refine wp_if_neg (by simp [hf]) ?_; refine wpAny_pure ?_)
        refine wpAny_pure (hQ true h1 L1 es1 (ep + 1) t2 sb ⟨⟨_, ho1, ⟨hex.1, hex.2.1, hex.2.2⟩, rfl⟩, hin, T2, nd1, key1, ld1, ?_, by omega⟩ (fun z => absurd z hm) fun _ => pm)
        have h := hf
        unfold SetTable.tooFull at h
        rw [decide_eq_true_eq] at h
        unfold SetTable.fill at h
        rw [T2.dm, hsz2] at h
        have h2 : ¬ ((L.length + 1 + 0) * 5 ≥ t2.mask * 3) := h
        omega
    first
      | (refine wpAny_bind ?_
         split
         · exact hbv_key k _ 8 _ hx.1 hx.2 main
         · exact wpAny_pure (main true))
      | (split
         · exact wpAny_bind (hbv_key k _ 8 _ hx.1 hx.2 main)
         · exact wpAny_bind (wpAny_pure (main true)))
end
end Ao
set_option Elab.async false
set_option autoImplicit false
set_option linter.all false
set_option maxRecDepth 100000
set_option maxHeartbeats 4000000
namespace Ao
open PySem PySem.Spec PyProof.Rows L2
section
variable {P : Program} {w : World} {A : Around} {E : Value → Shared → Prop} {s : Shared}
theorem Ka.keep {h h' : Heap} {k : NK} {a : Addr} (x : Ka h k a) (e : ∀ b o, h.get? b = some o → h'.get? b = some o) : Ka h' k a := x.stay fun b o _ _ q _ => e b o q
theorem SK.keep {h h' : Heap} {a : Addr} {L : List Row} {es : Array (Int × Value)} {ep : Nat} {t : SetTable} (R : SK w h a L es ep t) (ha : ∀ o, h.get? a = some o → h'.get? a = some o) (hk : ∀ p ∈ L, Ka h' p.2 p.1) : SK w h' a L es ep t :=
  let ⟨o, ho, r⟩ := R.ob
  ⟨⟨o, ha o ho, r⟩, R.row, R.tab, R.nd, hk, R.led, R.room, R.few⟩
/-- an empty set's object -/
abbrev noSet (w : World) : Obj := { cls := .type "set", dict := none, data := .set #[] 0 (.fresh 0 0 (!w.params.followText "set-order")) }
theorem noSet_ok {h : Heap} {a : Addr} (ho : h.get? a = some (noSet w)) : SK w h a [] #[] 0 (.fresh 0 0 (!w.params.followText "set-order")) := by
  refine ⟨⟨_, ho, ⟨rfl, rfl, rfl⟩, rfl⟩, rfl, ⟨List.Pairwise.nil, rfl, rfl, .inl rfl, fun x hx => (nomatch hx), fun i h j hi => (nomatch hi)⟩, List.nodup_nil, fun p hp => (nomatch hp), ?_, (by show 0 * 5 < 7 * 3; decide), (by show 0 < 64; decide)⟩
  cases e : w.params.followText "set-order" with
  | true => exact .inl rfl
  | false => exact .inr rfl
/-- what has been put in of the first i rows -/
structure Took (ks : List Row) (i : Nat) (L : List Row) : Prop where
  sub : ∀ p ∈ L, p ∈ ks
  all : ∀ j p, j < i → ks[j]? = some p → p.2 ∈ L.map (·.2)
theorem Took.none (ks : List Row) : Took ks 0 [] := ⟨fun p h => (nomatch h), fun j p h => absurd h (Nat.not_lt_zero _)⟩
theorem Took.old {ks L : List Row} {i : Nat} {x : Row} (g : Took ks i L) (h : ks[i]? = some x) (m : x.2 ∈ L.map (·.2)) : Took ks (i + 1) L := ⟨g.sub, fun j p hj e => by
  rcases Nat.lt_succ_iff_lt_or_eq.mp hj with z | z
  · exact g.all j p z e
  · rw [z, h] at e; cases e; exact m⟩
theorem Took.new {ks L L' : List Row} {i : Nat} {x : Row} (g : Took ks i L) (h : ks[i]? = some x) (pm : L'.Perm (x :: L)) : Took ks (i + 1) L' := ⟨fun p hp => by
  rcases List.mem_cons.mp (pm.mem_iff.mp hp) with e | e
  · rw [e]; exact List.mem_of_getElem? h
  · exact g.sub p e, fun j p hj e => by
  refine (pm.map (·.2)).mem_iff.mpr ?_
  rcases Nat.lt_succ_iff_lt_or_eq.mp hj with z | z
  · exact List.mem_cons_of_mem _ (g.all j p z e)
  · rw [z, h] at e; cases e; exact List.mem_cons_self⟩
/-- pigeons -/
theorem pigeon {α : Type} : ∀ (l M : List α), l.Nodup → (∀ x ∈ l, x ∈ M) → l.length ≤ M.length
  | [], _, _, _ => Nat.zero_le _
  | x :: l, M, hn, hs => by
    obtain ⟨h1, h2⟩ := List.nodup_cons.mp hn
    obtain ⟨u, v, e⟩ := List.append_of_mem (hs x List.mem_cons_self)
    have ih := pigeon l (u ++ v) h2 fun y hy => by
      have := hs y (List.mem_cons_of_mem _ hy)
      rw [e] at this
      rcases List.mem_append.mp this with z | z
      · exact List.mem_append_left _ z
      · rcases List.mem_cons.mp z with z | z
        · subst z; exact absurd hy h1
        · exact List.mem_append_right _ z
    rw [e]
    simp at ih ⊢
    omega
theorem few_of {ks L : List Row} {M : List NK} (hM : ∀ p ∈ ks, p.2 ∈ M) (few : M.length < 64) {i : Nat} {x : Row} (g : Took ks i L) (hx : x ∈ ks) (nd : (L.map (·.2)).Nodup) : x.2 ∉ L.map (·.2) → L.length + 1 < 64 := fun hn => by
  have := pigeon (x.2 :: L.map (·.2)) M (List.nodup_cons.mpr ⟨hn, nd⟩) fun y hy => by
    rcases List.mem_cons.mp hy with e | e
    · rw [e]; exact hM x hx
    · obtain ⟨p, hp, e⟩ := List.mem_map.mp e
      rw [← e]; exact hM p (g.sub p hp)
  simp at this
  omega
/-- the loop that fills -/
theorem fill_loop {I : Addr} {fp wr : List Addr} {G : Array GenState → Array GenState → Prop} {n : Nat} {Pv : Nat → Value → Prop} {St : Nat → Shared → Prop} {R : Result → Shared → Prop} (W : WalksS P w A.in1 I fp wr G n Pv St) {S : Addr} (hSf : S ∉ fp) {ks : List Row} {M : List NK} (hM : ∀ p ∈ ks, p.2 ∈ M) (few : M.length < 64)
    (hn : n = ks.length) (hv : ∀ i v, Pv i v → ∃ p, ks[i]? = some p ∧ v = .ref p.1) {h0 : Heap} (hk : ∀ p ∈ ks, Ka h0 p.2 p.1) (hS0 : h0.get? S = none) (hw0 : ∀ b ∈ wr, h0.get? b = none) (hu : A.in1.units + 8 < cLine) :
    ∀ (m i : Nat) (s : Shared), n - i = m → i ≤ n → St i s → (∀ b o, h0.get? b = some o → s.heap.get? b = some o) → (∃ L es ep t, SK w s.heap S L es ep t ∧ Took ks i L) →
      (∀ s' L es ep t, Moved (S :: wr) G s s' → SK w s'.heap S L es ep t → Took ks n L → (∀ b o, h0.get? b = some o → s'.heap.get? b = some o) → R (.ok (.ret .none)) s') → codeAny (model P w) A (.builtin "set.update.loop" ⟨[.ref S, .ref I], []⟩) R s := by
  have hSw : S ∉ wr := fun h => hSf (W.sub _ h)
  have wider : ∀ b ∈ wr, b ∈ S :: wr := fun b hb => List.mem_cons_of_mem _ hb
  have stays : ∀ {s s' : Shared}, Moved wr G s s' → (∀ b o, h0.get? b = some o → s.heap.get? b = some o) → ∀ b o, h0.get? b = some o → s'.heap.get? b = some o := fun hm hp b o e =>
    hm.heap b o (fun hb => by rw [hw0 b hb] at e; cases e) (hp b o e)
  intro m
  induction m with
  | zero =>
    intro i s e1 hi hst hp ⟨L, es, ep, t, hS, g⟩ hR
    obtain rfl : i = n := by omega
    refine codeAny_builtin F.entry_set_update_loop ?_
    rw [Around.under_plainId F.plain_set_update_loop _]
    refine wpAny_bind (m := pyNext (.ref I)) (W.done s _ _ hst fun s' hm => ?_)
    have hp' := stays hm hp
    exact wpAny_pure (hR s' L es ep t (hm.mono wider) (hS.keep (fun o e => hm.heap S o hSw e) fun p q => (hk p (g.sub p q)).keep hp') g hp')
  | succ m ih =>
    intro i s e1 hi hst hp ⟨L, es, ep, t, hS, g⟩ hR
    have hlt : i < n := by omega
    refine codeAny_builtin F.entry_set_update_loop ?_
    rw [Around.under_plainId F.plain_set_update_loop _]
    refine wpAny_bind (m := pyNext (.ref I)) (W.item i s _ _ hlt hst fun v s' hP hst' hm => ?_)
    obtain ⟨x, hx, rfl⟩ := hv i v hP
    have hp' := stays hm hp
    have hS' : SK w s'.heap S L es ep t := hS.keep (fun o e => hm.heap S o hSw e) fun p q => (hk p (g.sub p q)).keep hp'
    have hxk : Ka s'.heap x.2 x.1 := (hk x (List.mem_of_getElem? hx)).keep hp'
    show wpAny _ A.in1 (holding [Value.ref x.1] (setAdd S (.ref x.1)) >>= _) _ _ s'
    refine wpAny_bind (wpAny_holding ?_)
    unfold setAdd
    refine wpAny_holding (wpAny_bind (pyHash_key x.2 _ A.in1 s' _ hxk.1 (by have := hxk.2; omega) ?_))
    refine add_key (s := { s' with toks := s'.toks + x.2.draws }) hS' hxk hu (few_of hM few g (List.mem_of_getElem? hx) hS.nd) fun b h' L' es' ep' t' hsb hS2 c1 c2 => ?_
    have g' : Took ks (i + 1) L' := by
      by_cases c : x.2 ∈ L.map (·.2)
      · rw [c1 c]; exact g.old hx c
      · exact g.new hx (c2 c)
    have hp2 : ∀ b o, h0.get? b = some o → h'.get? b = some o := fun b o e => (hsb.2 b (fun z => by rw [z, hS0] at e; cases e)).trans (hp' b o e)
    refine wpAny_pure ⟨plainId_quiet F.plain_set_update_loop _, ih (i + 1) _ (by omega) hlt (W.frame _ s' _ _ hst' (Nat.le_add_right _ _) fun b hb o e => ?_) hp2 ⟨L', es', ep', t', hS2, g'⟩ fun s'' L2 es2 ep2 t2 hm2 hS3 g2 hp3 => ?_⟩
    · exact (hsb.2 b fun z => hSf (z ▸ hb)).trans e
    · refine hR s'' L2 es2 ep2 t2 (Moved.trans W.gtrans ((hm.mono wider).then_heap (Nat.le_add_right _ _) fun b o hb e => ?_) hm2) hS3 g2 hp3
      exact (hsb.2 b fun z => hb (z ▸ List.mem_cons_self)).trans e
/-- set(xs) -/
theorem call_setK {l : Addr} {items : Array Value} {ks : List Row} {M : List NK} (hM : ∀ p ∈ ks, p.2 ∈ M) (few : M.length < 64) {Q : Value → Shared → Prop} (hh : A.handled = none) {T : String} (hTy : T = "list" ∨ T = "tuple") (hl : ∃ o, s.heap.get? l = some o ∧ o.cls = .type T ∧ ∃ n, o.data = .seq items n) (hit : items.toList = ks.map fun p => Value.ref p.1) (hk : ∀ p ∈ ks, Ka s.heap p.2 p.1) (hu : A.units + 16 < cLine)
    (h : ∀ (h' : Heap) (tk : Nat) L es ep t, SK w h' s.heap.objs.size L es ep t → Took ks ks.length L → (∀ b o, s.heap.get? b = some o → h'.get? b = some o) → Q (.ref s.heap.objs.size) { s with heap := h', toks := tk }) : wpAny (model P w) A (call (.type "set") [.ref l]) Q E s := by
  have hisz : items.size = ks.length := by rw [← Array.length_toList, hit, List.length_map]
  obtain ⟨c, tl, hmro⟩ := F.called_set.mro
  have m1 := F.called_set.made
  have m2 := F.called_set.sub
  refine wpAny_call (codeAny_of_tree ?_)
  show wpAny _ _ (callAny (.type "set") _) _ _ _
  refine wpAny_pure ⟨Code.quiet_builtin _ (by decide +kernel), codeAny_builtin F.entry_type_call ?_⟩
  rw [Around.under_plain (weight_type_call_type "set" [.ref l] []) rfl]
  have m3 := F.called_set.notType
  have m4 := F.called_set.canCreate
  have m5 := F.typeCall_set_1 (.ref l)
  repeat (any_goals (first | assumption | wp_step))
  refine codeAny_mono (code_set_led1 (.ref l) (E := E) (Q₁ := fun obj s₁ => obj = .ref s.heap.objs.size ∧ s₁ = { s with heap := s.heap.push (noSet w) }) ⟨rfl, rfl⟩) fun r s₁ hr => ?_
  cases r with
  | error e => exact hr
  | ok fl =>
    cases fl with
    | ret obj =>
      obtain ⟨rfl, rfl⟩ := hr
      have hS : (s.heap.push (noSet w)).get? s.heap.objs.size = some (noSet w) := Heap.get?_push_size _ rfl
      have hT : Shared.TypeIs { s with heap := s.heap.push (noSet w) } (.ref s.heap.objs.size) "set" := ⟨_, hS, rfl⟩
      have i1 := F.called_set.init.lookup
      have i2 := F.called_set.init.bind (.ref s.heap.objs.size)
      repeat (any_goals (first | assumption | wp_step))
      refine codeAny_mono (codeAny_call_builtin (R := wants (fun r s₂ => r = .none ∧ ∃ h' tk L es ep t, s₂ = { s with heap := h', toks := tk } ∧ SK w h' s.heap.objs.size L es ep t ∧ Took ks ks.length L ∧ (∀ b o, s.heap.get? b = some o → h'.get? b = some o)) E) F.called_set.init.plain F.entry_set_init (check_set_init_1 hT ?_)) fun r₂ s₂ hr₂ => ?_
      · obtain ⟨⟨oc, od, dt, osl⟩, hol, hcl, nl, hdl⟩ := hl
        simp only at hcl hdl
        subst hcl hdl
        have hol' : (s.heap.push (noSet w)).get? l = some { cls := .type T, dict := od, data := .seq items nl, slots := osl } := Heap.get?_push_of_some _ hol
        have b1 : isSubtype (.type T) (.type "set") = pure false := by
          rcases hTy with e | e
          · rw [e]; exact F.sub_list_set
          · rw [e]; exact F.sub_tuple_set
        have b2 : isSubtype (.type T) (.type "frozenset") = pure false := by
          rcases hTy with e | e
          · rw [e]; exact F.sub_list_frozenset
          · rw [e]; exact F.sub_tuple_frozenset
        have b3 : (Value.type T == Value.type "dict") = false := by
          rcases hTy with e | e
          · rw [e]; decide
          · rw [e]; decide
        unfold Builtin.«set.__init__» noKeywords Builtin.Frozenset.updateFrom
        generalize hPI : pyIter = PI
        wp_walk
        subst hPI
        have hlS : l < s.heap.objs.size := Heap.lt_size hol
        have hh3 : A.in1.in1.in1.handled = none := by simp [hh]
        have hz : (s.heap.push (noSet w)).objs.size = s.heap.objs.size + 1 := Heap.size_push ..
        have hneI : l ≠ (s.heap.push (noSet w)).objs.size := by rw [hz]; exact Nat.ne_of_lt (Nat.lt_succ_of_lt hlS)
        have hSf : s.heap.objs.size ∉ [(s.heap.push (noSet w)).objs.size, l] := by
          rw [hz]
          simp only [List.mem_cons, List.not_mem_nil, or_false, not_or]
          exact ⟨Nat.ne_of_lt (Nat.lt_succ_self _), Nat.ne_of_gt hlS⟩
        have hval : ∀ (i : Nat) (v : Value), items[i]? = some v → ∃ p, ks[i]? = some p ∧ v = .ref p.1 := fun i v hv => by
          have q : items.toList[i]? = some v := by rw [Array.getElem?_toList]; exact hv
          rw [hit, List.getElem?_map] at q
          cases hq : ks[i]? with
          | none => rw [hq] at q; cases q
          | some p => rw [hq] at q; exact ⟨p, rfl, (Option.some.inj q).symm⟩
        have gone : ∀ b, s.heap.objs.size ≤ b → s.heap.get? b = none := fun b hb => by
          cases q : s.heap.get? b with
          | none => rfl
          | some o => exact absurd (Nat.lt_of_lt_of_le (Heap.lt_size q) hb) (Nat.lt_irrefl _)
        have room3 : A.in1.in1.in1.units + 8 < cLine := by simp only [Around.in1_units]; omega
        have goneW : ∀ b ∈ [(s.heap.push (noSet w)).objs.size], s.heap.get? b = none := fun b hb => gone b (by rw [List.mem_singleton.mp hb, hz]; exact Nat.le_succ _)
        rcases hTy with e | e
        · subst e
          have hl1 : (s.heap.push (noSet w)).IsList l items := ⟨_, hol', rfl, nl, rfl⟩
          refine wpAny_pyIter_list hl1 ?_
          refine wpAny_bind (wpAny_runValue ?_)
          refine fill_loop ((Walks.list hh3 _ l hneI items).toS) hSf hM few hisz hval (h0 := s.heap) hk (gone _ (Nat.le_refl _)) goneW room3 (items.size - 0) 0 _ (by omega) (Nat.zero_le _)
            ⟨⟨_, Heap.get?_push_size _ rfl, rfl, rfl⟩, (hl1.push _)⟩ (fun b o e => Heap.get?_push_of_some _ (Heap.get?_push_of_some _ e)) ⟨[], #[], 0, _, noSet_ok (Heap.get?_push_of_some _ hS), Took.none ks⟩ ?_
          intro s' L es ep t hm hS' g' hkp
          obtain ⟨h', g2, d', tk', os'⟩ := s'
          have eg : g2 = s.gens := hm.gens
          have ed : d' = s.drawn := hm.drawn
          have eo : os' = s.os := hm.os
          subst eg ed eo
          rw [hisz] at g'
          refine wpAny_pure ?_
          exact wpAny_pure ⟨rfl, h', tk', L, es, ep, t, rfl, hS', g', hkp⟩
        · subst e
          have hl1 : (s.heap.push (noSet w)).IsTuple l items := ⟨_, hol', rfl, nl, rfl⟩
          refine wpAny_pyIter_tuple hl1 ?_
          refine wpAny_bind (wpAny_runValue ?_)
          refine fill_loop ((Walks.tuple hh3 _ l hneI items).toS) hSf hM few hisz hval (h0 := s.heap) hk (gone _ (Nat.le_refl _)) goneW room3 (items.size - 0) 0 _ (by omega) (Nat.zero_le _)
            ⟨⟨_, Heap.get?_push_size _ rfl, rfl, rfl⟩, (hl1.push _)⟩ (fun b o e => Heap.get?_push_of_some _ (Heap.get?_push_of_some _ e)) ⟨[], #[], 0, _, noSet_ok (Heap.get?_push_of_some _ hS), Took.none ks⟩ ?_
          intro s' L es ep t hm hS' g' hkp
          obtain ⟨h', g2, d', tk', os'⟩ := s'
          have eg : g2 = s.gens := hm.gens
          have ed : d' = s.drawn := hm.drawn
          have eo : os' = s.os := hm.os
          subst eg ed eo
          rw [hisz] at g'
          refine wpAny_pure ?_
          exact wpAny_pure ⟨rfl, h', tk', L, es, ep, t, rfl, hS', g', hkp⟩
      · cases r₂ with
        | error e => exact hr₂
        | ok fl₂ =>
          cases fl₂ with
          | ret r =>
            obtain ⟨rfl, h', tk, L, es, ep, t, rfl, hS', g', hk'⟩ := hr₂
            repeat (any_goals (first | assumption | wp_step))
            exact h _ _ _ _ _ _ hS' g' hk'
          | _ => exact hr₂.elim
    | _ => exact hr.elim
end
end Ao
set_option Elab.async false
set_option autoImplicit false
set_option linter.all false
set_option maxRecDepth 100000
set_option maxHeartbeats 2000000
namespace Ao
open PySem PySem.Spec PyProof.Rows L2
/-! ### data as keys -/
mutual
def keyD : D → NK
  | .int i => .num i
  | .str x => .text x
  | .tuple ds => .tup (keyDs ds)
  | _ => .none
def keyDs : List D → List NK
  | [] => []
  | d :: ds => keyD d :: keyDs ds
end
mutual
/-- ints, texts and tuples of such -/
def kOk : D → Bool
  | .int _ => true
  | .str _ => true
  | .tuple ds => kOks ds
  | _ => false
def kOks : List D → Bool
  | [] => true
  | d :: ds => kOk d && kOks ds
end
mutual
theorem reads_key {h : Heap} : ∀ (d : D) (v : Value) (as : List Addr), kOk d = true → PySem.Reads h v d as → NestedIs h (keyD d) v
  | .int i, _, _, _, r => by cases r; exact .int _ _
  | .str x, _, _, _, r => by cases r; exact .text _ _
  | .tuple ds, _, _, k, r => by
    cases r with
    | tuple h1 h2 h3 h4 => exact .tup h1 h2 h3 (reads_keys ds _ _ k h4)
  | .none, _, _, k, _ => by cases k
  | .bool _, _, _, k, _ => by cases k
  | .list _, _, _, k, _ => by cases k
  | .dict _, _, _, k, _ => by cases k
theorem reads_keys {h : Heap} : ∀ (ds : List D) (vs : List Value) (as : List Addr), kOks ds = true → PySem.ReadsAll h vs ds as → NestedAll h (keyDs ds) vs
  | [], _, _, _, r => by cases r; exact .nil
  | d :: ds, _, _, k, r => by
    simp only [kOks, Bool.and_eq_true] at k
    cases r with
    | cons h1 h2 => exact .cons (reads_key d _ _ k.1 h1) (reads_keys ds _ _ k.2 h2)
end
mutual
theorem key_inj : ∀ (d e : D), kOk d = true → kOk e = true → keyD d = keyD e → d = e
  | .int i, e, _, k, q => by
    cases e with
    | int j => simp only [keyD, NestedKey.num.injEq] at q; rw [q]
    | str y => simp [keyD] at q
    | tuple es => simp [keyD] at q
    | _ => cases k
  | .str x, e, _, k, q => by
    cases e with
    | int j => simp [keyD] at q
    | str y => simp only [keyD, NestedKey.text.injEq] at q; rw [q]
    | tuple es => simp [keyD] at q
    | _ => cases k
  | .tuple ds, e, k0, k, q => by
    cases e with
    | int j => simp [keyD] at q
    | str y => simp [keyD] at q
    | tuple es => simp only [keyD, NestedKey.tup.injEq] at q; rw [keys_inj ds es k0 k q]
    | _ => cases k
  | .none, _, k, _, _ => by cases k
  | .bool _, _, k, _, _ => by cases k
  | .list _, _, k, _, _ => by cases k
  | .dict _, _, k, _, _ => by cases k
theorem keys_inj : ∀ (ds es : List D), kOks ds = true → kOks es = true → keyDs ds = keyDs es → ds = es
  | [], [], _, _, _ => rfl
  | [], _ :: _, _, _, q => by simp [keyDs] at q
  | _ :: _, [], _, _, q => by simp [keyDs] at q
  | d :: ds, e :: es, k0, k, q => by
    simp only [kOks, Bool.and_eq_true] at k0 k
    simp only [keyDs, List.cons.injEq] at q
    rw [key_inj d e k0.1 k.1 q.1, keys_inj ds es k0.2 k.2 q.2]
end
mutual
theorem key_depth : ∀ d : D, kOk d = true → (keyD d).depth = d.depth
  | .int _, _ => rfl
  | .str _, _ => rfl
  | .tuple ds, k => by
    show NestedKey.depthAll (keyDs ds) + 1 = PyData.depthAll ds + 1
    rw [keys_depth ds k]
  | .none, k => by cases k
  | .bool _, k => by cases k
  | .list _, k => by cases k
  | .dict _, k => by cases k
theorem keys_depth : ∀ ds : List D, kOks ds = true → NestedKey.depthAll (keyDs ds) = PyData.depthAll ds
  | [], _ => rfl
  | d :: ds, k => by
    simp only [kOks, Bool.and_eq_true] at k
    show max (keyD d).depth (NestedKey.depthAll (keyDs ds)) = max d.depth (PyData.depthAll ds)
    rw [key_depth d k.1, keys_depth ds k.2]
end
mutual
theorem reads_nil {h : Heap} : ∀ (d : D) (v : Value) (as : List Addr), kOk d = true → PySem.Reads h v d as → as = []
  | .int i, _, _, _, r => by cases r; rfl
  | .str x, _, _, _, r => by cases r; rfl
  | .tuple ds, _, _, k, r => by
    cases r with
    | tuple h1 h2 h3 h4 => exact readsAll_nil ds _ _ k h4
  | .none, _, _, k, _ => by cases k
  | .bool _, _, _, k, _ => by cases k
  | .list _, _, _, k, _ => by cases k
  | .dict _, _, _, k, _ => by cases k
theorem readsAll_nil {h : Heap} : ∀ (ds : List D) (vs : List Value) (as : List Addr), kOks ds = true → PySem.ReadsAll h vs ds as → as = []
  | [], _, _, _, r => by cases r; rfl
  | d :: ds, _, _, k, r => by
    simp only [kOks, Bool.and_eq_true] at k
    cases r with
    | cons h1 h2 => rw [reads_nil d _ _ k.1 h1, readsAll_nil ds _ _ k.2 h2]; rfl
end
/-! ### sorted(set) -/
abbrev AD := Addr × D
theorem nodup_pw {α β : Type} {f : α → β} {l : List α} (h : (l.map f).Nodup) : l.Pairwise fun x y => f x ≠ f y := List.pairwise_map.mp h
theorem each_refs : ∀ bs : List AD, PySem.W.EachIs (fun v (b : AD) => v = Value.ref b.1) (bs.map fun b => Value.ref b.1) bs
  | [] => .nil
  | b :: bs => .cons rfl (each_refs bs)
theorem each_reads {h : Heap} : ∀ {bs : List AD}, (∀ b ∈ bs, ∃ as, PySem.Reads h (.ref b.1) b.2 as) → PySem.W.EachIs (fun v (b : AD) => ∃ as, PySem.Reads h v b.2 as) (bs.map fun b => Value.ref b.1) bs
  | [], _ => .nil
  | b :: bs, hh => .cons (hh b List.mem_cons_self) (each_reads fun c hc => hh c (List.mem_cons_of_mem _ hc))
theorem refs_each : ∀ {vs : List Value} {bs : List AD}, PySem.W.EachIs (fun v (b : AD) => v = Value.ref b.1) vs bs → vs = bs.map fun b => Value.ref b.1
  | _, _, .nil => rfl
  | _, _, .cons e t => by rw [e, refs_each t]; rfl
theorem sort_asc (bs : List AD) : (bs.mergeSort (PySem.W.dataLe false fun b : AD => b.2)).Pairwise fun x y => PySem.W.dataLt y.2 x.2 = false := by
  have t := PySem.W.sort_pairwise (PySem.W.sortLe_total (PyProof.Rows.listOrd PyProof.Rows.itemOrd) false fun b : AD => PySem.W.keyToks b.2) bs
  refine List.Pairwise.imp (fun {x y} h => ?_) t
  have e : PySem.W.dataLe false (fun b : AD => b.2) x y = true := h
  rw [PySem.W.dataLe_eq] at e
  simpa using e
section
variable {P : Program} {w : World} {A : Around} {E : Value → Shared → Prop} {s : Shared}
/-- one list's sort, the items tuples of alike data -/
theorem sort_body {a : Addr} {bs : List AD} {n : Nat} {F : PySem.Fin → Shared → Prop} (ho : s.heap.get? a = some (seqObj "list" (bs.map fun b => Value.ref b.1).toArray n)) (hr : ∀ b ∈ bs, ∃ as, PySem.Reads s.heap (.ref b.1) b.2 as) (ht : ∀ b ∈ bs, ∃ xs, b.2 = .tuple xs) (hk : ∀ b ∈ bs, kOk b.2 = true)
    (hal : PySem.W.AllAlike (bs.map (·.2))) (hu : ∀ b ∈ bs, A.units + b.2.depth < cLine) (hL : bs.length ≤ sizeLine) (hq : F (.done (.ret .none)) { s with heap := sortedHeap s.heap a (bs.map fun b => Value.ref b.1) ((bs.mergeSort (PySem.W.dataLe false fun b : AD => b.2)).map fun b => Value.ref b.1).toArray }) :
    wpAny (model P w) A (Builtin.«list.sort» ⟨[.ref a], []⟩) F E s := by
  have hr' : ∀ b ∈ bs, ∃ as, PySem.Reads (PySem.W.sortingHeap s.heap a (bs.map fun b => Value.ref b.1)) (.ref b.1) b.2 as := fun b hb => by
    obtain ⟨as, r⟩ := hr b hb
    have self := hal b.2 (List.mem_map.mpr ⟨b, hb, rfl⟩) b.2 (List.mem_map.mpr ⟨b, hb, rfl⟩)
    exact ⟨as, PySem.W.Reads.keepBut (a := a) (fun c o hc e => PySem.W.sortingHeap_old hc e) (fun o e => by rw [ho] at e; cases e; rfl) b.2 _ as self r (by rw [reads_nil _ _ _ (hk b hb) r]; exact List.not_mem_nil)⟩
  have er := each_reads hr'
  have er2 : PySem.W.EachIs (fun v d => ∃ as, PySem.Reads (PySem.W.sortingHeap s.heap a (bs.map fun b => Value.ref b.1)) v d as) (bs.map fun b => Value.ref b.1) (bs.map (·.2)) := PySem.W.each_map (R := fun v d => ∃ as, PySem.Reads (PySem.W.sortingHeap s.heap a (bs.map fun b => Value.ref b.1)) v d as) (fun b : AD => b.2) er
  refine PySem.W.list_sort_vals (κ := PySem.W.dataKind (PySem.W.sortingHeap s.heap a (bs.map fun b => Value.ref b.1)) (bs.map (·.2))) ho (sorts_tups (s := { s with heap := PySem.W.sortingHeap s.heap a (bs.map fun b => Value.ref b.1) }) er2 hal (fun d hd => ?_) (fun d hd => ?_)) (by rw [List.length_map]; exact hL) ?_
  · obtain ⟨b, hb, e⟩ := List.mem_map.mp hd
    rw [← e]; exact ht b hb
  · obtain ⟨b, hb, e⟩ := List.mem_map.mp hd
    rw [← e]; exact hu b hb
  · have := refs_each (PySem.W.sortVals_data (R := fun v (b : AD) => v = Value.ref b.1) (enc := fun b : AD => b.2) false (each_refs bs) er hal)
    rw [this]
    exact hq
end
end Ao
set_option Elab.async false
set_option autoImplicit false
set_option linter.all false
set_option maxRecDepth 100000
set_option maxHeartbeats 2000000
namespace Ao
open PySem PySem.Spec PyProof.Rows L2
section
variable {P : Program} {w : World} {A : Around} {E : Value → Shared → Prop} {s : Shared}
/-- the rows of ps -/
abbrev rowOf (q : AD) : Row := (q.1, keyD q.2)
theorem lift_refs {L : List Row} {ps : List AD} (hL : ∀ p ∈ L, ∃ q ∈ ps, rowOf q = p) : ∀ vs : List Value, (∀ v ∈ vs, ∃ p ∈ L, v = Value.ref p.1) → ∃ bs : List AD, vs = (bs.map fun b => Value.ref b.1) ∧ ∀ b ∈ bs, b ∈ ps ∧ rowOf b ∈ L
  | [], _ => ⟨[], rfl, fun b h => (nomatch h)⟩
  | v :: vs, h => by
    obtain ⟨bs, e, g⟩ := lift_refs hL vs fun u hu => h u (List.mem_cons_of_mem _ hu)
    obtain ⟨p, hp, ev⟩ := h v List.mem_cons_self
    obtain ⟨q, hq, eq⟩ := hL p hp
    refine ⟨q :: bs, by rw [List.map_cons, ← e, ev, ← eq], fun b hb => ?_⟩
    rcases List.mem_cons.mp hb with z | z
    · rw [z]; exact ⟨hq, by rw [eq]; exact hp⟩
    · exact g b z
theorem refs_nodup {h : Heap} {L : List Row} (nd : (L.map (·.2)).Nodup) (key : ∀ p ∈ L, Ka h p.2 p.1) : (L.map fun p => Value.ref p.1).Nodup := by
  refine List.pairwise_map.mpr (List.Pairwise.imp_of_mem (fun {p q} hp hq hne e => hne ?_) (nodup_pw nd))
  have e1 : p.1 = q.1 := Value.ref.inj e
  have k1 := key p hp
  rw [e1] at k1
  exact k1.one (key q hq)
/-- sorted(set) -/
theorem call_sortK {a : Addr} {L : List Row} {es : Array (Int × Value)} {ep : Nat} {t : SetTable} {ps : List AD} {Q : Value → Shared → Prop} (R : SK w s.heap a L es ep t) (hh : A.handled = none) (hL : ∀ p ∈ L, ∃ q ∈ ps, rowOf q = p) (hr : ∀ q ∈ ps, ∃ as, PySem.Reads s.heap (.ref q.1) q.2 as)
    (ht : ∀ q ∈ ps, ∃ xs, q.2 = .tuple xs) (hk : ∀ q ∈ ps, kOk q.2 = true) (hal : PySem.W.AllAlike (ps.map (·.2))) (hu : ∀ q ∈ ps, A.units + 8 + q.2.depth < cLine)
    (hQ : ∀ s' p (out : Array Value) (c : Nat) (zs : List AD), (∀ b o, s.heap.get? b = some o → s'.heap.get? b = some o) → s'.gens = s.gens → s'.os = s.os → s.heap.objs.size ≤ p → s'.heap.get? p = some (seqObj "list" out c) → out.toList = zs.map (fun z => Value.ref z.1) →
      (∀ z ∈ zs, z ∈ ps) → (∀ p ∈ L, ∃ z ∈ zs, keyD z.2 = p.2) → (zs.map (·.2)).Nodup → zs.Pairwise (fun x y => PySem.W.dataLt y.2 x.2 = false) → Q (.ref p) s') : wpAny (model P w) A (call (.builtin "sorted") [.ref a]) Q E s := by
  obtain ⟨o, ho, hex, hd⟩ := R.ob
  have hl := rows_len R.row
  have few := R.few
  refine Calls.call_function_entry kind_sorted plain_sorted entry_sorted (args_sorted1 _) ?_
  unfold Builtin.«sorted»
  refine wpAny_bind (m := checkCount "sorted" 1 1 _) (wpAny_pure ?_)
  refine wpAny_bind (collect_set (A := A.in1) hh ⟨o, ho, hex.1, hd⟩ R.fits (by unfold scanBound; omega) R.tab.ris R.led fun s1 vs k1 hz g1 o1 pm => ?_)
  have hes : es.toList.map (·.2) = L.map fun q => Value.ref q.1 := by
    rw [R.row]
    unfold rows
    rw [List.map_map]
    rfl
  rw [hes] at pm
  obtain ⟨bs, ev, hb⟩ := lift_refs hL vs fun v hv => by
    obtain ⟨p, hp, e⟩ := List.mem_map.mp (pm.mem_iff.mp hv)
    exact ⟨p, hp, e.symm⟩
  subst ev
  have hbl : bs.length = L.length := by
    have := pm.length_eq
    rwa [List.length_map, List.length_map] at this
  have nref := refs_nodup R.nd R.key
  -- the data differ
  have ndv : (bs.map (·.2)).Nodup := by
    have nb := nodup_pw (pm.nodup_iff.mpr nref)
    refine List.pairwise_map.mpr (List.Pairwise.imp_of_mem (fun {x y} hx hy hne e => hne ?_) nb)
    have rx := (hb x hx).2
    have ry := (hb y hy).2
    have e2 : rowOf x = rowOf y := by
      obtain ⟨i, hi, ei⟩ := List.getElem_of_mem rx
      obtain ⟨j, hj, ej⟩ := List.getElem_of_mem ry
      by_cases z : i = j
      · subst z; rw [← ei, ← ej]
      · exfalso
        have hne : (L[i]).2 ≠ (L[j]).2 := by
          rcases Nat.lt_or_gt_of_ne z with z | z
          · exact List.pairwise_iff_getElem.mp (nodup_pw R.nd) i j hi hj z
          · exact (List.pairwise_iff_getElem.mp (nodup_pw R.nd) j i hj hi z).symm
        rw [ei, ej] at hne
        exact hne (congrArg keyD e)
    rw [show x.1 = y.1 from congrArg (fun r : Row => r.1) e2]
  have cover : ∀ p ∈ L, ∃ b ∈ bs, keyD b.2 = p.2 := fun p hp => by
    have m : Value.ref p.1 ∈ bs.map fun b => Value.ref b.1 := pm.mem_iff.mpr (List.mem_map.mpr ⟨p, hp, rfl⟩)
    obtain ⟨b, hbm, e⟩ := List.mem_map.mp m
    have e1 : b.1 = p.1 := Value.ref.inj e
    have kb := R.key _ (hb b hbm).2
    have kp := R.key p hp
    rw [← e1] at kp
    exact ⟨b, hbm, kb.one kp⟩
  refine wpAny_bind (wpAny_newList ?_ (by rw [List.length_map, sizeLine_eq]; omega))
  have hoL : (s1.heap.push (seqObj "list" (bs.map fun b => Value.ref b.1).toArray 0)).get? s1.heap.objs.size = some (seqObj "list" (bs.map fun b => Value.ref b.1).toArray 0) := Heap.get?_push_size _ rfl
  have inn : ∀ b ∈ bs, b ∈ ps := fun b h => (hb b h).1
  refine wpAny_bind (wpAny_holding (wpAny_call_entry slot_list_sort ⟨_, hoL, rfl⟩ entry_list_sort (sort_body (s := { s1 with heap := s1.heap.push (seqObj "list" (bs.map fun b => Value.ref b.1).toArray 0) }) hoL (fun b h => ?_) (fun b h => ht b (inn b h)) (fun b h => hk b (inn b h)) (fun d h d' h' => ?_) (fun b h => ?_) (by rw [sizeLine_eq]; omega) ⟨.none, rfl, ?_⟩) (args_list_sort _)))
  · obtain ⟨as, r⟩ := hr b (inn b h)
    exact ⟨as, PyProof.Rows.Reads.keeps (fun c u e => Heap.get?_push_of_some _ (k1 c u e)) r⟩
  · obtain ⟨b, hbm, e⟩ := List.mem_map.mp h
    obtain ⟨b', hbm', e'⟩ := List.mem_map.mp h'
    exact hal d (List.mem_map.mpr ⟨b, inn b hbm, e⟩) d' (List.mem_map.mpr ⟨b', inn b' hbm', e'⟩)
  · have := hu b (inn b h)
    simp only [Around.in1_units]
    omega
  · obtain ⟨c, hc⟩ := sortedHeap_at (vs := bs.map fun b => Value.ref b.1) (out := ((bs.mergeSort (PySem.W.dataLe false fun b : AD => b.2)).map fun b => Value.ref b.1).toArray) hoL
    have zp := List.mergeSort_perm bs (PySem.W.dataLe false fun b : AD => b.2)
    refine wpAny_pure ⟨_, rfl, hQ _ s1.heap.objs.size _ c (bs.mergeSort (PySem.W.dataLe false fun b : AD => b.2)) (fun b u e => ?_) g1 o1 hz hc rfl (fun z h => inn z (zp.mem_iff.mp h)) (fun p hp => ?_) ((zp.map (·.2)).nodup_iff.mpr ndv) (sort_asc bs)⟩
    · have q := k1 b u e
      have hlt := Heap.lt_size q
      show (sortedHeap (s1.heap.push (seqObj "list" (bs.map fun b => Value.ref b.1).toArray 0)) s1.heap.objs.size _ _).get? b = some u
      rw [sortedHeap_old (Nat.ne_of_lt hlt) (by rw [size_push']; exact Nat.lt_succ_of_lt hlt)]
      exact Heap.get?_push_of_some _ q
    · obtain ⟨b, hbm, e⟩ := cover p hp
      exact ⟨b, zp.mem_iff.mpr hbm, e⟩
/-- sorted(list) -/
theorem call_sortL {l : Addr} {bs : List AD} {Q : Value → Shared → Prop} (hl : s.heap.IsList l (bs.map fun b => Value.ref b.1).toArray) (hr : ∀ b ∈ bs, ∃ as, PySem.Reads s.heap (.ref b.1) b.2 as) (ht : ∀ b ∈ bs, ∃ xs, b.2 = .tuple xs) (hk : ∀ b ∈ bs, kOk b.2 = true) (hal : PySem.W.AllAlike (bs.map (·.2)))
    (hu : ∀ b ∈ bs, A.units + 8 + b.2.depth < cLine) (hz : bs.length ≤ sizeLine) (hQ : ∀ (p : Addr) (zs : List AD) (c : Nat) (h' : Heap), s.heap.objs.size ≤ p → zs.Perm bs → zs.Pairwise (fun x y : AD => PySem.W.dataLt y.2 x.2 = false) → (∀ b o, s.heap.get? b = some o → h'.get? b = some o) → h'.get? p = some (seqObj "list" (zs.map fun b => Value.ref b.1).toArray c) → Q (.ref p) { s with heap := h' }) :
    wpAny (model P w) A (call (.builtin "sorted") [.ref l]) Q E s := by
  refine PySem.W.sorted_of_sort (kw := []) hl (by rw [List.length_map]; exact hz) (args_sorted1 _) (fun _ => args_list_sort _) fun E' => ?_
  refine sort_body (s := { s with heap := PySem.W.copyHeap s.heap (bs.map fun b => Value.ref b.1) }) (n := 0) (PySem.W.copyHeap_at s.heap _) (fun b h => ?_) ht hk hal (fun b h => ?_) hz ⟨rfl, ?_⟩
  · obtain ⟨as, r⟩ := hr b h
    exact ⟨as, PyProof.Rows.Reads.keeps (fun c u e => PySem.W.copyHeap_old e) r⟩
  · have := hu b h
    simp only [Around.in1_units]
    omega
  · obtain ⟨c, hc⟩ := sortedAll_at s.heap (bs.map fun b => Value.ref b.1) ((bs.mergeSort (PySem.W.dataLe false fun b : AD => b.2)).map fun b => Value.ref b.1).toArray
    exact hQ _ _ c _ (Nat.le_succ _) (List.mergeSort_perm bs _) (sort_asc bs) (fun b o e => sortedAll_old e) hc
end
end Ao
set_option Elab.async false
set_option autoImplicit false
set_option linter.all false
set_option maxRecDepth 100000
set_option maxHeartbeats 2000000
namespace Ao
open PySem PySem.Spec PyProof.Rows L2
/-- tuples that can be keys and compared -/
def SrtOk (ds : List D) : Prop := (∀ d ∈ ds, (∃ xs, d = .tuple xs) ∧ kOk d = true ∧ d.depth ≤ 8) ∧ PySem.W.AllAlike ds
/-- sorted(set(xs)): fewer than 64 differ -/
def fSset : F1 := fun x P => ∃ ds, Seq x ds ∧ SrtOk ds ∧ (∃ M : List D, M.length < 64 ∧ ∀ d ∈ ds, d ∈ M) ∧ ∀ zs : List D, (∀ d, d ∈ zs ↔ d ∈ ds) → zs.Nodup → zs.Pairwise (fun x y => PySem.W.dataLt y x = false) → P (.list zs)
/-- sorted(xs) -/
def fSort : F1 := fun x P => ∃ ds, x = .list ds ∧ SrtOk ds ∧ ∀ zs : List D, zs.Perm ds → zs.Pairwise (fun x y => PySem.W.dataLt y x = false) → P (.list zs)
theorem tup_refs {H : Hp} : ∀ {ds : List D} {xs : List V}, DqAll H xs ds → (∀ d ∈ ds, ∃ zs, d = .tuple zs) → ∃ ps : List AD, xs = ps.map (fun p => V.ref p.1) ∧ ds = ps.map (·.2) ∧ ∀ p ∈ ps, Dq H (.ref p.1) p.2
  | [], _, h, _ => by cases h; exact ⟨[], rfl, rfl, fun p h => (nomatch h)⟩
  | d :: ds, _, h, ht => by
    cases h with
    | cons h1 h2 =>
      obtain ⟨ps, e1, e2, e3⟩ := tup_refs h2 fun d hd => ht d (List.mem_cons_of_mem _ hd)
      obtain ⟨zs, rfl⟩ := ht d List.mem_cons_self
      have h0 := h1
      cases h1 with
      | @tup a vs _ q1 q2 =>
        refine ⟨(a, .tuple zs) :: ps, by rw [List.map_cons, ← e1], by rw [List.map_cons, ← e2], fun p hp => ?_⟩
        rcases List.mem_cons.mp hp with z | z
        · rw [z]; exact h0
        · exact e3 p z
theorem vals_refs : ∀ {ps : List AD} {us : List Value}, Vals (ps.map fun p => V.ref p.1) us → us = ps.map fun p => Value.ref p.1
  | [], _, .nil => rfl
  | p :: ps, _, .cons r t => by
    cases r
    rw [vals_refs t]
    rfl
theorem refs_vals : ∀ ps : List AD, Vals (ps.map fun p => V.ref p.1) (ps.map fun p => Value.ref p.1)
  | [] => .nil
  | p :: ps => .cons rfl (refs_vals ps)
theorem dqs_of {H : Hp} : ∀ {zs : List AD}, (∀ z ∈ zs, Dq H (.ref z.1) z.2) → DqAll H (zs.map fun z => V.ref z.1) (zs.map (·.2))
  | [], _ => .nil
  | z :: zs, h => .cons (h z List.mem_cons_self) (dqs_of fun y hy => h y (List.mem_cons_of_mem _ hy))
theorem perm_lift : ∀ {ps zs : List AD}, zs.Perm ps → (zs.map (·.2)).Perm (ps.map (·.2)) := fun h => h.map _
section
variable {X : Cx} {j : Nat} {a : Expr} {T : TD} {p p2 q pos : Pos}
theorem de_sset (hr : Room j X.A) (hg : Gl X "sorted") (hm : X.mg "sorted" = none) (hg2 : Gl X "set") (hm2 : X.mg "set" = none) (ha : PE X a (lf T)) (hc : X.calm = true := by rfl) (na : starEach [a] X.env = (false, eval a X.env) :: starEach [] X.env := by rfl) :
    PE X (.Call (.Name "sorted" p) [.Call (.Name "set" p2) [a] [] q] [] pos) (lf (dB fSset T)) := by
  refine ⟨fun pins s σ H Q I ⟨F, G, ρ, R, k, h, fo⟩ => ?_⟩
  refine Call_ (ld_blt I hg hm PyProof.Rows.boot_sorted ?_)
  refine PyProof.Rows.callWith_builtin1 (PyProof.Rows.args_cons ?_ rfl) rfl rfl
  refine Call_ (ld_blt I hg2 hm2 PyProof.Rows.boot_set ?_)
  have he := ha.run pins s σ H (fun v H1 => ∃ d, fSset d R ∧ Step F H H1 ∧ FeedOk F H1 ∧ Dq (hide H1 G) v d) I ⟨F, G, ρ, _, k, h, fun d v H1 p1 st fd r => ⟨d, p1, st, fd, r⟩⟩
  refine PyProof.Rows.callWith_type1 (PyProof.Rows.args_cons (thn he fun v s1 ⟨x, H1, I1, r1, d, p1, st, fd, r⟩ => PyProof.Rows.args_nil ?_) na) na rfl
  obtain ⟨ds, hsq, ⟨so, al⟩, ⟨M, few, hM⟩, fin⟩ := p1
  have core : ∃ (l : Addr) (xs : List V) (Ty : String) (its : List Value), x = .ref l ∧ DqAll (hide H1 G) xs ds ∧ (Ty = "list" ∨ Ty = "tuple") ∧ Vals xs its ∧ ∃ o, s1.heap.get? l = some o ∧ o.cls = .type Ty ∧ ∃ n, o.data = .seq its.toArray n := by
    rcases hsq with e | e
    · subst e
      cases r with
      | @lst l xs _ hl hx =>
        obtain ⟨its, rv, pl, _⟩ := I1.list (show SqL X.K H1 l xs from .inl (.inl (hide_get hl).1))
        obtain ⟨o, ho, hcl, n, hd⟩ := pl.isList
        exact ⟨l, xs, "list", its, rfl, hx, .inl rfl, rv, o, ho, hcl, n, hd⟩
    · subst e
      cases r with
      | @tup l xs _ hl hx =>
        obtain ⟨its, rv, pl, _⟩ := I1.tuple (show SqT X.K H1 l xs from .inl (.inl (hide_get hl).1))
        have htup : s1.heap.IsTuple l its.toArray := pl
        obtain ⟨o, ho, hcl, n, hd⟩ := htup
        exact ⟨l, xs, "tuple", its, rfl, hx, .inr rfl, rv, o, ho, hcl, n, hd⟩
  obtain ⟨l, xs, Ty, its, rfl, hx, hTy, rv, hobj⟩ := core
  · cases r1
    obtain ⟨ps, e1, e2, e3⟩ := tup_refs hx fun d hd => (so d hd).1
    subst e1 e2
    have eits := vals_refs rv
    subst eits
    have mem : ∀ q ∈ ps, q.2 ∈ ps.map (·.2) := fun q hq => List.mem_map.mpr ⟨q, hq, rfl⟩
    have rd : ∀ q ∈ ps, ∃ as, PySem.Reads s1.heap (.ref q.1) q.2 as := fun q hq => Dp.reads I1 q.2 (.ref q.1) (.ref q.1) (Dq.dp _ _ (dq_up (e3 q hq))) rfl
    have key : ∀ q ∈ ps, Ka s1.heap (keyD q.2) q.1 := fun q hq => by
      obtain ⟨as, r⟩ := rd q hq
      have o := so q.2 (mem q hq)
      exact ⟨reads_key _ _ _ o.2.1 r, by rw [key_depth _ o.2.1]; exact o.2.2⟩
    have hu := Room.u65 hr
    refine call_setK (P := X.prog) (w := X.w) (ks := ps.map rowOf) (M := M.map keyD) (fun p hp => ?_) (by rw [List.length_map]; exact few) (I1.ok.hd hc) hTy hobj (by simp) (fun p hp => ?_) (by omega) fun h' tk L es ep t R' g keep => ?_
    · obtain ⟨q, hq, e⟩ := List.mem_map.mp hp
      rw [← e]
      exact List.mem_map.mpr ⟨q.2, hM _ (mem q hq), rfl⟩
    · obtain ⟨q, hq, e⟩ := List.mem_map.mp hp
      rw [← e]
      exact key q hq
    · have I2 : Inv X pins σ H1 { s1 with heap := h', toks := tk } := I1.kept keep
      refine PyProof.Rows.args_nil ?_
      refine call_sortK (s := { s1 with heap := h', toks := tk }) (ps := ps) R' (I1.ok.hd hc) (fun p hp => ?_) (fun q hq => ?_) (fun q hq => (so _ (mem q hq)).1) (fun q hq => (so _ (mem q hq)).2.1) al (fun q hq => ?_) fun s' p out c zs kp gg oo hp hg ho inn cov nd asc => ?_
      · obtain ⟨q, hq, e⟩ := List.mem_map.mp (g.sub p hp)
        exact ⟨q, hq, e⟩
      · obtain ⟨as, r⟩ := rd q hq
        exact ⟨as, PyProof.Rows.Reads.keeps keep r⟩
      · have := (so _ (mem q hq)).2.2
        omega
      · have hzl : zs.length ≤ sizeLine := by
          have h1 := pigeon (zs.map (·.2)) M nd fun d hd => by
            obtain ⟨z, hz, e⟩ := List.mem_map.mp hd
            rw [← e]
            exact hM _ (mem z (inn z hz))
          rw [List.length_map] at h1
          rw [sizeLine_eq]
          omega
        have nH : H1 p = none := I2.hok.fresh hp
        have J : Inv X pins σ (upd H1 p (.lst (zs.map fun z => V.ref z.1))) { ({ s1 with heap := h', toks := tk } : Shared) with heap := s'.heap, gens := s'.gens, drawn := s'.drawn, toks := s'.toks } :=
          Inv.call (s := { s1 with heap := h', toks := tk }) I2 (ch := []) (Un.laid kp hp nH) (I2.hok.laid kp hp ⟨by rw [List.length_map]; exact hzl, out.toList, c, by rw [ho]; exact refs_vals zs, by simpa [seqObj] using hg⟩) (by rw [gg]; exact I1.bare) (fun _ z => nomatch z)
        have es' : s' = { s1 with heap := s'.heap, gens := s'.gens, drawn := s'.drawn, toks := s'.toks } := by
          cases s'
          cases s1
          cases oo
          rfl
        rw [es']
        refine ⟨.ref p, _, J, rfl, ?_⟩
        have k1 := k.step st fd
        refine fol_lst k1 (fo.step st) (fin (zs.map (·.2)) (fun d => ⟨fun hd => ?_, fun hd => ?_⟩) nd ?_) (dqs_of fun z hz => e3 z (inn z hz)) nH
        · obtain ⟨z, hz, e⟩ := List.mem_map.mp hd
          rw [← e]
          exact mem z (inn z hz)
        · obtain ⟨q, hq, e⟩ := List.mem_map.mp hd
          obtain ⟨i, hi, ei⟩ := List.getElem_of_mem hq
          have hg1 := g.all i (rowOf q) (by rw [List.length_map]; exact hi) (by rw [List.getElem?_map, List.getElem?_eq_getElem hi, ei]; rfl)
          obtain ⟨pr, hpr, epr⟩ := List.mem_map.mp hg1
          obtain ⟨z, hz, ez⟩ := cov pr hpr
          have : z.2 = q.2 := key_inj _ _ (so _ (mem z (inn z hz))).2.1 (so _ (mem q hq)).2.1 (ez.trans epr)
          exact List.mem_map.mpr ⟨z, hz, this.trans e⟩
        · exact List.pairwise_map.mpr asc
theorem de_sort (hr : Room j X.A) (hg : Gl X "sorted") (hm : X.mg "sorted" = none) (ha : PE X a (lf T)) (hc : X.calm = true := by rfl) (na : starEach [a] X.env = (false, eval a X.env) :: starEach [] X.env := by rfl) :
    PE X (.Call (.Name "sorted" p) [a] [] pos) (lf (dB fSort T)) := by
  refine ⟨fun pins s σ H Q I ⟨F, G, ρ, R, k, h, fo⟩ => ?_⟩
  refine Call_ (ld_blt I hg hm PyProof.Rows.boot_sorted ?_)
  have he := ha.run pins s σ H (fun v H1 => ∃ d, fSort d R ∧ Step F H H1 ∧ FeedOk F H1 ∧ Dq (hide H1 G) v d) I ⟨F, G, ρ, _, k, h, fun d v H1 p1 st fd r => ⟨d, p1, st, fd, r⟩⟩
  refine PyProof.Rows.callWith_builtin1 (PyProof.Rows.args_cons (thn he fun v s1 ⟨x, H1, I1, r1, d, p1, st, fd, r⟩ => PyProof.Rows.args_nil ?_) na) na rfl
  obtain ⟨ds, rfl, ⟨so, al⟩, fin⟩ := p1
  cases r with
  | @lst l xs _ hl hx =>
    cases r1
    obtain ⟨ps, e1, e2, e3⟩ := tup_refs hx fun d hd => (so d hd).1
    subst e1 e2
    have SL : SqL X.K H1 l (ps.map fun p => V.ref p.1) := .inl (.inl (hide_get hl).1)
    obtain ⟨its, rv, pl, hz⟩ := I1.list SL
    have eits := vals_refs rv
    subst eits
    have mem : ∀ q ∈ ps, q.2 ∈ ps.map (·.2) := fun q hq => List.mem_map.mpr ⟨q, hq, rfl⟩
    have rd : ∀ q ∈ ps, ∃ as, PySem.Reads s1.heap (.ref q.1) q.2 as := fun q hq => Dp.reads I1 q.2 (.ref q.1) (.ref q.1) (Dq.dp _ _ (dq_up (e3 q hq))) rfl
    have hu := Room.u65 hr
    have hzl : ps.length ≤ sizeLine := by rw [List.length_map] at hz; exact hz
    refine call_sortL (P := X.prog) (w := X.w) (bs := ps) pl.isList rd (fun q hq => (so _ (mem q hq)).1) (fun q hq => (so _ (mem q hq)).2.1) al (fun q hq => ?_) hzl fun p zs c h' hp pm asc keep hg => ?_
    · have := (so _ (mem q hq)).2.2
      omega
    · have nH : H1 p = none := I1.hok.fresh hp
      have J : Inv X pins σ (upd H1 p (.lst (zs.map fun z => V.ref z.1))) { s1 with heap := h' } :=
        I1.laid (t' := s1.toks) keep hp ⟨by rw [List.length_map, pm.length_eq]; exact hzl, _, c, refs_vals zs, hg⟩
      refine ⟨.ref p, _, J, rfl, ?_⟩
      have k1 := k.step st fd
      exact fol_lst k1 (fo.step st) (fin (zs.map (·.2)) (pm.map (·.2)) (List.pairwise_map.mpr asc)) (dqs_of fun z hz => e3 z (pm.mem_iff.mp hz)) nH
end
end Ao
set_option Elab.async false
set_option autoImplicit false
set_option linter.all false
set_option maxRecDepth 100000
set_option maxHeartbeats 2000000
namespace Ao
open PySem PySem.Spec PyProof.Rows L2
/-! ### repr, where no repr is under way -/
def fRepr : F1 := fun x P => (∃ b, x = .bool b ∧ P (.str (PyData.shown x))) ∨ ((∃ ds, Seq x ds) ∧ PyData.showable x = true ∧ PyData.hasDict x = false ∧ x.depth ≤ 60 ∧ (PyData.shown x).length ≤ 1000000 ∧ P (.str (PyData.shown x)))
theorem call_reprD {X : Cx} (hG : X.A.guards = some []) (hu : X.A.units + 65 < cLine) : CallR X (.builtin "repr") (fun xs H Q => ∃ x d, xs = [x] ∧ Dp X.K H x d ∧ ((∃ b, d = .bool b) ∨ ((∃ a, x = .ref a) ∧ PyData.showable d = true ∧ PyData.hasDict d = false ∧ d.depth ≤ 60 ∧ (PyData.shown d).length ≤ 1000000)) ∧ Q (.str (PyData.shown d)) H) := by
  intro pins s σ H vs us Q I r h
  obtain ⟨x, d, rfl, hd, hc, q⟩ := h
  cases r with
  | cons r rr =>
    cases rr
    rename_i u
    rcases hc with ⟨b, rfl⟩ | ⟨⟨a, rfl⟩, h1, h2, h3, h4⟩
    · cases hd
      cases r
      exact PySem.P.repr_of_bool ⟨.str _, H, I.tok _, ⟨_, by rw [PyData.shown_bool]⟩, q⟩
    · obtain ⟨as, rd⟩ := Dp.reads I d _ _ hd r
      cases r
      exact repr_of_reads' rd h1 (fun z => by rw [h2] at z; cases z) hG (by omega) (fun _ _ e => e) (fun h' u tk hk => ⟨.str _, H, I.kept (t' := tk) hk, ⟨u, rfl⟩, q⟩) (Nat.le_trans h4 (by decide))
theorem r_repr {K : AK} : R1Ok (fun xs H Q => ∃ x d, xs = [x] ∧ Dp K H x d ∧ ((∃ b, d = .bool b) ∨ ((∃ a, x = .ref a) ∧ PyData.showable d = true ∧ PyData.hasDict d = false ∧ d.depth ≤ 60 ∧ (PyData.shown d).length ≤ 1000000)) ∧ Q (.str (PyData.shown d)) H) fRepr := fun F G H σ ρ x d P Q k hx h fo => by
  have hdp : Dp K H x d := Dq.dp d x (dq_up hx)
  rcases h with ⟨b, e, p⟩ | ⟨⟨ds, e⟩, h1, h2, h3, h4, p⟩
  · exact ⟨x, d, rfl, hdp, .inl ⟨b, e⟩, fol_here fo k.feed p (.str _)⟩
  · refine ⟨x, d, rfl, hdp, .inr ⟨?_, h1, h2, h3, h4⟩, fol_here fo k.feed p (.str _)⟩
    rcases e with e | e
    · subst e; cases hx with | lst _ _ => exact ⟨_, rfl⟩
    · subst e; cases hx with | tup _ _ => exact ⟨_, rfl⟩
theorem de_repr {X : Cx} {j : Nat} {e : Expr} {T : TD} {p pos : Pos} (hG : X.A.guards = some []) (hr : Room j X.A) (hg : Gl X "repr") (hm : X.mg "repr" = none) (ha : PE X e (lf T)) (hs : starEach [e] X.env = (false, eval e X.env) :: starEach [] X.env := by rfl) (hpl : (backTo pos (starEach [] X.env)).any (·.1) = false := by rfl) :
    PE X (.Call (.Name "repr" p) [e] [] pos) (lf (dB fRepr T)) := de_b r_repr (call_reprD hG (Room.u65 hr)) hg hm (by decide +kernel) ha (hs := hs) (hpl := hpl)
def fEqS : F2 := fun x y P => ∃ a b, x = .str a ∧ y = .str b ∧ P (.bool (a == b))
theorem r_eqS : R2Ok rEq fEqS := fun F G H σ ρ x y d e P Q k hx hy ⟨a, b, e1, e2, p⟩ fo => by
  subst e1 e2
  cases hx; cases hy
  refine ⟨rfl, ?_⟩
  have ed : decide (V.str a = V.str b) = (a == b) := by
    rw [Bool.eq_iff_iff]
    simp
  rw [ed]
  exact fol_here fo k.feed p (.bl _)
/-! ### defs that know that no repr is under way -/
structure FnG (P : Program) (w : World) (K : AK) (mg : Str → Option Value) (base : Heap) (k : Nat) (f : Addr) (fd : FuncData) (ps : List Str) (sp : Sp) : Prop where
  len : ∀ vs H Q E, sp vs H Q E → vs.length = ps.length
  run : ∀ (A : Around) (outer : List Env) (s : Shared) (H : Hp) (args : Args) (us : List Value) (vs : List V) (Q : VK) (E : XK), A.guards = some [] → Room k A → Env0 P w K mg base A outer s H → BindsTo s fd args (ps.zip us) → Vals vs us → sp vs H Q E →
    codeAny (model P w) A (.call (.ref f) args) (CR CX0 outer P w H s Q E) s
theorem FnG.mono {P : Program} {w : World} {K : AK} {mg : Str → Option Value} {base : Heap} {j k : Nat} {f : Addr} {fd : FuncData} {ps : List Str} {sp : Sp} (F : FnG P w K mg base j f fd ps sp) (h : j ≤ k) : FnG P w K mg base k f fd ps sp :=
  ⟨F.len, fun A outer s H args us vs Q E hg hr => F.run A outer s H args us vs Q E hg (hr.mono h)⟩
section
variable {P : Program} {w : World} {K : AK} {mg : Str → Option Value} {base : Heap} {x qual : Str} {params : Arguments} {body : List Stmt} {scope : Scope} {dvs : List V} {kws : List (Str × V)} {f : Addr} {fd : FuncData}
theorem FunD.okG {N ps : List Str} {k : Nat} {sp : Sp} (F : FunD K x qual params body scope dvs kws f fd) (S : FnScope N ps scope) (len : ∀ vs H Q E, sp vs H Q E → vs.length = ps.length)
    (hbody : ∀ (cdv : Value) (A : Around) (outer : List Env) (s : Shared) (H : Hp) (vs : List V) (Q : VK) (E : XK), A.guards = some [] → Room k (A.deeper (envOfC qual scope s.heap.objs.size f cdv)) → sp vs H Q E →
      ∃ t, PSs (cxOf CX0 P w K mg base N qual scope f cdv A outer s H E) body t ∧ t { nx := fun _ H' => Q .non H', rt := Q } (L2.start N vs) H) : FnG P w K mg base (k + 1) f fd ps sp := by
  obtain ⟨oc, od, dV, kV, doc, pm, an, cdv, ct, osl, rfl, lk, hcd, _, _⟩ := F.ex
  refine ⟨len, fun A outer s H args us vs Q E hgd hr e0 hb r hsp => ?_⟩
  have KX : K.In s.heap := e0.mod.kin.keeps fun b o e => (e0.bs b o e).1
  have lim : s.heap.NoLimit := e0.mod.nolimit.keeps fun b o e => (e0.bs b o e).1
  have kinds : ∀ y ∈ ps.zip us, scope.names.lookup y.1 = some .local ∨ (scope.names.lookup y.1 = some .cell ∧ ((cellsFrom (s.heap.objs.size + 1) scope.names []).lookup y.1).isSome = true) := fun ⟨n, v⟩ hy => by
    rcases S.par n (List.of_mem_zip hy).1 with z | z
    · exact .inl z
    · exact .inr ⟨z, PySem.W.cellsFrom_some _ _ _ (.inl z)⟩
  refine codeAny_call_function hr.depth (KX _ _ lk) rfl S.co S.gen rfl (PySem.W.codeRec_of KX hcd) (hb _ _ _ _ ?_)
  refine wpAny_newFunctionEnv_cells S.kind kinds fun env he s1 ic => ?_
  subst he
  refine ⟨lim.keeps ic.toInCall.keep, codeAny_func ?_⟩
  obtain ⟨t, ht, hq⟩ := hbody cdv A outer s H vs Q E hgd (hr.deeper _) hsp
  have I := inv_start (CX := CX0) (E := E) (cd := cdv) (qual := qual) (f := f) S hr.hd e0 (len _ _ _ _ hsp) r ic
  refine wpAny_mono (ht.run [] s1 (L2.start N vs) H _ I hq) (fun fl s' hs => ?_) fun _ _ z => z
  cases fl with
  | ret u =>
    obtain ⟨v, σ', H', J, rv, q⟩ := hs
    exact ⟨v, H', J.os, J.bare, J.base, J.hok, rv, q⟩
  | next =>
    obtain ⟨σ', H', J, q⟩ := hs
    exact ⟨.non, H', J.os, J.bare, J.base, J.hok, rfl, q⟩
  | brk => obtain ⟨_, _, _, q⟩ := hs; exact q.elim
  | cont => obtain ⟨_, _, _, q⟩ := hs; exact q.elim
theorem fn_deepG {N ps : List Str} {lev k : Nat} {sp : DSp} {T : DS} (Fu : FunD K x qual params body scope dvs kws f fd) (S : FnScope N ps scope) (hlen : ∀ ss P, sp ss P → ss.length = ps.length)
    (hb : ∀ (cdv : Value) (A : Around) (outer : List Env) (s : Shared) (H : Hp) (E : XK), A.guards = some [] → Room lev (A.deeper (envOfC qual scope s.heap.objs.size f cdv)) → PSs (cxOf CX0 P w K mg base N qual scope f cdv A outer s H E).nox body (ls k T))
    (hT : ∀ ss Q, sp ss Q → T { nx := fun _ _ => Q .none, rt := Q } (startS N.length ss) none) : FnG P w K mg base (lev + 1) f fd ps (lsp sp) := by
  refine FunD.okG Fu S (fun vs H Q E ⟨F, G, ss, R, _, _, _, r, h, _⟩ => r.len.trans (hlen ss R h)) fun cdv A outer s H vs Q E hgd hr ⟨F, G, ss, R, gF, sub, fe, r, h, fo⟩ => ⟨ls k T, PSs.nox (hb cdv A outer s H E hgd hr), ?_⟩
  refine ⟨F, G, H, startS N.length ss, none, _, ⟨gF, sub, fe, Step.refl F H, fe, start_rel r, fun a ds e => nomatch e⟩, hT ss R h, ⟨fun ρ acc σ H' s' a' p => ?_, fun _ _ _ _ _ _ z => z.elim, fun _ _ _ _ _ _ z => z.elim, fun d v H' st f1 rv p => fo d v H' p st f1 rv⟩⟩
  exact fo .none .non H' p s'.step s'.feed .non
end
/-- such a def, called -/
structure CalG (P : Program) (w : World) (K : AK) (mg : Str → Option Value) (base : Heap) (x : Str) (k : Nat) (sp : DSp) (dd : List SV) : Prop where
  ex : ∃ (f : Addr) (fd : FuncData) (ps : List Str) (dvs : List V) (ds : List Value), FnG P w K mg base k f fd ps (lsp sp) ∧ mg x = some (.ref f) ∧ PySem.W.keepIn K (.ref f) = true ∧ Binds K fd ps ds ∧ Vals dvs ds ∧ ∀ F H, SAll F H dvs dd
theorem de_cG {X : Cx} {k j : Nat} {sp : DSp} {dd : List SV} {e : Expr} {es : List Expr} {U : TL} {x : Str} {p pos : Pos} (hG : X.A.guards = some []) (c : CalG X.prog X.w X.K X.mg X.base x k sp dd) (hr : Room j X.A) (hg : Gl X x) (ha : PA X (e :: es) (la U)) (hk : k ≤ j := by decide) (hdb : (x == ("__debug__" : Str)) = false := by decide)
    (he : starEach (e :: es) X.env = (false, eval e X.env) :: starEach es X.env := by rfl) (hpl : (backTo pos (starEach es X.env)).any (·.1) = false := by rfl) : PE X (.Call (.Name x p) (e :: es) [] pos) (lf (dCall sp dd U)) := by
  obtain ⟨f, fd, ps, dvs, ds, Fn, hm, kp, hb, hd, hdd⟩ := c.ex
  refine ⟨fun pins s σ H Q I ⟨F, G, ρ, P, k, q, fo⟩ => ?_⟩
  refine wpAny_Call_Name_kw (ld_glob I hg hm ?_ hdb)
  have run := ha.run pos pins s σ H (fun vs H1 => ∃ ss, sp (ss ++ dd) P ∧ Step F H H1 ∧ FeedOk F H1 ∧ SAll F (hide H1 G) vs ss) I ⟨F, G, ρ, _, k, q, fun ss vs H1 p1 st fd r => ⟨ss, p1, st, fd, r⟩⟩
  refine PySem.W.callWith_K (h₀ := X.base) I.ok.mod.kin kp (thn run fun us s1 ⟨vs, H1, I1, r1, ss, p1, st, fd, rr⟩ => ⟨I1.kIn, ?_⟩) he hpl
  have k1 := k.step st fd
  have hsp : lsp sp (vs ++ dvs) H1 Q E0 := ⟨F, G, ss ++ dd, P, k.gf, k1.sub, fd, rr.app (hdd F _), p1, fo.step st⟩
  have r2 : Vals (vs ++ dvs) (us ++ ds) := r1.append hd
  have hl : (us ++ ds).length = ps.length := by rw [← r2.length]; exact Fn.len _ _ _ _ hsp
  refine wpAny_call (codeAny_mono (Fn.run X.A X.stack s1 H1 ⟨us, []⟩ (us ++ ds) (vs ++ dvs) Q E0 hG (hr.mono hk) I1.env0 (hb s1 us I1.kIn hl) r2 hsp) fun rs s' hq => ?_)
  cases rs with
  | error e => exact pass0 pins σ H1 s1 e s' I1 hq
  | ok fl =>
    cases fl with
    | ret u => exact I1.after hq
    | next => exact False.elim hq
    | brk => exact False.elim hq
    | cont => exact False.elim hq
end Ao
set_option Elab.async false
set_option linter.all false
set_option maxRecDepth 100000
set_option maxHeartbeats 0
namespace Ao
open PySem PySem.Spec PyProof.Rows L2
def top (i : Nat) : Stmt := PySem.Challenge.pw_actasone_k63_whole_own_lots_and_odds.main.body.getD i (.Pass ⟨0, 0, 0, 0⟩)

abbrev s_within_in : Stmt := top 2
abbrev s_joint_in : Stmt := top 4
abbrev s_houses_in : Stmt := top 5
abbrev s_lots_of : Stmt := top 7
abbrev s_fears_of : Stmt := top 8
abbrev s_is_within : Stmt := top 9
abbrev s_less_by : Stmt := top 10
abbrev s_least_of : Stmt := top 11
abbrev s_greatest_of : Stmt := top 12
abbrev s_is_safe_by : Stmt := top 13
abbrev s_safe_by : Stmt := top 14
abbrev s_falls_by : Stmt := top 15
abbrev s_pairs_in : Stmt := top 16
abbrev s_lot_at : Stmt := top 17
abbrev s_odds_by : Stmt := top 18
abbrev s_all_odds_by : Stmt := top 19
abbrev s_needs_by : Stmt := top 20
abbrev s_first_missed_by : Stmt := top 21
abbrev s_is_met : Stmt := top 22
abbrev s_is_integer : Stmt := top 27
abbrev s_is_number : Stmt := top 28
abbrev s_is_index : Stmt := top 29
abbrev s_is_among : Stmt := top 30
abbrev s_is_name : Stmt := top 31
abbrev s_is_tuple_of : Stmt := top 32
abbrev s_is_pair : Stmt := top 33
abbrev s_are_rising : Stmt := top 34
abbrev s_is_names : Stmt := top 35
abbrev s_is_names_among : Stmt := top 36
abbrev s_are_sets_among : Stmt := top 37
abbrev s_are_indexes : Stmt := top 38
abbrev s_are_numbers : Stmt := top 39
abbrev s_machine_fault : Stmt := top 40
abbrev s_is_triple_from : Stmt := top 41
abbrev s_trust_fault : Stmt := top 42
abbrev s_order_fault : Stmt := top 44
abbrev s_gaps_by : Stmt := top 45
abbrev s_triangle_fault : Stmt := top 47
abbrev s_clocks_fault : Stmt := top 48
abbrev s_rules_fault : Stmt := top 54
abbrev s_parts_fault : Stmt := top 55
abbrev s_is_trust : Stmt := top 56
abbrev s_is_book : Stmt := top 57
abbrev s_is_house_of : Stmt := top 59
abbrev s_are_houses_of : Stmt := top 60
abbrev s_is_pair_of : Stmt := top 61
abbrev s_want : Stmt := top 67
abbrev s_want_book : Stmt := top 68
abbrev s_want_age : Stmt := top 69
abbrev s_want_trust : Stmt := top 71
abbrev s_want_house : Stmt := top 72
abbrev s_want_lot : Stmt := top 73
abbrev s_want_pair : Stmt := top 74
abbrev s_odds_fall : Stmt := top 76
abbrev s_all_odds : Stmt := top 77
abbrev s_meets_needs : Stmt := top 79
abbrev s_odds_faults : Stmt := top 114
abbrev s_looking_faults : Stmt := top 115
abbrev s_waking_faults : Stmt := top 116
abbrev s_faults_by : Stmt := top 117
abbrev s_odds_in_fall : Stmt := top 118
abbrev s_faults_by_fall : Stmt := top 120
abbrev s_is_as_one : Stmt := top 122
abbrev s_faults_of : Stmt := top 123
abbrev s_first_fault : Stmt := top 124
abbrev s_faults_in : Stmt := top 125
abbrev s__law_feed : Stmt := top 127
abbrev s__law_draw : Stmt := top 128
abbrev s__law_any : Stmt := top 129
abbrev s__law_same : Stmt := top 130
abbrev s__law_within : Stmt := top 131
abbrev s__law_less : Stmt := top 132
abbrev s__law_subsets : Stmt := top 133
abbrev s__law_guild : Stmt := top 134
abbrev s__law_safe : Stmt := top 135
abbrev s__law_safes : Stmt := top 136
abbrev s__law_minimal : Stmt := top 137
abbrev s__law_needs : Stmt := top 138
abbrev s__law_meets : Stmt := top 139
abbrev s__law_all_pairs : Stmt := top 140
abbrev s__law_odds : Stmt := top 141
abbrev s__law_motor : Stmt := top 142
abbrev s__law_are_falls_right : Stmt := top 143
abbrev s__law_own_right : Stmt := top 144
abbrev s__law_in_fall : Stmt := top 145
abbrev s__law_right : Stmt := top 146
abbrev s_law : Stmt := top 147

def d_within_in : He.DefD := ⟨("within_in", none), "within_in", "within_in", defArgs s_within_in, defBody s_within_in, defScope s_within_in, [], []⟩
def d_joint_in : He.DefD := ⟨("joint_in", none), "joint_in", "joint_in", defArgs s_joint_in, defBody s_joint_in, defScope s_joint_in, [], []⟩
def d_houses_in : He.DefD := ⟨("houses_in", none), "houses_in", "houses_in", defArgs s_houses_in, defBody s_houses_in, defScope s_houses_in, [], []⟩
def d_lots_of : He.DefD := ⟨("lots_of", none), "lots_of", "lots_of", defArgs s_lots_of, defBody s_lots_of, defScope s_lots_of, [], []⟩
def d_fears_of : He.DefD := ⟨("fears_of", none), "fears_of", "fears_of", defArgs s_fears_of, defBody s_fears_of, defScope s_fears_of, [], []⟩
def d_is_within : He.DefD := ⟨("is_within", none), "is_within", "is_within", defArgs s_is_within, defBody s_is_within, defScope s_is_within, [], []⟩
def d_less_by : He.DefD := ⟨("less_by", none), "less_by", "less_by", defArgs s_less_by, defBody s_less_by, defScope s_less_by, [], []⟩
def d_least_of : He.DefD := ⟨("least_of", none), "least_of", "least_of", defArgs s_least_of, defBody s_least_of, defScope s_least_of, [], []⟩
def d_greatest_of : He.DefD := ⟨("greatest_of", none), "greatest_of", "greatest_of", defArgs s_greatest_of, defBody s_greatest_of, defScope s_greatest_of, [], []⟩
def d_is_safe_by : He.DefD := ⟨("is_safe_by", none), "is_safe_by", "is_safe_by", defArgs s_is_safe_by, defBody s_is_safe_by, defScope s_is_safe_by, [], []⟩
def d_safe_by : He.DefD := ⟨("safe_by", none), "safe_by", "safe_by", defArgs s_safe_by, defBody s_safe_by, defScope s_safe_by, [], []⟩
def d_falls_by : He.DefD := ⟨("falls_by", none), "falls_by", "falls_by", defArgs s_falls_by, defBody s_falls_by, defScope s_falls_by, [], []⟩
def d_pairs_in : He.DefD := ⟨("pairs_in", none), "pairs_in", "pairs_in", defArgs s_pairs_in, defBody s_pairs_in, defScope s_pairs_in, [], []⟩
def d_lot_at : He.DefD := ⟨("lot_at", none), "lot_at", "lot_at", defArgs s_lot_at, defBody s_lot_at, defScope s_lot_at, [], []⟩
def d_odds_by : He.DefD := ⟨("odds_by", none), "odds_by", "odds_by", defArgs s_odds_by, defBody s_odds_by, defScope s_odds_by, [], []⟩
def d_all_odds_by : He.DefD := ⟨("all_odds_by", none), "all_odds_by", "all_odds_by", defArgs s_all_odds_by, defBody s_all_odds_by, defScope s_all_odds_by, [], []⟩
def d_needs_by : He.DefD := ⟨("needs_by", none), "needs_by", "needs_by", defArgs s_needs_by, defBody s_needs_by, defScope s_needs_by, [], []⟩
def d_first_missed_by : He.DefD := ⟨("first_missed_by", none), "first_missed_by", "first_missed_by", defArgs s_first_missed_by, defBody s_first_missed_by, defScope s_first_missed_by, [], []⟩
def d_is_met : He.DefD := ⟨("is_met", none), "is_met", "is_met", defArgs s_is_met, defBody s_is_met, defScope s_is_met, [], []⟩
def d_is_integer : He.DefD := ⟨("is_integer", none), "is_integer", "is_integer", defArgs s_is_integer, defBody s_is_integer, defScope s_is_integer, [], []⟩
def d_is_number : He.DefD := ⟨("is_number", none), "is_number", "is_number", defArgs s_is_number, defBody s_is_number, defScope s_is_number, [], []⟩
def d_is_index : He.DefD := ⟨("is_index", none), "is_index", "is_index", defArgs s_is_index, defBody s_is_index, defScope s_is_index, [], []⟩
def d_is_among : He.DefD := ⟨("is_among", none), "is_among", "is_among", defArgs s_is_among, defBody s_is_among, defScope s_is_among, [], []⟩
def d_is_name : He.DefD := ⟨("is_name", none), "is_name", "is_name", defArgs s_is_name, defBody s_is_name, defScope s_is_name, [], []⟩
def d_is_tuple_of : He.DefD := ⟨("is_tuple_of", none), "is_tuple_of", "is_tuple_of", defArgs s_is_tuple_of, defBody s_is_tuple_of, defScope s_is_tuple_of, [], []⟩
def d_is_pair : He.DefD := ⟨("is_pair", none), "is_pair", "is_pair", defArgs s_is_pair, defBody s_is_pair, defScope s_is_pair, [], []⟩
def d_are_rising : He.DefD := ⟨("are_rising", none), "are_rising", "are_rising", defArgs s_are_rising, defBody s_are_rising, defScope s_are_rising, [], []⟩
def d_is_names : He.DefD := ⟨("is_names", none), "is_names", "is_names", defArgs s_is_names, defBody s_is_names, defScope s_is_names, [], []⟩
def d_is_names_among : He.DefD := ⟨("is_names_among", none), "is_names_among", "is_names_among", defArgs s_is_names_among, defBody s_is_names_among, defScope s_is_names_among, [], []⟩
def d_are_sets_among : He.DefD := ⟨("are_sets_among", none), "are_sets_among", "are_sets_among", defArgs s_are_sets_among, defBody s_are_sets_among, defScope s_are_sets_among, [], []⟩
def d_are_indexes : He.DefD := ⟨("are_indexes", none), "are_indexes", "are_indexes", defArgs s_are_indexes, defBody s_are_indexes, defScope s_are_indexes, [], []⟩
def d_are_numbers : He.DefD := ⟨("are_numbers", none), "are_numbers", "are_numbers", defArgs s_are_numbers, defBody s_are_numbers, defScope s_are_numbers, [], []⟩
def d_machine_fault : He.DefD := ⟨("machine_fault", none), "machine_fault", "machine_fault", defArgs s_machine_fault, defBody s_machine_fault, defScope s_machine_fault, [], []⟩
def d_is_triple_from : He.DefD := ⟨("is_triple_from", none), "is_triple_from", "is_triple_from", defArgs s_is_triple_from, defBody s_is_triple_from, defScope s_is_triple_from, [], []⟩
def d_trust_fault : He.DefD := ⟨("trust_fault", none), "trust_fault", "trust_fault", defArgs s_trust_fault, defBody s_trust_fault, defScope s_trust_fault, [], []⟩
def d_order_fault : He.DefD := ⟨("order_fault", none), "order_fault", "order_fault", defArgs s_order_fault, defBody s_order_fault, defScope s_order_fault, [], []⟩
def d_gaps_by : He.DefD := ⟨("gaps_by", none), "gaps_by", "gaps_by", defArgs s_gaps_by, defBody s_gaps_by, defScope s_gaps_by, [], []⟩
def d_triangle_fault : He.DefD := ⟨("triangle_fault", none), "triangle_fault", "triangle_fault", defArgs s_triangle_fault, defBody s_triangle_fault, defScope s_triangle_fault, [], []⟩
def d_clocks_fault : He.DefD := ⟨("clocks_fault", none), "clocks_fault", "clocks_fault", defArgs s_clocks_fault, defBody s_clocks_fault, defScope s_clocks_fault, [], []⟩
def d_rules_fault : He.DefD := ⟨("rules_fault", none), "rules_fault", "rules_fault", defArgs s_rules_fault, defBody s_rules_fault, defScope s_rules_fault, [], []⟩
def d_parts_fault : He.DefD := ⟨("parts_fault", none), "parts_fault", "parts_fault", defArgs s_parts_fault, defBody s_parts_fault, defScope s_parts_fault, [], []⟩
def d_is_trust : He.DefD := ⟨("is_trust", none), "is_trust", "is_trust", defArgs s_is_trust, defBody s_is_trust, defScope s_is_trust, [], []⟩
def d_is_book : He.DefD := ⟨("is_book", none), "is_book", "is_book", defArgs s_is_book, defBody s_is_book, defScope s_is_book, [], []⟩
def d_is_house_of : He.DefD := ⟨("is_house_of", none), "is_house_of", "is_house_of", defArgs s_is_house_of, defBody s_is_house_of, defScope s_is_house_of, [], []⟩
def d_are_houses_of : He.DefD := ⟨("are_houses_of", none), "are_houses_of", "are_houses_of", defArgs s_are_houses_of, defBody s_are_houses_of, defScope s_are_houses_of, [], []⟩
def d_is_pair_of : He.DefD := ⟨("is_pair_of", none), "is_pair_of", "is_pair_of", defArgs s_is_pair_of, defBody s_is_pair_of, defScope s_is_pair_of, [], []⟩
def d_want : He.DefD := ⟨("want", none), "want", "want", defArgs s_want, defBody s_want, defScope s_want, [.int (-1)], []⟩
def d_want_book : He.DefD := ⟨("want_book", none), "want_book", "want_book", defArgs s_want_book, defBody s_want_book, defScope s_want_book, [.str "book"], []⟩
def d_want_age : He.DefD := ⟨("want_age", none), "want_age", "want_age", defArgs s_want_age, defBody s_want_age, defScope s_want_age, [], []⟩
def d_want_trust : He.DefD := ⟨("want_trust", none), "want_trust", "want_trust", defArgs s_want_trust, defBody s_want_trust, defScope s_want_trust, [.str "trust"], []⟩
def d_want_house : He.DefD := ⟨("want_house", none), "want_house", "want_house", defArgs s_want_house, defBody s_want_house, defScope s_want_house, [.str "house"], []⟩
def d_want_lot : He.DefD := ⟨("want_lot", none), "want_lot", "want_lot", defArgs s_want_lot, defBody s_want_lot, defScope s_want_lot, [.str "lot"], []⟩
def d_want_pair : He.DefD := ⟨("want_pair", none), "want_pair", "want_pair", defArgs s_want_pair, defBody s_want_pair, defScope s_want_pair, [], []⟩
def d_odds_fall : He.DefD := ⟨("odds_fall", none), "odds_fall", "odds_fall", defArgs s_odds_fall, defBody s_odds_fall, defScope s_odds_fall, [], []⟩
def d_all_odds : He.DefD := ⟨("all_odds", none), "all_odds", "all_odds", defArgs s_all_odds, defBody s_all_odds, defScope s_all_odds, [], []⟩
def d_meets_needs : He.DefD := ⟨("meets_needs", none), "meets_needs", "meets_needs", defArgs s_meets_needs, defBody s_meets_needs, defScope s_meets_needs, [], []⟩
def d_odds_faults : He.DefD := ⟨("odds_faults", none), "odds_faults", "odds_faults", defArgs s_odds_faults, defBody s_odds_faults, defScope s_odds_faults, [], []⟩
def d_looking_faults : He.DefD := ⟨("looking_faults", none), "looking_faults", "looking_faults", defArgs s_looking_faults, defBody s_looking_faults, defScope s_looking_faults, [], []⟩
def d_waking_faults : He.DefD := ⟨("waking_faults", none), "waking_faults", "waking_faults", defArgs s_waking_faults, defBody s_waking_faults, defScope s_waking_faults, [], []⟩
def d_faults_by : He.DefD := ⟨("faults_by", none), "faults_by", "faults_by", defArgs s_faults_by, defBody s_faults_by, defScope s_faults_by, [], []⟩
def d_odds_in_fall : He.DefD := ⟨("odds_in_fall", none), "odds_in_fall", "odds_in_fall", defArgs s_odds_in_fall, defBody s_odds_in_fall, defScope s_odds_in_fall, [], []⟩
def d_faults_by_fall : He.DefD := ⟨("faults_by_fall", none), "faults_by_fall", "faults_by_fall", defArgs s_faults_by_fall, defBody s_faults_by_fall, defScope s_faults_by_fall, [], []⟩
def d_is_as_one : He.DefD := ⟨("is_as_one", none), "is_as_one", "is_as_one", defArgs s_is_as_one, defBody s_is_as_one, defScope s_is_as_one, [], [("age", .int (0))]⟩
def d_faults_of : He.DefD := ⟨("faults_of", none), "faults_of", "faults_of", defArgs s_faults_of, defBody s_faults_of, defScope s_faults_of, [], [("age", .int (0))]⟩
def d_first_fault : He.DefD := ⟨("first_fault", none), "first_fault", "first_fault", defArgs s_first_fault, defBody s_first_fault, defScope s_first_fault, [], [("age", .int (0))]⟩
def d_faults_in : He.DefD := ⟨("faults_in", none), "faults_in", "faults_in", defArgs s_faults_in, defBody s_faults_in, defScope s_faults_in, [], []⟩
def d__law_feed : He.DefD := ⟨("_law_feed", none), "_law_feed", "_law_feed", defArgs s__law_feed, defBody s__law_feed, defScope s__law_feed, [], []⟩
def d__law_draw : He.DefD := ⟨("_law_draw", none), "_law_draw", "_law_draw", defArgs s__law_draw, defBody s__law_draw, defScope s__law_draw, [], []⟩
def d__law_any : He.DefD := ⟨("_law_any", none), "_law_any", "_law_any", defArgs s__law_any, defBody s__law_any, defScope s__law_any, [], []⟩
def d__law_same : He.DefD := ⟨("_law_same", none), "_law_same", "_law_same", defArgs s__law_same, defBody s__law_same, defScope s__law_same, [], []⟩
def d__law_within : He.DefD := ⟨("_law_within", none), "_law_within", "_law_within", defArgs s__law_within, defBody s__law_within, defScope s__law_within, [], []⟩
def d__law_less : He.DefD := ⟨("_law_less", none), "_law_less", "_law_less", defArgs s__law_less, defBody s__law_less, defScope s__law_less, [], []⟩
def d__law_subsets : He.DefD := ⟨("_law_subsets", none), "_law_subsets", "_law_subsets", defArgs s__law_subsets, defBody s__law_subsets, defScope s__law_subsets, [], []⟩
def d__law_guild : He.DefD := ⟨("_law_guild", none), "_law_guild", "_law_guild", defArgs s__law_guild, defBody s__law_guild, defScope s__law_guild, [], []⟩
def d__law_safe : He.DefD := ⟨("_law_safe", none), "_law_safe", "_law_safe", defArgs s__law_safe, defBody s__law_safe, defScope s__law_safe, [], []⟩
def d__law_safes : He.DefD := ⟨("_law_safes", none), "_law_safes", "_law_safes", defArgs s__law_safes, defBody s__law_safes, defScope s__law_safes, [], []⟩
def d__law_minimal : He.DefD := ⟨("_law_minimal", none), "_law_minimal", "_law_minimal", defArgs s__law_minimal, defBody s__law_minimal, defScope s__law_minimal, [], []⟩
def d__law_needs : He.DefD := ⟨("_law_needs", none), "_law_needs", "_law_needs", defArgs s__law_needs, defBody s__law_needs, defScope s__law_needs, [], []⟩
def d__law_meets : He.DefD := ⟨("_law_meets", none), "_law_meets", "_law_meets", defArgs s__law_meets, defBody s__law_meets, defScope s__law_meets, [], []⟩
def d__law_all_pairs : He.DefD := ⟨("_law_all_pairs", none), "_law_all_pairs", "_law_all_pairs", defArgs s__law_all_pairs, defBody s__law_all_pairs, defScope s__law_all_pairs, [], []⟩
def d__law_odds : He.DefD := ⟨("_law_odds", none), "_law_odds", "_law_odds", defArgs s__law_odds, defBody s__law_odds, defScope s__law_odds, [], []⟩
def d__law_motor : He.DefD := ⟨("_law_motor", none), "_law_motor", "_law_motor", defArgs s__law_motor, defBody s__law_motor, defScope s__law_motor, [], []⟩
def d__law_are_falls_right : He.DefD := ⟨("_law_are_falls_right", none), "_law_are_falls_right", "_law_are_falls_right", defArgs s__law_are_falls_right, defBody s__law_are_falls_right, defScope s__law_are_falls_right, [], []⟩
def d__law_own_right : He.DefD := ⟨("_law_own_right", none), "_law_own_right", "_law_own_right", defArgs s__law_own_right, defBody s__law_own_right, defScope s__law_own_right, [], []⟩
def d__law_in_fall : He.DefD := ⟨("_law_in_fall", none), "_law_in_fall", "_law_in_fall", defArgs s__law_in_fall, defBody s__law_in_fall, defScope s__law_in_fall, [], []⟩
def d__law_right : He.DefD := ⟨("_law_right", none), "_law_right", "_law_right", defArgs s__law_right, defBody s__law_right, defScope s__law_right, [], []⟩
def d_law : He.DefD := ⟨("law", none), "law", "law", defArgs s_law, defBody s_law, defScope s_law, [], []⟩
def fn0 : List He.DefD := [d_within_in, d_joint_in, d_houses_in, d_lots_of, d_fears_of, d_is_within, d_less_by, d_least_of, d_greatest_of, d_is_safe_by, d_safe_by, d_falls_by, d_pairs_in, d_lot_at, d_odds_by, d_all_odds_by, d_needs_by, d_first_missed_by, d_is_met, d_is_integer, d_is_number, d_is_index, d_is_among, d_is_name, d_is_tuple_of]
def fn1 : List He.DefD := [d_is_pair, d_are_rising, d_is_names, d_is_names_among, d_are_sets_among, d_are_indexes, d_are_numbers, d_machine_fault, d_is_triple_from, d_trust_fault, d_order_fault, d_gaps_by, d_triangle_fault, d_clocks_fault, d_rules_fault, d_parts_fault, d_is_trust, d_is_book, d_is_house_of, d_are_houses_of, d_is_pair_of, d_want, d_want_book, d_want_age, d_want_trust]
def fn2 : List He.DefD := [d_want_house, d_want_lot, d_want_pair, d_odds_fall, d_all_odds, d_meets_needs, d_odds_faults, d_looking_faults, d_waking_faults, d_faults_by, d_odds_in_fall, d_faults_by_fall, d_is_as_one, d_faults_of, d_first_fault, d_faults_in, d__law_feed, d__law_draw, d__law_any, d__law_same, d__law_within, d__law_less, d__law_subsets, d__law_guild, d__law_safe]
def fn3 : List He.DefD := [d__law_safes, d__law_minimal, d__law_needs, d__law_meets, d__law_all_pairs, d__law_odds, d__law_motor, d__law_are_falls_right, d__law_own_right, d__law_in_fall, d__law_right, d_law]
def fn : List He.DefD := fn0 ++ (fn1 ++ (fn2 ++ (fn3)))
def fa0 : List He.Fa := [.str "ALPHABET" "abcdefghijklmnopqrstuvwxyz", .int "MOST_SIGNS" (8), .str "ANY" "any", .str "AT_ODDS" "odds", .str "LOOKING" "looking", .str "WAKING" "waking", .free "any", .free "all", .free "tuple", .free "sorted", .free "set", .free "len", .free "isinstance", .free "enumerate", .free "range", .free "zip", .free "str", .free "int", .free "bool", .free "repr", .free "dict", .free "list", .glo "CopyError", .glo "BookError", .glo "NotUsable"]
def fa1 : List He.Fa := [.glo "within_in", .glo "joint_in", .glo "houses_in", .glo "lots_of", .glo "fears_of", .glo "is_within", .glo "less_by", .glo "least_of", .glo "greatest_of", .glo "is_safe_by", .glo "safe_by", .glo "falls_by", .glo "pairs_in", .glo "lot_at", .glo "odds_by", .glo "all_odds_by", .glo "needs_by", .glo "first_missed_by", .glo "is_met", .glo "is_integer", .glo "is_number", .glo "is_index", .glo "is_among", .glo "is_name", .glo "is_tuple_of"]
def fa2 : List He.Fa := [.glo "is_pair", .glo "are_rising", .glo "is_names", .glo "is_names_among", .glo "are_sets_among", .glo "are_indexes", .glo "are_numbers", .glo "machine_fault", .glo "is_triple_from", .glo "trust_fault", .glo "order_fault", .glo "gaps_by", .glo "triangle_fault", .glo "clocks_fault", .glo "rules_fault", .glo "parts_fault", .glo "is_trust", .glo "is_book", .glo "is_house_of", .glo "are_houses_of", .glo "is_pair_of", .glo "want", .glo "want_book", .glo "want_age", .glo "want_trust"]
def fa3 : List He.Fa := [.glo "want_house", .glo "want_lot", .glo "want_pair", .glo "odds_fall", .glo "all_odds", .glo "meets_needs", .glo "odds_faults", .glo "looking_faults", .glo "waking_faults", .glo "faults_by", .glo "odds_in_fall", .glo "faults_by_fall", .glo "is_as_one", .glo "faults_of", .glo "first_fault", .glo "faults_in", .glo "_law_feed", .glo "_law_draw", .glo "_law_any", .glo "_law_same", .glo "_law_within", .glo "_law_less", .glo "_law_subsets", .glo "_law_guild", .glo "_law_safe"]
def fa4 : List He.Fa := [.glo "_law_safes", .glo "_law_minimal", .glo "_law_needs", .glo "_law_meets", .glo "_law_all_pairs", .glo "_law_odds", .glo "_law_motor", .glo "_law_are_falls_right", .glo "_law_own_right", .glo "_law_in_fall", .glo "_law_right", .glo "law"]
def fa : List He.Fa := fa0 ++ (fa1 ++ (fa2 ++ (fa3 ++ (fa4))))
def nm0 : List PySem.Str := ["within_in", "joint_in", "houses_in", "lots_of", "fears_of", "is_within", "less_by", "least_of", "greatest_of", "is_safe_by", "safe_by", "falls_by", "pairs_in", "lot_at", "odds_by", "all_odds_by", "needs_by", "first_missed_by", "is_met", "is_integer", "is_number", "is_index", "is_among", "is_name", "is_tuple_of", "is_pair", "are_rising", "is_names", "is_names_among", "are_sets_among"]
def nm1 : List PySem.Str := ["are_indexes", "are_numbers", "machine_fault", "is_triple_from", "trust_fault", "order_fault", "gaps_by", "triangle_fault", "clocks_fault", "rules_fault", "parts_fault", "is_trust", "is_book", "is_house_of", "are_houses_of", "is_pair_of", "want", "want_book", "want_age", "want_trust", "want_house", "want_lot", "want_pair", "odds_fall", "all_odds", "meets_needs", "odds_faults", "looking_faults", "waking_faults", "faults_by"]
def nm2 : List PySem.Str := ["odds_in_fall", "faults_by_fall", "is_as_one", "faults_of", "first_fault", "faults_in", "_law_feed", "_law_draw", "_law_any", "_law_same", "_law_within", "_law_less", "_law_subsets", "_law_guild", "_law_safe", "_law_safes", "_law_minimal", "_law_needs", "_law_meets", "_law_all_pairs", "_law_odds", "_law_motor", "_law_are_falls_right", "_law_own_right", "_law_in_fall", "_law_right", "law"]
def nms : List PySem.Str := nm0 ++ (nm1 ++ (nm2))
def lo0 : List PySem.Str := ["meets_in", "within_in", "less_in", "joint_in", "houses_in", "lots_of", "fears_of", "is_within", "less_by", "least_of", "greatest_of", "is_safe_by", "safe_by", "falls_by", "pairs_in", "lot_at", "odds_by", "all_odds_by", "needs_by", "first_missed_by", "is_met", "ALPHABET", "MOST_SIGNS", "ANY", "is_integer", "is_number", "is_index", "is_among", "is_name", "is_tuple_of"]
def lo1 : List PySem.Str := ["is_pair", "are_rising", "is_names", "is_names_among", "are_sets_among", "are_indexes", "are_numbers", "machine_fault", "is_triple_from", "trust_fault", "is_gap", "order_fault", "gaps_by", "is_triangle", "triangle_fault", "clocks_fault", "are_promises", "is_looking", "is_waking", "is_looking_of", "is_waking_of", "rules_fault", "parts_fault", "is_trust", "is_book", "is_house_of", "are_houses_of", "is_pair_of", "CopyError", "BookError"]
def lo2 : List PySem.Str := ["NotUsable", "want", "want_book", "want_age", "want_trust", "want_house", "want_lot", "want_pair", "odds_fall", "all_odds", "meets_needs", "gap_in", "lasts_in", "answer_in", "rows_from", "rows_in", "answers_in", "least_of_equal", "led_by", "classes_in", "is_one_class", "least_settling", "least_many_in", "unlike_from", "kept_within", "longest_from", "least_age_in", "moves_in", "lasting_in", "caught_in"]
def lo3 : List PySem.Str := ["moving_in", "lacks_in", "looks_by", "is_waking_right_in", "AT_ODDS", "LOOKING", "WAKING", "odds_faults", "looking_faults", "waking_faults", "faults_by", "odds_in_fall", "lacks_in_fall", "faults_by_fall", "is_as_one", "faults_of", "first_fault", "faults_in", "_law_feed", "_law_draw", "_law_any", "_law_same", "_law_within", "_law_less", "_law_subsets", "_law_guild", "_law_safe", "_law_safes", "_law_minimal", "_law_needs"]
def lo4 : List PySem.Str := ["_law_meets", "_law_all_pairs", "_law_odds", "_law_motor", "_law_are_falls_right", "_law_own_right", "_law_in_fall", "_law_right"]
def loose : List PySem.Str := lo0 ++ (lo1 ++ (lo2 ++ (lo3 ++ (lo4))))

/-! ### an own Hook: the defs' objects alone -/
def defAddrs (g : Addr → Option Obj) (K0 : PySem.W.Frag) (x : Str) : List Addr := match g (He.ga K0 x) with
  | some ⟨_, _, .func fd, _⟩ => He.ga K0 x :: (He.refV fd.code ++ (He.refV fd.defaults ++ He.refV fd.kwdefaults))
  | _ => []
def asX (ns : List Str) (g : Addr → Option Obj) : List Addr := mainGlobals :: ns.flatMap (defAddrs g (He.frG g [mainGlobals]))
def obsX (ns : List Str) (fa : List He.Fa) (fn : List He.DefD) (g : Addr → Option Obj) : He.AlD := He.obsD fa fn (He.frG g (asX ns g))
def hookX (ns : List Str) (fa : List He.Fa) (fn : List He.DefD) : PySem.W.Hook where
  α := He.AlD
  obs := fun s => obsX ns fa fn s.heap.get?
  val := fun _ => He.valD fn
  says := fun _ h => ∃ K : PySem.W.Frag, K.In h ∧ He.SaysD fa fn K
  of := fun _ _ e => ⟨_, He.frG_in, e⟩
  keeps := fun _ _ _ ⟨K, hK, c⟩ k => ⟨K, PySem.W.Frag.In.keeps hK k, c⟩
theorem obsX_eq {ns : List Str} {fa : List He.Fa} {fn : List He.DefD} {g : Addr → Option Obj} {s : Shared} (h : ∀ a, g a = s.heap.get? a) : obsX ns fa fn g = (hookX ns fa fn).obs s := by
  have e : g = s.heap.get? := funext h
  rw [e] <;> rfl
abbrev R : PySem.W.OpenRow := PySem.W.OpenLaw.row PySem.Challenge.rw_actasone_k63_whole_own_lots_and_odds
abbrev hk : PySem.W.Hook := hookX nms fa fn
def ob (s : PySem.W.SharedT) : He.AlD := obsX nms fa fn (HandSHeadRun.getT s)
theorem ob_eq (s : PySem.W.SharedT) : ob s = hk.obs s.abs := obsX_eq (HandSHeadRun.getT_eq s)
theorem run (w : World) : HandSHeadRun.RunEq R (PySem.W.view R.prog [147]) hk ob 6000 loose w := by
  intro os
  kernel_rfl
end Ao
set_option Elab.async false
set_option autoImplicit false
set_option linter.all false
set_option maxRecDepth 100000
set_option maxHeartbeats 1000000
namespace Ao
open PySem PySem.Spec PyProof.Rows L2
/-- what the head tells -/
structure Cf (K : AK) (mg : Str → Option Value) : Prop where
  ex : ∃ h : Heap, K.In h ∧ h.Ns mainGlobals mg
  c : He.SaysD fa fn K
section
variable {P : Program} {w : World} {K : AK} {mg : Str → Option Value} {base : Heap}
theorem Cf.free (c : Cf K mg) (i : Nat) {x : Str} (h : fa[i]? = some (.free x) := by rfl) : mg x = none := by
  obtain ⟨hp, X, G⟩ := c.ex
  exact He.free_ok X G (c.c.fact i h)
theorem Cf.str (c : Cf K mg) (i : Nat) {x z : Str} (h : fa[i]? = some (.str x z) := by rfl) : ∃ t, mg x = some (.str z t) := by
  obtain ⟨hp, X, G⟩ := c.ex
  exact He.str_ok X G (c.c.fact i h)
theorem Cf.int (c : Cf K mg) (i : Nat) {x : Str} {n : Int} (h : fa[i]? = some (.int x n) := by rfl) : ∃ t, mg x = some (.int n t) := by
  obtain ⟨hp, X, G⟩ := c.ex
  exact He.int_ok X G (c.c.fact i h)
theorem Cf.glo (c : Cf K mg) (i : Nat) {x : Str} (h : fa[i]? = some (.glo x) := by rfl) : mg x = some (.ref (He.ga K x)) := by
  obtain ⟨hp, X, G⟩ := c.ex
  exact He.glo_ok X G (c.c.fact i h)
/-- a def without defaults -/
theorem mk_cal {sp : DSp} {T : DS} {N ps : List Str} {lev k : Nat} (c : Cf K mg) (i j : Nat) {x qual : Str} {params : Arguments} {body : List Stmt} {scope : Scope} (hd : fn[i]? = some ⟨(x, none), x, qual, params, body, scope, [], []⟩) (hj : fa[j]? = some (.glo x))
    (hbd : ∀ (kV doc pm : Value) (an : Option Addr) (cdv ct : Value) (us : List Value), us.length = ps.length → bindArgs (PySem.W.fnOf x qual params body scope .none kV doc pm an cdv ct) ⟨us, []⟩ = pure (ps.zip us))
    (S : FnScope N ps scope) (hlen : ∀ ss P, sp ss P → ss.length = ps.length)
    (hb : ∀ (f : Addr) (cdv : Value) (A : Around) (outer : List Env) (s : Shared) (H : Hp) (E : XK), Room lev (A.deeper (envOfC qual scope s.heap.objs.size f cdv)) → PSs (cxOf CX0 P w K mg base N qual scope f cdv A outer s H E).nox body (ls k T))
    (hT : ∀ ss Q, sp ss Q → T { nx := fun _ _ => Q .none, rt := Q } (startS N.length ss) none) : CalD P w K mg base x (lev + 1) sp [] := by
  obtain ⟨fd, Fu⟩ := c.c.def_ i hd
  exact ⟨_, fd, ps, [], [], fn_deep Fu S hlen (hb _) hT, c.glo j hj, Fu.kp, FunD.bindsN Fu hbd, .nil, fun _ _ => .nil⟩
end
end Ao
set_option Elab.async false
set_option autoImplicit false
set_option linter.all false
set_option maxRecDepth 100000
set_option maxHeartbeats 1000000
namespace Ao
open PySem PySem.Spec PyProof.Rows L2
section
variable {P : Program} {w : World} {K : AK} {mg : Str → Option Value} {base : Heap}
def N_within_in : List Str := ["one", "other", "name"]
theorem sc_within_in : FnScope N_within_in ["one", "other"] (defScope s_within_in) := ⟨rfl, rfl, rfl, by decide +kernel, rfl, by decide +kernel, by decide +kernel⟩
def T_within_in  : DS := dRet 99 (dB fAll (dLc (iSeq (dN 0)) (gN 2) (bYes) (d2 fIn (dN 2) (dN 1)) [2]))
theorem b_within_in (c : Cf K mg)  (f : Addr) (cdv : Value) (A : Around) (outer : List Env) (s : Shared) (H : Hp) (E : XK) (hr : Room 0 (A.deeper (envOfC "within_in" (defScope s_within_in) s.heap.objs.size f cdv))) :
    PSs (cxOf CX0 P w K mg base N_within_in "within_in" (defScope s_within_in) f cdv A outer s H E).nox (defBody s_within_in) (ls 99 (T_within_in )) :=
  dss_one (ds_ret (de_b r_all (cr_all (by rfl)) (by rfl) (c.free 7) (by rfl) (de_lc sc_within_in.nd (di_seq (de_n 0)) (blkOk_by (own := [("name", 2)]) (by kernel_rfl)) (fun _ _ _ _ _ => dg_n 2 sc_within_in.nd) (fun _ _ _ _ _ => dts_nil) (fun _ _ _ _ _ => de_cmp r_in (op_inS (Room.u65 hr)) (de_n 2) (de_n 1) rfl))))
def N_joint_in : List Str := ["one", "other", "name"]
theorem sc_joint_in : FnScope N_joint_in ["one", "other"] (defScope s_joint_in) := ⟨rfl, rfl, rfl, by decide +kernel, rfl, by decide +kernel, by decide +kernel⟩
def T_joint_in  : DS := dRet 99 (dB fTuple (dLc (iSeq (dN 0)) (gN 2) (tb (d2 fIn (dN 2) (dN 1))) (dN 2) [2]))
theorem b_joint_in (c : Cf K mg)  (f : Addr) (cdv : Value) (A : Around) (outer : List Env) (s : Shared) (H : Hp) (E : XK) (hr : Room 0 (A.deeper (envOfC "joint_in" (defScope s_joint_in) s.heap.objs.size f cdv))) :
    PSs (cxOf CX0 P w K mg base N_joint_in "joint_in" (defScope s_joint_in) f cdv A outer s H E).nox (defBody s_joint_in) (ls 99 (T_joint_in )) :=
  dss_one (ds_ret (de_ty r_tuple call_tuple_of (by rfl) (c.free 8) (by rfl) (de_lc sc_joint_in.nd (di_seq (de_n 0)) (blkOk_by (own := [("name", 2)]) (by kernel_rfl)) (fun _ _ _ _ _ => dg_n 2 sc_joint_in.nd) (fun _ _ _ _ _ => dts_one (dt_cmp r_in (op_inS (Room.u65 hr)) (de_n 2) (de_n 1) rfl)) (fun _ _ _ _ _ => de_n 2))))
def N_houses_in : List Str := ["trust", "triple"]
theorem sc_houses_in : FnScope N_houses_in ["trust"] (defScope s_houses_in) := ⟨rfl, rfl, rfl, by decide +kernel, rfl, by decide +kernel, by decide +kernel⟩
def T_houses_in  : DS := dRet 99 (dB fTuple (dLc (iSeq (dN 0)) (gN 1) (bYes) (d2 fIx (dN 1) (dC (.int 0))) [1]))
theorem b_houses_in (c : Cf K mg)  (f : Addr) (cdv : Value) (A : Around) (outer : List Env) (s : Shared) (H : Hp) (E : XK) (hr : Room 0 (A.deeper (envOfC "houses_in" (defScope s_houses_in) s.heap.objs.size f cdv))) :
    PSs (cxOf CX0 P w K mg base N_houses_in "houses_in" (defScope s_houses_in) f cdv A outer s H E).nox (defBody s_houses_in) (ls 99 (T_houses_in )) :=
  dss_one (ds_ret (de_ty r_tuple call_tuple_of (by rfl) (c.free 8) (by rfl) (de_lc sc_houses_in.nd (di_seq (de_n 0)) (blkOk_by (own := [("triple", 1)]) (by kernel_rfl)) (fun _ _ _ _ _ => dg_n 1 sc_houses_in.nd) (fun _ _ _ _ _ => dts_nil) (fun _ _ _ _ _ => de_ix (de_n 1) (de_int)))))
def N_lots_of : List Str := ["trust", "house", "row"]
theorem sc_lots_of : FnScope N_lots_of ["trust", "house"] (defScope s_lots_of) := ⟨rfl, rfl, rfl, by decide +kernel, rfl, by decide +kernel, by decide +kernel⟩
def T_lots_of  : DS := dRet 99 (d2 fIx (d2 fIx (dLc (iSeq (dN 0)) (gN 2) (tb (d2 fEq (d2 fIx (dN 2) (dC (.int 0))) (dN 1))) (dN 2) [2]) (dC (.int 0))) (dC (.int 1)))
theorem b_lots_of (c : Cf K mg)  (f : Addr) (cdv : Value) (A : Around) (outer : List Env) (s : Shared) (H : Hp) (E : XK) (hr : Room 0 (A.deeper (envOfC "lots_of" (defScope s_lots_of) s.heap.objs.size f cdv))) :
    PSs (cxOf CX0 P w K mg base N_lots_of "lots_of" (defScope s_lots_of) f cdv A outer s H E).nox (defBody s_lots_of) (ls 99 (T_lots_of )) :=
  dss_one (ds_ret (de_ix (de_ix (de_lc sc_lots_of.nd (di_seq (de_n 0)) (blkOk_by (own := [("row", 2)]) (by kernel_rfl)) (fun _ _ _ _ _ => dg_n 2 sc_lots_of.nd) (fun _ _ _ _ _ => dts_one (dt_cmp r_eq (op_eqD (Room.units hr)) (de_ix (de_n 2) (de_int)) (de_n 1) rfl)) (fun _ _ _ _ _ => de_n 2)) (de_int)) (de_int)))
def N_fears_of : List Str := ["trust", "house", "row"]
theorem sc_fears_of : FnScope N_fears_of ["trust", "house"] (defScope s_fears_of) := ⟨rfl, rfl, rfl, by decide +kernel, rfl, by decide +kernel, by decide +kernel⟩
def T_fears_of  : DS := dRet 99 (d2 fIx (d2 fIx (dLc (iSeq (dN 0)) (gN 2) (tb (d2 fEq (d2 fIx (dN 2) (dC (.int 0))) (dN 1))) (dN 2) [2]) (dC (.int 0))) (dC (.int 2)))
theorem b_fears_of (c : Cf K mg)  (f : Addr) (cdv : Value) (A : Around) (outer : List Env) (s : Shared) (H : Hp) (E : XK) (hr : Room 0 (A.deeper (envOfC "fears_of" (defScope s_fears_of) s.heap.objs.size f cdv))) :
    PSs (cxOf CX0 P w K mg base N_fears_of "fears_of" (defScope s_fears_of) f cdv A outer s H E).nox (defBody s_fears_of) (ls 99 (T_fears_of )) :=
  dss_one (ds_ret (de_ix (de_ix (de_lc sc_fears_of.nd (di_seq (de_n 0)) (blkOk_by (own := [("row", 2)]) (by kernel_rfl)) (fun _ _ _ _ _ => dg_n 2 sc_fears_of.nd) (fun _ _ _ _ _ => dts_one (dt_cmp r_eq (op_eqD (Room.units hr)) (de_ix (de_n 2) (de_int)) (de_n 1) rfl)) (fun _ _ _ _ _ => de_n 2)) (de_int)) (de_int)))
def N_is_within : List Str := ["one", "other", "house"]
theorem sc_is_within : FnScope N_is_within ["one", "other"] (defScope s_is_within) := ⟨rfl, rfl, rfl, by decide +kernel, rfl, by decide +kernel, by decide +kernel⟩
def T_is_within  : DS := dRet 99 (dB fAll (dLc (iSeq (dN 0)) (gN 2) (bYes) (d2 fIn (dN 2) (dN 1)) [2]))
theorem b_is_within (c : Cf K mg)  (f : Addr) (cdv : Value) (A : Around) (outer : List Env) (s : Shared) (H : Hp) (E : XK) (hr : Room 0 (A.deeper (envOfC "is_within" (defScope s_is_within) s.heap.objs.size f cdv))) :
    PSs (cxOf CX0 P w K mg base N_is_within "is_within" (defScope s_is_within) f cdv A outer s H E).nox (defBody s_is_within) (ls 99 (T_is_within )) :=
  dss_one (ds_ret (de_b r_all (cr_all (by rfl)) (by rfl) (c.free 7) (by rfl) (de_lc sc_is_within.nd (di_seq (de_n 0)) (blkOk_by (own := [("house", 2)]) (by kernel_rfl)) (fun _ _ _ _ _ => dg_n 2 sc_is_within.nd) (fun _ _ _ _ _ => dts_nil) (fun _ _ _ _ _ => de_cmp r_in (op_inS (Room.u65 hr)) (de_n 2) (de_n 1) rfl))))
def N_less_by : List Str := ["lot", "fall", "house"]
theorem sc_less_by : FnScope N_less_by ["lot", "fall"] (defScope s_less_by) := ⟨rfl, rfl, rfl, by decide +kernel, rfl, by decide +kernel, by decide +kernel⟩
def T_less_by  : DS := dRet 99 (dB fTuple (dLc (iSeq (dN 0)) (gN 2) (tb (d2 fNi (dN 2) (dN 1))) (dN 2) [2]))
theorem b_less_by (c : Cf K mg)  (f : Addr) (cdv : Value) (A : Around) (outer : List Env) (s : Shared) (H : Hp) (E : XK) (hr : Room 0 (A.deeper (envOfC "less_by" (defScope s_less_by) s.heap.objs.size f cdv))) :
    PSs (cxOf CX0 P w K mg base N_less_by "less_by" (defScope s_less_by) f cdv A outer s H E).nox (defBody s_less_by) (ls 99 (T_less_by )) :=
  dss_one (ds_ret (de_ty r_tuple call_tuple_of (by rfl) (c.free 8) (by rfl) (de_lc sc_less_by.nd (di_seq (de_n 0)) (blkOk_by (own := [("house", 2)]) (by kernel_rfl)) (fun _ _ _ _ _ => dg_n 2 sc_less_by.nd) (fun _ _ _ _ _ => dts_one (dt_cmp r_ni (op_niS (Room.u65 hr)) (de_n 2) (de_n 1) rfl)) (fun _ _ _ _ _ => de_n 2))))
def N_is_safe_by : List Str := ["trust", "house", "fall", "fear"]
theorem sc_is_safe_by : FnScope N_is_safe_by ["trust", "house", "fall"] (defScope s_is_safe_by) := ⟨rfl, rfl, rfl, by decide +kernel, rfl, by decide +kernel, by decide +kernel⟩
def T_is_safe_by (sp_fears_of : DSp) (dd_fears_of : List SV) (sp_is_within : DSp) (dd_is_within : List SV) : DS := dRet 99 (dAnd (d2 fNi (dN 1) (dN 2)) (dB fAny (dLc (iSeq (dCall sp_fears_of dd_fears_of (aCons (dN 0) (aCons (dN 1) (aNil))))) (gN 3) (bYes) (dCall sp_is_within dd_is_within (aCons (dN 2) (aCons (dN 3) (aNil)))) [3])))
theorem b_is_safe_by (c : Cf K mg) {sp_fears_of : DSp} {dd_fears_of : List SV} (c_fears_of : CalD P w K mg base "fears_of" 1 sp_fears_of dd_fears_of) {sp_is_within : DSp} {dd_is_within : List SV} (c_is_within : CalD P w K mg base "is_within" 1 sp_is_within dd_is_within) (f : Addr) (cdv : Value) (A : Around) (outer : List Env) (s : Shared) (H : Hp) (E : XK) (hr : Room 1 (A.deeper (envOfC "is_safe_by" (defScope s_is_safe_by) s.heap.objs.size f cdv))) :
    PSs (cxOf CX0 P w K mg base N_is_safe_by "is_safe_by" (defScope s_is_safe_by) f cdv A outer s H E).nox (defBody s_is_safe_by) (ls 99 (T_is_safe_by sp_fears_of dd_fears_of sp_is_within dd_is_within)) :=
  dss_one (ds_ret (de_and (de_cmp r_ni (op_niS (Room.u65 hr)) (de_n 1) (de_n 2) rfl) (de_one (de_b r_any (cr_any (by rfl)) (by rfl) (c.free 6) (by rfl) (de_lc sc_is_safe_by.nd (di_seq (de_c c_fears_of hr (by rfl) (da_cons (de_n 0) (da_cons (de_n 1) (da_nil))))) (blkOk_by (own := [("fear", 3)]) (by kernel_rfl)) (fun _ _ _ _ _ => dg_n 3 sc_is_safe_by.nd) (fun _ _ _ _ _ => dts_nil) (fun _ _ _ _ _ => de_c c_is_within hr (by rfl) (da_cons (de_n 2) (da_cons (de_n 3) (da_nil)))))))))
def N_safe_by : List Str := ["trust", "fall", "house"]
theorem sc_safe_by : FnScope N_safe_by ["trust", "fall"] (defScope s_safe_by) := ⟨rfl, rfl, rfl, by decide +kernel, rfl, by decide +kernel, by decide +kernel⟩
def T_safe_by (sp_houses_in : DSp) (dd_houses_in : List SV) (sp_is_safe_by : DSp) (dd_is_safe_by : List SV) : DS := dRet 99 (dB fTuple (dLc (iSeq (dCall sp_houses_in dd_houses_in (aCons (dN 0) (aNil)))) (gN 2) (tb (dCall sp_is_safe_by dd_is_safe_by (aCons (dN 0) (aCons (dN 2) (aCons (dN 1) (aNil)))))) (dN 2) [2]))
theorem b_safe_by (c : Cf K mg) {sp_houses_in : DSp} {dd_houses_in : List SV} (c_houses_in : CalD P w K mg base "houses_in" 1 sp_houses_in dd_houses_in) {sp_is_safe_by : DSp} {dd_is_safe_by : List SV} (c_is_safe_by : CalD P w K mg base "is_safe_by" 2 sp_is_safe_by dd_is_safe_by) (f : Addr) (cdv : Value) (A : Around) (outer : List Env) (s : Shared) (H : Hp) (E : XK) (hr : Room 2 (A.deeper (envOfC "safe_by" (defScope s_safe_by) s.heap.objs.size f cdv))) :
    PSs (cxOf CX0 P w K mg base N_safe_by "safe_by" (defScope s_safe_by) f cdv A outer s H E).nox (defBody s_safe_by) (ls 99 (T_safe_by sp_houses_in dd_houses_in sp_is_safe_by dd_is_safe_by)) :=
  dss_one (ds_ret (de_ty r_tuple call_tuple_of (by rfl) (c.free 8) (by rfl) (de_lc sc_safe_by.nd (di_seq (de_c c_houses_in hr (by rfl) (da_cons (de_n 0) (da_nil)))) (blkOk_by (own := [("house", 2)]) (by kernel_rfl)) (fun _ _ _ _ _ => dg_n 2 sc_safe_by.nd) (fun _ _ _ _ _ => dts_one (dt_val (de_c c_is_safe_by hr (by rfl) (da_cons (de_n 0) (da_cons (de_n 2) (da_cons (de_n 1) (da_nil))))))) (fun _ _ _ _ _ => de_n 2))))
def N_pairs_in : List Str := ["trust", "house", "lots", "fears", "k"]
theorem sc_pairs_in : FnScope N_pairs_in ["trust"] (defScope s_pairs_in) := ⟨rfl, rfl, rfl, by decide +kernel, rfl, by decide +kernel, by decide +kernel⟩
def T_pairs_in  : DS := dRet 99 (dLc2 (iSeq (dN 0)) (gTp 3 (gCs (gN 1) (gCs (gN 2) (gCs (gN 3) (gNl))))) (bYes) (iRng (dB fLen (dN 2))) (gN 4) (bYes) (dTup (aCons (dN 1) (aCons (dN 4) (aNil)))) [1, 2, 3, 4] [4])
theorem b_pairs_in (c : Cf K mg)  (f : Addr) (cdv : Value) (A : Around) (outer : List Env) (s : Shared) (H : Hp) (E : XK) (hr : Room 0 (A.deeper (envOfC "pairs_in" (defScope s_pairs_in) s.heap.objs.size f cdv))) :
    PSs (cxOf CX0 P w K mg base N_pairs_in "pairs_in" (defScope s_pairs_in) f cdv A outer s H E).nox (defBody s_pairs_in) (ls 99 (T_pairs_in )) :=
  dss_one (ds_ret (de_lc2 sc_pairs_in.nd (di_seq (de_n 0)) (blkOk_by (own := [("house", 1), ("lots", 2), ("fears", 3), ("k", 4)]) (by kernel_rfl)) (by decide) (fun _ _ _ _ _ => dg_tup (dg_cons (dg_n 1 sc_pairs_in.nd) (dg_cons (dg_n 2 sc_pairs_in.nd) (dg_cons (dg_n 3 sc_pairs_in.nd) (dg_nil))))) (fun _ _ _ _ _ => dts_nil) (fun _ _ _ _ _ => di_rng (by rfl) (c.free 14) (de_b r_len call_len (by rfl) (c.free 11) (by rfl) (de_n 2))) (fun _ _ _ _ _ => dg_n 4 sc_pairs_in.nd) (fun _ _ _ _ _ => dts_nil) (fun _ _ _ _ _ => de_tup (da_cons (de_n 1) (da_cons (de_n 4) (da_nil))))))
def N_lot_at : List Str := ["trust", "pair"]
theorem sc_lot_at : FnScope N_lot_at ["trust", "pair"] (defScope s_lot_at) := ⟨rfl, rfl, rfl, by decide +kernel, rfl, by decide +kernel, by decide +kernel⟩
def T_lot_at (sp_lots_of : DSp) (dd_lots_of : List SV) : DS := dRet 99 (d2 fIx (dCall sp_lots_of dd_lots_of (aCons (dN 0) (aCons (d2 fIx (dN 1) (dC (.int 0))) (aNil)))) (d2 fIx (dN 1) (dC (.int 1))))
theorem b_lot_at (c : Cf K mg) {sp_lots_of : DSp} {dd_lots_of : List SV} (c_lots_of : CalD P w K mg base "lots_of" 1 sp_lots_of dd_lots_of) (f : Addr) (cdv : Value) (A : Around) (outer : List Env) (s : Shared) (H : Hp) (E : XK) (hr : Room 1 (A.deeper (envOfC "lot_at" (defScope s_lot_at) s.heap.objs.size f cdv))) :
    PSs (cxOf CX0 P w K mg base N_lot_at "lot_at" (defScope s_lot_at) f cdv A outer s H E).nox (defBody s_lot_at) (ls 99 (T_lot_at sp_lots_of dd_lots_of)) :=
  dss_one (ds_ret (de_ix (de_c c_lots_of hr (by rfl) (da_cons (de_n 0) (da_cons (de_ix (de_n 1) (de_int)) (da_nil)))) (de_ix (de_n 1) (de_int))))
def N_odds_by : List Str := ["trust", "one", "other", "common", "fall"]
theorem sc_odds_by : FnScope N_odds_by ["trust", "one", "other"] (defScope s_odds_by) := ⟨rfl, rfl, rfl, by decide +kernel, rfl, by decide +kernel, by decide +kernel⟩
def T_odds_by (sp_lot_at : DSp) (dd_lot_at : List SV) (sp_joint_in : DSp) (dd_joint_in : List SV) (sp_falls_by : DSp) (dd_falls_by : List SV) (sp_is_within : DSp) (dd_is_within : List SV) : DS := dSq (dSet 3 (dCall sp_joint_in dd_joint_in (aCons (dCall sp_lot_at dd_lot_at (aCons (dN 0) (aCons (dN 1) (aNil)))) (aCons (dCall sp_lot_at dd_lot_at (aCons (dN 0) (aCons (dN 2) (aNil)))) (aNil))))) (dSq (dFor (iSeq (dCall sp_falls_by dd_falls_by (aCons (dN 0) (aCons (d2 fIx (dN 1) (dC (.int 0))) (aCons (d2 fIx (dN 2) (dC (.int 0))) (aNil)))))) (gN 4) (dIfS (tb (dCall sp_is_within dd_is_within (aCons (dN 3) (aCons (dN 4) (aNil))))) (dRet 99 (dN 4)) (dNx))) (dRet 99 (dC .none)))
theorem b_odds_by (c : Cf K mg) {sp_lot_at : DSp} {dd_lot_at : List SV} (c_lot_at : CalD P w K mg base "lot_at" 2 sp_lot_at dd_lot_at) {sp_joint_in : DSp} {dd_joint_in : List SV} (c_joint_in : CalD P w K mg base "joint_in" 1 sp_joint_in dd_joint_in) {sp_falls_by : DSp} {dd_falls_by : List SV} (c_falls_by : CalD P w K mg base "falls_by" 3 sp_falls_by dd_falls_by) {sp_is_within : DSp} {dd_is_within : List SV} (c_is_within : CalD P w K mg base "is_within" 1 sp_is_within dd_is_within) (f : Addr) (cdv : Value) (A : Around) (outer : List Env) (s : Shared) (H : Hp) (E : XK) (hr : Room 3 (A.deeper (envOfC "odds_by" (defScope s_odds_by) s.heap.objs.size f cdv))) :
    PSs (cxOf CX0 P w K mg base N_odds_by "odds_by" (defScope s_odds_by) f cdv A outer s H E).nox (defBody s_odds_by) (ls 99 (T_odds_by sp_lot_at dd_lot_at sp_joint_in dd_joint_in sp_falls_by dd_falls_by sp_is_within dd_is_within)) :=
  dss_cons (ds_set 3 sc_odds_by.nd (de_c c_joint_in hr (by rfl) (da_cons (de_c c_lot_at hr (by rfl) (da_cons (de_n 0) (da_cons (de_n 1) (da_nil)))) (da_cons (de_c c_lot_at hr (by rfl) (da_cons (de_n 0) (da_cons (de_n 2) (da_nil)))) (da_nil))))) (dss_cons (ds_for rfl (di_seq (de_c c_falls_by hr (by rfl) (da_cons (de_n 0) (da_cons (de_ix (de_n 1) (de_int)) (da_cons (de_ix (de_n 2) (de_int)) (da_nil)))))) (dg_n 4 sc_odds_by.nd) (dss_one (ds_if (dt_val (de_c c_is_within hr (by rfl) (da_cons (de_n 3) (da_cons (de_n 4) (da_nil))))) (dss_one (ds_ret (de_n 4))) (dss_nil)))) (dss_one (ds_ret (de_non))))
def N_all_odds_by : List Str := ["trust", "pairs", "found", "k", "one", "other"]
theorem sc_all_odds_by : FnScope N_all_odds_by ["trust"] (defScope s_all_odds_by) := ⟨rfl, rfl, rfl, by decide +kernel, rfl, by decide +kernel, by decide +kernel⟩
def T_all_odds_by (sp_pairs_in : DSp) (dd_pairs_in : List SV) (sp_odds_by : DSp) (dd_odds_by : List SV) : DS := dSq (dSet 1 (dCall sp_pairs_in dd_pairs_in (aCons (dN 0) (aNil)))) (dSq (dNew 2) (dSq (dFor (iEnL (dN 1)) (gTp 2 (gCs (gN 3) (gCs (gN 4) (gNl)))) (dExt (dLc (iSeq (d2 fFrom (dN 1) (dN 3))) (gN 5) (tb (d2 fNs (dCall sp_odds_by dd_odds_by (aCons (dN 0) (aCons (dN 4) (aCons (dN 5) (aNil))))) (dC .none))) (dTup (aCons (dN 4) (aCons (dN 5) (aNil)))) [5]))) (dRet 2 (dN 2))))
theorem b_all_odds_by (c : Cf K mg) {sp_pairs_in : DSp} {dd_pairs_in : List SV} (c_pairs_in : CalD P w K mg base "pairs_in" 1 sp_pairs_in dd_pairs_in) {sp_odds_by : DSp} {dd_odds_by : List SV} (c_odds_by : CalD P w K mg base "odds_by" 4 sp_odds_by dd_odds_by) (f : Addr) (cdv : Value) (A : Around) (outer : List Env) (s : Shared) (H : Hp) (E : XK) (hr : Room 4 (A.deeper (envOfC "all_odds_by" (defScope s_all_odds_by) s.heap.objs.size f cdv))) :
    PSs (cxOf CX0 P w K mg base N_all_odds_by "all_odds_by" (defScope s_all_odds_by) f cdv A outer s H E).nox (defBody s_all_odds_by) (ls 2 (T_all_odds_by sp_pairs_in dd_pairs_in sp_odds_by dd_odds_by)) :=
  dss_cons (ds_set 1 sc_all_odds_by.nd (de_c c_pairs_in hr (by rfl) (da_cons (de_n 0) (da_nil)))) (dss_cons (ds_new sc_all_odds_by.nd) (dss_cons (ds_for rfl (di_enL (by rfl) (c.free 13) (de_n 1)) (dg_tup (dg_cons (dg_n 3 sc_all_odds_by.nd) (dg_cons (dg_n 4 sc_all_odds_by.nd) (dg_nil)))) (dss_one (ds_ext (pe_bm PySem.F.plainAttrs_list PySem.F.slot_list_extend PySem.F.type_list_extend mt_extend (pv 2) (pa_cons (de_lc sc_all_odds_by.nd (di_seq (de_from (de_n 1) (de_n 3))) (blkOk_by (own := [("other", 5)]) (by kernel_rfl)) (fun _ _ _ _ _ => dg_n 5 sc_all_odds_by.nd) (fun _ _ _ _ _ => dts_one (dt_cmp r_ns op_notN (de_c c_odds_by hr (by rfl) (da_cons (de_n 0) (da_cons (de_n 4) (da_cons (de_n 5) (da_nil))))) (de_non) rfl)) (fun _ _ _ _ _ => de_tup (da_cons (de_n 4) (da_cons (de_n 5) (da_nil))))) pa_nil))))) (dss_one (ds_ret (de_n 2)))))
def N_first_missed_by : List Str := ["needs", "lot", "need"]
theorem sc_first_missed_by : FnScope N_first_missed_by ["needs", "lot"] (defScope s_first_missed_by) := ⟨rfl, rfl, rfl, by decide +kernel, rfl, by decide +kernel, by decide +kernel⟩
def T_first_missed_by (sp_joint_in : DSp) (dd_joint_in : List SV) : DS := dSq (dFor (iSeq (dN 0)) (gN 2) (dIfS (tb (d2 fEq (dB fLen (dCall sp_joint_in dd_joint_in (aCons (dN 2) (aCons (dN 1) (aNil))))) (dC (.int 0)))) (dRet 99 (dN 2)) (dNx))) (dRet 99 (dC .none))
theorem b_first_missed_by (c : Cf K mg) {sp_joint_in : DSp} {dd_joint_in : List SV} (c_joint_in : CalD P w K mg base "joint_in" 1 sp_joint_in dd_joint_in) (f : Addr) (cdv : Value) (A : Around) (outer : List Env) (s : Shared) (H : Hp) (E : XK) (hr : Room 1 (A.deeper (envOfC "first_missed_by" (defScope s_first_missed_by) s.heap.objs.size f cdv))) :
    PSs (cxOf CX0 P w K mg base N_first_missed_by "first_missed_by" (defScope s_first_missed_by) f cdv A outer s H E).nox (defBody s_first_missed_by) (ls 99 (T_first_missed_by sp_joint_in dd_joint_in)) :=
  dss_cons (ds_for rfl (di_seq (de_n 0)) (dg_n 2 sc_first_missed_by.nd) (dss_one (ds_if (dt_cmp r_eq (op_eqD (Room.units hr)) (de_b r_len call_len (by rfl) (c.free 11) (by rfl) (de_c c_joint_in hr (by rfl) (da_cons (de_n 2) (da_cons (de_n 1) (da_nil))))) (de_int) rfl) (dss_one (ds_ret (de_n 2))) (dss_nil)))) (dss_one (ds_ret (de_non)))
def N_is_met : List Str := ["needs", "lot"]
theorem sc_is_met : FnScope N_is_met ["needs", "lot"] (defScope s_is_met) := ⟨rfl, rfl, rfl, by decide +kernel, rfl, by decide +kernel, by decide +kernel⟩
def T_is_met (sp_first_missed_by : DSp) (dd_first_missed_by : List SV) : DS := dRet 99 (d2 fIs (dCall sp_first_missed_by dd_first_missed_by (aCons (dN 0) (aCons (dN 1) (aNil)))) (dC .none))
theorem b_is_met (c : Cf K mg) {sp_first_missed_by : DSp} {dd_first_missed_by : List SV} (c_first_missed_by : CalD P w K mg base "first_missed_by" 2 sp_first_missed_by dd_first_missed_by) (f : Addr) (cdv : Value) (A : Around) (outer : List Env) (s : Shared) (H : Hp) (E : XK) (hr : Room 2 (A.deeper (envOfC "is_met" (defScope s_is_met) s.heap.objs.size f cdv))) :
    PSs (cxOf CX0 P w K mg base N_is_met "is_met" (defScope s_is_met) f cdv A outer s H E).nox (defBody s_is_met) (ls 99 (T_is_met sp_first_missed_by dd_first_missed_by)) :=
  dss_one (ds_ret (de_cmp r_is op_isN (de_c c_first_missed_by hr (by rfl) (da_cons (de_n 0) (da_cons (de_n 1) (da_nil)))) (de_non) rfl))
def N_is_integer : List Str := ["thing"]
theorem sc_is_integer : FnScope N_is_integer ["thing"] (defScope s_is_integer) := ⟨rfl, rfl, rfl, by decide +kernel, rfl, by decide +kernel, by decide +kernel⟩
def T_is_integer  : DS := dRet 99 (dAnd (dIsi (dN 0) "int") (dNot (dIsi (dN 0) "bool")))
theorem b_is_integer (c : Cf K mg)  (f : Addr) (cdv : Value) (A : Around) (outer : List Env) (s : Shared) (H : Hp) (E : XK) (hr : Room 0 (A.deeper (envOfC "is_integer" (defScope s_is_integer) s.heap.objs.size f cdv))) :
    PSs (cxOf CX0 P w K mg base N_is_integer "is_integer" (defScope s_is_integer) f cdv A outer s H E).nox (defBody s_is_integer) (ls 99 (T_is_integer )) :=
  dss_one (ds_ret (de_and (de_isi (.inl rfl) rfl (c.free 12) rfl (c.free 17) rfl (de_n 0)) (de_one (de_not (de_isi (.inr (.inl rfl)) rfl (c.free 12) rfl (c.free 18) rfl (de_n 0))))))
def N_is_number : List Str := ["thing"]
theorem sc_is_number : FnScope N_is_number ["thing"] (defScope s_is_number) := ⟨rfl, rfl, rfl, by decide +kernel, rfl, by decide +kernel, by decide +kernel⟩
def T_is_number (sp_is_integer : DSp) (dd_is_integer : List SV) : DS := dRet 99 (dAnd (dCall sp_is_integer dd_is_integer (aCons (dN 0) (aNil))) (d2 (fIB fun i j => decide (j ≤ i)) (dN 0) (dC (.int 0))))
theorem b_is_number (c : Cf K mg) {sp_is_integer : DSp} {dd_is_integer : List SV} (c_is_integer : CalD P w K mg base "is_integer" 1 sp_is_integer dd_is_integer) (f : Addr) (cdv : Value) (A : Around) (outer : List Env) (s : Shared) (H : Hp) (E : XK) (hr : Room 1 (A.deeper (envOfC "is_number" (defScope s_is_number) s.heap.objs.size f cdv))) :
    PSs (cxOf CX0 P w K mg base N_is_number "is_number" (defScope s_is_number) f cdv A outer s H E).nox (defBody s_is_number) (ls 99 (T_is_number sp_is_integer dd_is_integer)) :=
  dss_one (ds_ret (de_and (de_c c_is_integer hr (by rfl) (da_cons (de_n 0) (da_nil))) (de_one (de_cmp r_iB op_ge (de_n 0) (de_int) rfl))))
def N_is_index : List Str := ["thing", "many"]
theorem sc_is_index : FnScope N_is_index ["thing", "many"] (defScope s_is_index) := ⟨rfl, rfl, rfl, by decide +kernel, rfl, by decide +kernel, by decide +kernel⟩
def T_is_index (sp_is_number : DSp) (dd_is_number : List SV) : DS := dRet 99 (dAnd (dCall sp_is_number dd_is_number (aCons (dN 0) (aNil))) (d2 (fIB fun i j => decide (i < j)) (dN 0) (dN 1)))
theorem b_is_index (c : Cf K mg) {sp_is_number : DSp} {dd_is_number : List SV} (c_is_number : CalD P w K mg base "is_number" 2 sp_is_number dd_is_number) (f : Addr) (cdv : Value) (A : Around) (outer : List Env) (s : Shared) (H : Hp) (E : XK) (hr : Room 2 (A.deeper (envOfC "is_index" (defScope s_is_index) s.heap.objs.size f cdv))) :
    PSs (cxOf CX0 P w K mg base N_is_index "is_index" (defScope s_is_index) f cdv A outer s H E).nox (defBody s_is_index) (ls 99 (T_is_index sp_is_number dd_is_number)) :=
  dss_one (ds_ret (de_and (de_c c_is_number hr (by rfl) (da_cons (de_n 0) (da_nil))) (de_one (de_cmp r_iB op_lt (de_n 0) (de_n 1) rfl))))
def N_is_among : List Str := ["thing", "names"]
theorem sc_is_among : FnScope N_is_among ["thing", "names"] (defScope s_is_among) := ⟨rfl, rfl, rfl, by decide +kernel, rfl, by decide +kernel, by decide +kernel⟩
def T_is_among  : DS := dRet 99 (dAnd (dIsi (dN 0) "str") (d2 fIn (dN 0) (dN 1)))
theorem b_is_among (c : Cf K mg)  (f : Addr) (cdv : Value) (A : Around) (outer : List Env) (s : Shared) (H : Hp) (E : XK) (hr : Room 0 (A.deeper (envOfC "is_among" (defScope s_is_among) s.heap.objs.size f cdv))) :
    PSs (cxOf CX0 P w K mg base N_is_among "is_among" (defScope s_is_among) f cdv A outer s H E).nox (defBody s_is_among) (ls 99 (T_is_among )) :=
  dss_one (ds_ret (de_and (de_isi (.inr (.inr (.inl rfl))) rfl (c.free 12) rfl (c.free 16) rfl (de_n 0)) (de_one (de_cmp r_in (op_inS (Room.u65 hr)) (de_n 0) (de_n 1) rfl))))
def N_is_name : List Str := ["thing", "sign"]
theorem sc_is_name : FnScope N_is_name ["thing"] (defScope s_is_name) := ⟨rfl, rfl, rfl, by decide +kernel, rfl, by decide +kernel, by decide +kernel⟩
def T_is_name  : DS := dSq (dIfS (bOr (bNot (tb (dIsi (dN 0) "str"))) (tb (d2 fEq (dN 0) (dC (.str "any"))))) (dRet 99 (dC (.bool false))) (dNx)) (dRet 99 (dAnd (dChain (fIB fun i j => decide (i ≤ j)) (fIB fun i j => decide (i ≤ j)) (dC (.int 1)) (dB fLen (dN 0)) (dC (.int 8))) (dB fAll (dLc (iTxt (dN 0)) (gN 1) (bYes) (d2 fInC (dN 1) (dC (.str "abcdefghijklmnopqrstuvwxyz"))) [1]))))
theorem b_is_name (c : Cf K mg)  (f : Addr) (cdv : Value) (A : Around) (outer : List Env) (s : Shared) (H : Hp) (E : XK) (hr : Room 0 (A.deeper (envOfC "is_name" (defScope s_is_name) s.heap.objs.size f cdv))) :
    PSs (cxOf CX0 P w K mg base N_is_name "is_name" (defScope s_is_name) f cdv A outer s H E).nox (defBody s_is_name) (ls 99 (T_is_name )) :=
  dss_cons (ds_if (PW.pt (dw_or (dt_not (dt_val (de_isi (.inr (.inr (.inl rfl))) rfl (c.free 12) rfl (c.free 16) rfl (de_n 0)))) (dw_or1 (dt_cmp r_eq (op_eqD (Room.units hr)) (de_n 0) (de_gstr (by rfl) (c.str 2)) rfl)))) (dss_one (ds_ret (de_bl))) (dss_nil)) (dss_one (ds_ret (de_and (de_chain r_iB r_iB op_le op_le (de_int) (de_b r_len call_len (by rfl) (c.free 11) (by rfl) (de_n 0)) (de_gint (by rfl) (c.int 1))) (de_one (de_b r_all (cr_all (by rfl)) (by rfl) (c.free 7) (by rfl) (de_lc sc_is_name.nd (di_txt (de_n 0)) (blkOk_by (own := [("sign", 1)]) (by kernel_rfl)) (fun _ _ _ _ _ => dg_n 1 sc_is_name.nd) (fun _ _ _ _ _ => dts_nil) (fun _ _ _ _ _ => de_cmp r_inC op_in_sign (de_n 1) (de_gstr (by rfl) (c.str 0)) rfl)))))))
def N_is_tuple_of : List Str := ["thing", "many"]
theorem sc_is_tuple_of : FnScope N_is_tuple_of ["thing", "many"] (defScope s_is_tuple_of) := ⟨rfl, rfl, rfl, by decide +kernel, rfl, by decide +kernel, by decide +kernel⟩
def T_is_tuple_of  : DS := dRet 99 (dAnd (dIsi (dN 0) "tuple") (d2 fEq (dB fLen (dN 0)) (dN 1)))
theorem b_is_tuple_of (c : Cf K mg)  (f : Addr) (cdv : Value) (A : Around) (outer : List Env) (s : Shared) (H : Hp) (E : XK) (hr : Room 0 (A.deeper (envOfC "is_tuple_of" (defScope s_is_tuple_of) s.heap.objs.size f cdv))) :
    PSs (cxOf CX0 P w K mg base N_is_tuple_of "is_tuple_of" (defScope s_is_tuple_of) f cdv A outer s H E).nox (defBody s_is_tuple_of) (ls 99 (T_is_tuple_of )) :=
  dss_one (ds_ret (de_and (de_isi (.inr (.inr (.inr rfl))) rfl (c.free 12) rfl (c.free 8) rfl (de_n 0)) (de_one (de_cmp r_eq (op_eqD (Room.units hr)) (de_b r_len call_len (by rfl) (c.free 11) (by rfl) (de_n 0)) (de_n 1) rfl))))
def N_is_pair : List Str := ["thing"]
theorem sc_is_pair : FnScope N_is_pair ["thing"] (defScope s_is_pair) := ⟨rfl, rfl, rfl, by decide +kernel, rfl, by decide +kernel, by decide +kernel⟩
def T_is_pair (sp_is_tuple_of : DSp) (dd_is_tuple_of : List SV) : DS := dRet 99 (dCall sp_is_tuple_of dd_is_tuple_of (aCons (dN 0) (aCons (dC (.int 2)) (aNil))))
theorem b_is_pair (c : Cf K mg) {sp_is_tuple_of : DSp} {dd_is_tuple_of : List SV} (c_is_tuple_of : CalD P w K mg base "is_tuple_of" 1 sp_is_tuple_of dd_is_tuple_of) (f : Addr) (cdv : Value) (A : Around) (outer : List Env) (s : Shared) (H : Hp) (E : XK) (hr : Room 1 (A.deeper (envOfC "is_pair" (defScope s_is_pair) s.heap.objs.size f cdv))) :
    PSs (cxOf CX0 P w K mg base N_is_pair "is_pair" (defScope s_is_pair) f cdv A outer s H E).nox (defBody s_is_pair) (ls 99 (T_is_pair sp_is_tuple_of dd_is_tuple_of)) :=
  dss_one (ds_ret (de_c c_is_tuple_of hr (by rfl) (da_cons (de_n 0) (da_cons (de_int) (da_nil)))))
def N_are_rising : List Str := ["parts", "one", "other"]
theorem sc_are_rising : FnScope N_are_rising ["parts"] (defScope s_are_rising) := ⟨rfl, rfl, rfl, by decide +kernel, rfl, by decide +kernel, by decide +kernel⟩
def T_are_rising  : DS := dRet 99 (dB fAll (dLc (iZp (dN 0) (d2 fFrom (dN 0) (dC (.int 1)))) (gTp 2 (gCs (gN 1) (gCs (gN 2) (gNl)))) (bYes) (d2 fLt (dN 1) (dN 2)) [1, 2]))
theorem b_are_rising (c : Cf K mg)  (f : Addr) (cdv : Value) (A : Around) (outer : List Env) (s : Shared) (H : Hp) (E : XK) (hr : Room 0 (A.deeper (envOfC "are_rising" (defScope s_are_rising) s.heap.objs.size f cdv))) :
    PSs (cxOf CX0 P w K mg base N_are_rising "are_rising" (defScope s_are_rising) f cdv A outer s H E).nox (defBody s_are_rising) (ls 99 (T_are_rising )) :=
  dss_one (ds_ret (de_b r_all (cr_all (by rfl)) (by rfl) (c.free 7) (by rfl) (de_lc sc_are_rising.nd (di_zip (by rfl) (c.free 15) (de_n 0) (de_from (de_n 0) (de_int))) (blkOk_by (own := [("one", 1), ("other", 2)]) (by kernel_rfl)) (fun _ _ _ _ _ => dg_tup (dg_cons (dg_n 1 sc_are_rising.nd) (dg_cons (dg_n 2 sc_are_rising.nd) (dg_nil)))) (fun _ _ _ _ _ => dts_nil) (fun _ _ _ _ _ => de_cmp r_lt (op_ltD (Room.units hr)) (de_n 1) (de_n 2) rfl))))
def N_is_names : List Str := ["thing", "name"]
theorem sc_is_names : FnScope N_is_names ["thing"] (defScope s_is_names) := ⟨rfl, rfl, rfl, by decide +kernel, rfl, by decide +kernel, by decide +kernel⟩
def T_is_names (sp_is_name : DSp) (dd_is_name : List SV) (sp_are_rising : DSp) (dd_are_rising : List SV) : DS := dRet 99 (dAnd (dIsi (dN 0) "tuple") (dAnd (dB fAll (dLc (iSeq (dN 0)) (gN 1) (bYes) (dCall sp_is_name dd_is_name (aCons (dN 1) (aNil))) [1])) (dCall sp_are_rising dd_are_rising (aCons (dN 0) (aNil)))))
theorem b_is_names (c : Cf K mg) {sp_is_name : DSp} {dd_is_name : List SV} (c_is_name : CalD P w K mg base "is_name" 1 sp_is_name dd_is_name) {sp_are_rising : DSp} {dd_are_rising : List SV} (c_are_rising : CalD P w K mg base "are_rising" 1 sp_are_rising dd_are_rising) (f : Addr) (cdv : Value) (A : Around) (outer : List Env) (s : Shared) (H : Hp) (E : XK) (hr : Room 1 (A.deeper (envOfC "is_names" (defScope s_is_names) s.heap.objs.size f cdv))) :
    PSs (cxOf CX0 P w K mg base N_is_names "is_names" (defScope s_is_names) f cdv A outer s H E).nox (defBody s_is_names) (ls 99 (T_is_names sp_is_name dd_is_name sp_are_rising dd_are_rising)) :=
  dss_one (ds_ret (de_and (de_isi (.inr (.inr (.inr rfl))) rfl (c.free 12) rfl (c.free 8) rfl (de_n 0)) (de_and (de_b r_all (cr_all (by rfl)) (by rfl) (c.free 7) (by rfl) (de_lc sc_is_names.nd (di_seq (de_n 0)) (blkOk_by (own := [("name", 1)]) (by kernel_rfl)) (fun _ _ _ _ _ => dg_n 1 sc_is_names.nd) (fun _ _ _ _ _ => dts_nil) (fun _ _ _ _ _ => de_c c_is_name hr (by rfl) (da_cons (de_n 1) (da_nil))))) (de_one (de_c c_are_rising hr (by rfl) (da_cons (de_n 0) (da_nil)))))))
def N_is_names_among : List Str := ["thing", "names", "name"]
theorem sc_is_names_among : FnScope N_is_names_among ["thing", "names"] (defScope s_is_names_among) := ⟨rfl, rfl, rfl, by decide +kernel, rfl, by decide +kernel, by decide +kernel⟩
def T_is_names_among (sp_is_names : DSp) (dd_is_names : List SV) : DS := dRet 99 (dAnd (dCall sp_is_names dd_is_names (aCons (dN 0) (aNil))) (dB fAll (dLc (iSeq (dN 0)) (gN 2) (bYes) (d2 fIn (dN 2) (dN 1)) [2])))
theorem b_is_names_among (c : Cf K mg) {sp_is_names : DSp} {dd_is_names : List SV} (c_is_names : CalD P w K mg base "is_names" 2 sp_is_names dd_is_names) (f : Addr) (cdv : Value) (A : Around) (outer : List Env) (s : Shared) (H : Hp) (E : XK) (hr : Room 2 (A.deeper (envOfC "is_names_among" (defScope s_is_names_among) s.heap.objs.size f cdv))) :
    PSs (cxOf CX0 P w K mg base N_is_names_among "is_names_among" (defScope s_is_names_among) f cdv A outer s H E).nox (defBody s_is_names_among) (ls 99 (T_is_names_among sp_is_names dd_is_names)) :=
  dss_one (ds_ret (de_and (de_c c_is_names hr (by rfl) (da_cons (de_n 0) (da_nil))) (de_one (de_b r_all (cr_all (by rfl)) (by rfl) (c.free 7) (by rfl) (de_lc sc_is_names_among.nd (di_seq (de_n 0)) (blkOk_by (own := [("name", 2)]) (by kernel_rfl)) (fun _ _ _ _ _ => dg_n 2 sc_is_names_among.nd) (fun _ _ _ _ _ => dts_nil) (fun _ _ _ _ _ => de_cmp r_in (op_inS (Room.u65 hr)) (de_n 2) (de_n 1) rfl))))))
def N_are_sets_among : List Str := ["thing", "names", "one"]
theorem sc_are_sets_among : FnScope N_are_sets_among ["thing", "names"] (defScope s_are_sets_among) := ⟨rfl, rfl, rfl, by decide +kernel, rfl, by decide +kernel, by decide +kernel⟩
def T_are_sets_among (sp_is_names_among : DSp) (dd_is_names_among : List SV) (sp_are_rising : DSp) (dd_are_rising : List SV) : DS := dSq (dIfS (bOr (bNot (tb (dIsi (dN 0) "tuple"))) (tb (d2 fEq (dB fLen (dN 0)) (dC (.int 0))))) (dRet 99 (dC (.bool false))) (dNx)) (dRet 99 (dAnd (dB fAll (dLc (iSeq (dN 0)) (gN 2) (bYes) (dCall sp_is_names_among dd_is_names_among (aCons (dN 2) (aCons (dN 1) (aNil)))) [2])) (dCall sp_are_rising dd_are_rising (aCons (dN 0) (aNil)))))
theorem b_are_sets_among (c : Cf K mg) {sp_is_names_among : DSp} {dd_is_names_among : List SV} (c_is_names_among : CalD P w K mg base "is_names_among" 3 sp_is_names_among dd_is_names_among) {sp_are_rising : DSp} {dd_are_rising : List SV} (c_are_rising : CalD P w K mg base "are_rising" 1 sp_are_rising dd_are_rising) (f : Addr) (cdv : Value) (A : Around) (outer : List Env) (s : Shared) (H : Hp) (E : XK) (hr : Room 3 (A.deeper (envOfC "are_sets_among" (defScope s_are_sets_among) s.heap.objs.size f cdv))) :
    PSs (cxOf CX0 P w K mg base N_are_sets_among "are_sets_among" (defScope s_are_sets_among) f cdv A outer s H E).nox (defBody s_are_sets_among) (ls 99 (T_are_sets_among sp_is_names_among dd_is_names_among sp_are_rising dd_are_rising)) :=
  dss_cons (ds_if (PW.pt (dw_or (dt_not (dt_val (de_isi (.inr (.inr (.inr rfl))) rfl (c.free 12) rfl (c.free 8) rfl (de_n 0)))) (dw_or1 (dt_cmp r_eq (op_eqD (Room.units hr)) (de_b r_len call_len (by rfl) (c.free 11) (by rfl) (de_n 0)) (de_int) rfl)))) (dss_one (ds_ret (de_bl))) (dss_nil)) (dss_one (ds_ret (de_and (de_b r_all (cr_all (by rfl)) (by rfl) (c.free 7) (by rfl) (de_lc sc_are_sets_among.nd (di_seq (de_n 0)) (blkOk_by (own := [("one", 2)]) (by kernel_rfl)) (fun _ _ _ _ _ => dg_n 2 sc_are_sets_among.nd) (fun _ _ _ _ _ => dts_nil) (fun _ _ _ _ _ => de_c c_is_names_among hr (by rfl) (da_cons (de_n 2) (da_cons (de_n 1) (da_nil)))))) (de_one (de_c c_are_rising hr (by rfl) (da_cons (de_n 0) (da_nil)))))))
def N_are_indexes : List Str := ["thing", "size", "many", "one"]
theorem sc_are_indexes : FnScope N_are_indexes ["thing", "size", "many"] (defScope s_are_indexes) := ⟨rfl, rfl, rfl, by decide +kernel, rfl, by decide +kernel, by decide +kernel⟩
def T_are_indexes (sp_is_tuple_of : DSp) (dd_is_tuple_of : List SV) (sp_is_index : DSp) (dd_is_index : List SV) : DS := dRet 99 (dAnd (dCall sp_is_tuple_of dd_is_tuple_of (aCons (dN 0) (aCons (dN 1) (aNil)))) (dB fAll (dLc (iSeq (dN 0)) (gN 3) (bYes) (dCall sp_is_index dd_is_index (aCons (dN 3) (aCons (dN 2) (aNil)))) [3])))
theorem b_are_indexes (c : Cf K mg) {sp_is_tuple_of : DSp} {dd_is_tuple_of : List SV} (c_is_tuple_of : CalD P w K mg base "is_tuple_of" 1 sp_is_tuple_of dd_is_tuple_of) {sp_is_index : DSp} {dd_is_index : List SV} (c_is_index : CalD P w K mg base "is_index" 3 sp_is_index dd_is_index) (f : Addr) (cdv : Value) (A : Around) (outer : List Env) (s : Shared) (H : Hp) (E : XK) (hr : Room 3 (A.deeper (envOfC "are_indexes" (defScope s_are_indexes) s.heap.objs.size f cdv))) :
    PSs (cxOf CX0 P w K mg base N_are_indexes "are_indexes" (defScope s_are_indexes) f cdv A outer s H E).nox (defBody s_are_indexes) (ls 99 (T_are_indexes sp_is_tuple_of dd_is_tuple_of sp_is_index dd_is_index)) :=
  dss_one (ds_ret (de_and (de_c c_is_tuple_of hr (by rfl) (da_cons (de_n 0) (da_cons (de_n 1) (da_nil)))) (de_one (de_b r_all (cr_all (by rfl)) (by rfl) (c.free 7) (by rfl) (de_lc sc_are_indexes.nd (di_seq (de_n 0)) (blkOk_by (own := [("one", 3)]) (by kernel_rfl)) (fun _ _ _ _ _ => dg_n 3 sc_are_indexes.nd) (fun _ _ _ _ _ => dts_nil) (fun _ _ _ _ _ => de_c c_is_index hr (by rfl) (da_cons (de_n 3) (da_cons (de_n 2) (da_nil)))))))))
def N_are_numbers : List Str := ["thing", "size", "one"]
theorem sc_are_numbers : FnScope N_are_numbers ["thing", "size"] (defScope s_are_numbers) := ⟨rfl, rfl, rfl, by decide +kernel, rfl, by decide +kernel, by decide +kernel⟩
def T_are_numbers (sp_is_tuple_of : DSp) (dd_is_tuple_of : List SV) (sp_is_number : DSp) (dd_is_number : List SV) : DS := dRet 99 (dAnd (dCall sp_is_tuple_of dd_is_tuple_of (aCons (dN 0) (aCons (dN 1) (aNil)))) (dB fAll (dLc (iSeq (dN 0)) (gN 2) (bYes) (dCall sp_is_number dd_is_number (aCons (dN 2) (aNil))) [2])))
theorem b_are_numbers (c : Cf K mg) {sp_is_tuple_of : DSp} {dd_is_tuple_of : List SV} (c_is_tuple_of : CalD P w K mg base "is_tuple_of" 1 sp_is_tuple_of dd_is_tuple_of) {sp_is_number : DSp} {dd_is_number : List SV} (c_is_number : CalD P w K mg base "is_number" 2 sp_is_number dd_is_number) (f : Addr) (cdv : Value) (A : Around) (outer : List Env) (s : Shared) (H : Hp) (E : XK) (hr : Room 2 (A.deeper (envOfC "are_numbers" (defScope s_are_numbers) s.heap.objs.size f cdv))) :
    PSs (cxOf CX0 P w K mg base N_are_numbers "are_numbers" (defScope s_are_numbers) f cdv A outer s H E).nox (defBody s_are_numbers) (ls 99 (T_are_numbers sp_is_tuple_of dd_is_tuple_of sp_is_number dd_is_number)) :=
  dss_one (ds_ret (de_and (de_c c_is_tuple_of hr (by rfl) (da_cons (de_n 0) (da_cons (de_n 1) (da_nil)))) (de_one (de_b r_all (cr_all (by rfl)) (by rfl) (c.free 7) (by rfl) (de_lc sc_are_numbers.nd (di_seq (de_n 0)) (blkOk_by (own := [("one", 2)]) (by kernel_rfl)) (fun _ _ _ _ _ => dg_n 2 sc_are_numbers.nd) (fun _ _ _ _ _ => dts_nil) (fun _ _ _ _ _ => de_c c_is_number hr (by rfl) (da_cons (de_n 2) (da_nil))))))))
end
end Ao
set_option Elab.async false
set_option autoImplicit false
set_option linter.all false
set_option maxRecDepth 100000
set_option maxHeartbeats 1000000
namespace Ao
open PySem PySem.Spec PyProof.Rows L2
section
variable {P : Program} {w : World} {K : AK} {mg : Str → Option Value} {base : Heap}
def N_is_triple_from : List Str := ["thing"]
theorem sc_is_triple_from : FnScope N_is_triple_from ["thing"] (defScope s_is_triple_from) := ⟨rfl, rfl, rfl, by decide +kernel, rfl, by decide +kernel, by decide +kernel⟩
def T_is_triple_from (sp_is_tuple_of : DSp) (dd_is_tuple_of : List SV) (sp_is_name : DSp) (dd_is_name : List SV) : DS := dRet 99 (dAnd (dCall sp_is_tuple_of dd_is_tuple_of (aCons (dN 0) (aCons (dC (.int 3)) (aNil)))) (dCall sp_is_name dd_is_name (aCons (d2 fIx (dN 0) (dC (.int 0))) (aNil))))
theorem b_is_triple_from (c : Cf K mg) {sp_is_tuple_of : DSp} {dd_is_tuple_of : List SV} (c_is_tuple_of : CalD P w K mg base "is_tuple_of" 1 sp_is_tuple_of dd_is_tuple_of) {sp_is_name : DSp} {dd_is_name : List SV} (c_is_name : CalD P w K mg base "is_name" 1 sp_is_name dd_is_name) (f : Addr) (cdv : Value) (A : Around) (outer : List Env) (s : Shared) (H : Hp) (E : XK) (hr : Room 1 (A.deeper (envOfC "is_triple_from" (defScope s_is_triple_from) s.heap.objs.size f cdv))) :
    PSs (cxOf CX0 P w K mg base N_is_triple_from "is_triple_from" (defScope s_is_triple_from) f cdv A outer s H E).nox (defBody s_is_triple_from) (ls 99 (T_is_triple_from sp_is_tuple_of dd_is_tuple_of sp_is_name dd_is_name)) :=
  dss_one (ds_ret (de_and (de_c c_is_tuple_of hr (by rfl) (da_cons (de_n 0) (da_cons (de_int) (da_nil)))) (de_one (de_c c_is_name hr (by rfl) (da_cons (de_ix (de_n 0) (de_int)) (da_nil))))))
def N_is_trust : List Str := ["thing"]
theorem sc_is_trust : FnScope N_is_trust ["thing"] (defScope s_is_trust) := ⟨rfl, rfl, rfl, by decide +kernel, rfl, by decide +kernel, by decide +kernel⟩
def T_is_trust (sp_trust_fault : DSp) (dd_trust_fault : List SV) : DS := dRet 99 (d2 fIs (dCall sp_trust_fault dd_trust_fault (aCons (dN 0) (aNil))) (dC .none))
theorem b_is_trust (c : Cf K mg) {sp_trust_fault : DSp} {dd_trust_fault : List SV} (c_trust_fault : CalD P w K mg base "trust_fault" 5 sp_trust_fault dd_trust_fault) (f : Addr) (cdv : Value) (A : Around) (outer : List Env) (s : Shared) (H : Hp) (E : XK) (hr : Room 5 (A.deeper (envOfC "is_trust" (defScope s_is_trust) s.heap.objs.size f cdv))) :
    PSs (cxOf CX0 P w K mg base N_is_trust "is_trust" (defScope s_is_trust) f cdv A outer s H E).nox (defBody s_is_trust) (ls 99 (T_is_trust sp_trust_fault dd_trust_fault)) :=
  dss_one (ds_ret (de_cmp r_is op_isN (de_c c_trust_fault hr (by rfl) (da_cons (de_n 0) (da_nil))) (de_non) rfl))
def N_is_book : List Str := ["thing"]
theorem sc_is_book : FnScope N_is_book ["thing"] (defScope s_is_book) := ⟨rfl, rfl, rfl, by decide +kernel, rfl, by decide +kernel, by decide +kernel⟩
def T_is_book (sp_parts_fault : DSp) (dd_parts_fault : List SV) : DS := dRet 99 (d2 fIs (dCall sp_parts_fault dd_parts_fault (aCons (dN 0) (aNil))) (dC .none))
theorem b_is_book (c : Cf K mg) {sp_parts_fault : DSp} {dd_parts_fault : List SV} (c_parts_fault : CalD P w K mg base "parts_fault" 6 sp_parts_fault dd_parts_fault) (f : Addr) (cdv : Value) (A : Around) (outer : List Env) (s : Shared) (H : Hp) (E : XK) (hr : Room 6 (A.deeper (envOfC "is_book" (defScope s_is_book) s.heap.objs.size f cdv))) :
    PSs (cxOf CX0 P w K mg base N_is_book "is_book" (defScope s_is_book) f cdv A outer s H E).nox (defBody s_is_book) (ls 99 (T_is_book sp_parts_fault dd_parts_fault)) :=
  dss_one (ds_ret (de_cmp r_is op_isN (de_c c_parts_fault hr (by rfl) (da_cons (de_n 0) (da_nil))) (de_non) rfl))
def N_is_house_of : List Str := ["trust", "thing"]
theorem sc_is_house_of : FnScope N_is_house_of ["trust", "thing"] (defScope s_is_house_of) := ⟨rfl, rfl, rfl, by decide +kernel, rfl, by decide +kernel, by decide +kernel⟩
def T_is_house_of (sp_houses_in : DSp) (dd_houses_in : List SV) (sp_is_among : DSp) (dd_is_among : List SV) : DS := dRet 99 (dCall sp_is_among dd_is_among (aCons (dN 1) (aCons (dCall sp_houses_in dd_houses_in (aCons (dN 0) (aNil))) (aNil))))
theorem b_is_house_of (c : Cf K mg) {sp_houses_in : DSp} {dd_houses_in : List SV} (c_houses_in : CalD P w K mg base "houses_in" 1 sp_houses_in dd_houses_in) {sp_is_among : DSp} {dd_is_among : List SV} (c_is_among : CalD P w K mg base "is_among" 1 sp_is_among dd_is_among) (f : Addr) (cdv : Value) (A : Around) (outer : List Env) (s : Shared) (H : Hp) (E : XK) (hr : Room 1 (A.deeper (envOfC "is_house_of" (defScope s_is_house_of) s.heap.objs.size f cdv))) :
    PSs (cxOf CX0 P w K mg base N_is_house_of "is_house_of" (defScope s_is_house_of) f cdv A outer s H E).nox (defBody s_is_house_of) (ls 99 (T_is_house_of sp_houses_in dd_houses_in sp_is_among dd_is_among)) :=
  dss_one (ds_ret (de_c c_is_among hr (by rfl) (da_cons (de_n 1) (da_cons (de_c c_houses_in hr (by rfl) (da_cons (de_n 0) (da_nil))) (da_nil)))))
def N_are_houses_of : List Str := ["trust", "thing"]
theorem sc_are_houses_of : FnScope N_are_houses_of ["trust", "thing"] (defScope s_are_houses_of) := ⟨rfl, rfl, rfl, by decide +kernel, rfl, by decide +kernel, by decide +kernel⟩
def T_are_houses_of (sp_houses_in : DSp) (dd_houses_in : List SV) (sp_is_names_among : DSp) (dd_is_names_among : List SV) : DS := dRet 99 (dCall sp_is_names_among dd_is_names_among (aCons (dN 1) (aCons (dCall sp_houses_in dd_houses_in (aCons (dN 0) (aNil))) (aNil))))
theorem b_are_houses_of (c : Cf K mg) {sp_houses_in : DSp} {dd_houses_in : List SV} (c_houses_in : CalD P w K mg base "houses_in" 1 sp_houses_in dd_houses_in) {sp_is_names_among : DSp} {dd_is_names_among : List SV} (c_is_names_among : CalD P w K mg base "is_names_among" 3 sp_is_names_among dd_is_names_among) (f : Addr) (cdv : Value) (A : Around) (outer : List Env) (s : Shared) (H : Hp) (E : XK) (hr : Room 3 (A.deeper (envOfC "are_houses_of" (defScope s_are_houses_of) s.heap.objs.size f cdv))) :
    PSs (cxOf CX0 P w K mg base N_are_houses_of "are_houses_of" (defScope s_are_houses_of) f cdv A outer s H E).nox (defBody s_are_houses_of) (ls 99 (T_are_houses_of sp_houses_in dd_houses_in sp_is_names_among dd_is_names_among)) :=
  dss_one (ds_ret (de_c c_is_names_among hr (by rfl) (da_cons (de_n 1) (da_cons (de_c c_houses_in hr (by rfl) (da_cons (de_n 0) (da_nil))) (da_nil)))))
def N_is_pair_of : List Str := ["trust", "thing"]
theorem sc_is_pair_of : FnScope N_is_pair_of ["trust", "thing"] (defScope s_is_pair_of) := ⟨rfl, rfl, rfl, by decide +kernel, rfl, by decide +kernel, by decide +kernel⟩
def T_is_pair_of (sp_is_pair : DSp) (dd_is_pair : List SV) (sp_is_house_of : DSp) (dd_is_house_of : List SV) (sp_lots_of : DSp) (dd_lots_of : List SV) (sp_is_index : DSp) (dd_is_index : List SV) : DS := dSq (dIfS (bOr (bNot (tb (dCall sp_is_pair dd_is_pair (aCons (dN 1) (aNil))))) (bNot (tb (dCall sp_is_house_of dd_is_house_of (aCons (dN 0) (aCons (d2 fIx (dN 1) (dC (.int 0))) (aNil))))))) (dRet 99 (dC (.bool false))) (dNx)) (dRet 99 (dCall sp_is_index dd_is_index (aCons (d2 fIx (dN 1) (dC (.int 1))) (aCons (dB fLen (dCall sp_lots_of dd_lots_of (aCons (dN 0) (aCons (d2 fIx (dN 1) (dC (.int 0))) (aNil))))) (aNil)))))
theorem b_is_pair_of (c : Cf K mg) {sp_is_pair : DSp} {dd_is_pair : List SV} (c_is_pair : CalD P w K mg base "is_pair" 2 sp_is_pair dd_is_pair) {sp_is_house_of : DSp} {dd_is_house_of : List SV} (c_is_house_of : CalD P w K mg base "is_house_of" 2 sp_is_house_of dd_is_house_of) {sp_lots_of : DSp} {dd_lots_of : List SV} (c_lots_of : CalD P w K mg base "lots_of" 1 sp_lots_of dd_lots_of) {sp_is_index : DSp} {dd_is_index : List SV} (c_is_index : CalD P w K mg base "is_index" 3 sp_is_index dd_is_index) (f : Addr) (cdv : Value) (A : Around) (outer : List Env) (s : Shared) (H : Hp) (E : XK) (hr : Room 3 (A.deeper (envOfC "is_pair_of" (defScope s_is_pair_of) s.heap.objs.size f cdv))) :
    PSs (cxOf CX0 P w K mg base N_is_pair_of "is_pair_of" (defScope s_is_pair_of) f cdv A outer s H E).nox (defBody s_is_pair_of) (ls 99 (T_is_pair_of sp_is_pair dd_is_pair sp_is_house_of dd_is_house_of sp_lots_of dd_lots_of sp_is_index dd_is_index)) :=
  dss_cons (ds_if (PW.pt (dw_or (dt_not (dt_val (de_c c_is_pair hr (by rfl) (da_cons (de_n 1) (da_nil))))) (dw_or1 (dt_not (dt_val (de_c c_is_house_of hr (by rfl) (da_cons (de_n 0) (da_cons (de_ix (de_n 1) (de_int)) (da_nil))))))))) (dss_one (ds_ret (de_bl))) (dss_nil)) (dss_one (ds_ret (de_c c_is_index hr (by rfl) (da_cons (de_ix (de_n 1) (de_int)) (da_cons (de_b r_len call_len (by rfl) (c.free 11) (by rfl) (de_c c_lots_of hr (by rfl) (da_cons (de_n 0) (da_cons (de_ix (de_n 1) (de_int)) (da_nil))))) (da_nil))))))
def N_want : List Str := ["is_fit", "name", "at"]
theorem sc_want : FnScope N_want ["is_fit", "name", "at"] (defScope s_want) := ⟨rfl, rfl, rfl, by decide +kernel, rfl, by decide +kernel, by decide +kernel⟩
def T_want  : DS := dIfS (bNot (tb (dN 0))) (dNo) (dNx)
theorem b_want (c : Cf K mg)  (f : Addr) (cdv : Value) (A : Around) (outer : List Env) (s : Shared) (H : Hp) (E : XK) (hr : Room 0 (A.deeper (envOfC "want" (defScope s_want) s.heap.objs.size f cdv))) :
    PSs (cxOf CX0 P w K mg base N_want "want" (defScope s_want) f cdv A outer s H E).nox (defBody s_want) (ls 99 (T_want )) :=
  dss_one (ds_if (dt_not (dt_val (de_n 0))) (dss_no) (dss_nil))
def N_want_book : List Str := ["value", "name"]
theorem sc_want_book : FnScope N_want_book ["value", "name"] (defScope s_want_book) := ⟨rfl, rfl, rfl, by decide +kernel, rfl, by decide +kernel, by decide +kernel⟩
def T_want_book (sp_is_book : DSp) (dd_is_book : List SV) (sp_want : DSp) (dd_want : List SV) : DS := dDo (dCall sp_want dd_want (aCons (dCall sp_is_book dd_is_book (aCons (dN 0) (aNil))) (aCons (dN 1) (aNil))))
theorem b_want_book (c : Cf K mg) {sp_is_book : DSp} {dd_is_book : List SV} (c_is_book : CalD P w K mg base "is_book" 7 sp_is_book dd_is_book) {sp_want : DSp} {dd_want : List SV} (c_want : CalD P w K mg base "want" 1 sp_want dd_want) (f : Addr) (cdv : Value) (A : Around) (outer : List Env) (s : Shared) (H : Hp) (E : XK) (hr : Room 7 (A.deeper (envOfC "want_book" (defScope s_want_book) s.heap.objs.size f cdv))) :
    PSs (cxOf CX0 P w K mg base N_want_book "want_book" (defScope s_want_book) f cdv A outer s H E).nox (defBody s_want_book) (ls 99 (T_want_book sp_is_book dd_is_book sp_want dd_want)) :=
  dss_one (ds_do (de_c c_want hr (by rfl) (da_cons (de_c c_is_book hr (by rfl) (da_cons (de_n 0) (da_nil))) (da_cons (de_n 1) (da_nil)))))
def N_want_age : List Str := ["book", "age"]
theorem sc_want_age : FnScope N_want_age ["book", "age"] (defScope s_want_age) := ⟨rfl, rfl, rfl, by decide +kernel, rfl, by decide +kernel, by decide +kernel⟩
def T_want_age (sp_is_number : DSp) (dd_is_number : List SV) (sp_want : DSp) (dd_want : List SV) : DS := dDo (dCall sp_want dd_want (aCons (dAnd (dCall sp_is_number dd_is_number (aCons (dN 1) (aNil))) (dOr (d2 fEq (dN 1) (dC (.int 0))) (d2 fEq (dB fLen (d2 fIx (dN 0) (dC (.int 4)))) (dC (.int 0))))) (aCons (dC (.str "age")) (aNil))))
theorem b_want_age (c : Cf K mg) {sp_is_number : DSp} {dd_is_number : List SV} (c_is_number : CalD P w K mg base "is_number" 2 sp_is_number dd_is_number) {sp_want : DSp} {dd_want : List SV} (c_want : CalD P w K mg base "want" 1 sp_want dd_want) (f : Addr) (cdv : Value) (A : Around) (outer : List Env) (s : Shared) (H : Hp) (E : XK) (hr : Room 2 (A.deeper (envOfC "want_age" (defScope s_want_age) s.heap.objs.size f cdv))) :
    PSs (cxOf CX0 P w K mg base N_want_age "want_age" (defScope s_want_age) f cdv A outer s H E).nox (defBody s_want_age) (ls 99 (T_want_age sp_is_number dd_is_number sp_want dd_want)) :=
  dss_one (ds_do (de_c c_want hr (by rfl) (da_cons (de_and (de_c c_is_number hr (by rfl) (da_cons (de_n 1) (da_nil))) (de_one (de_or (de_cmp r_eq (op_eqD (Room.units hr)) (de_n 1) (de_int) rfl) (de_one (de_cmp r_eq (op_eqD (Room.units hr)) (de_b r_len call_len (by rfl) (c.free 11) (by rfl) (de_ix (de_n 0) (de_int))) (de_int) rfl))))) (da_cons (de_str) (da_nil)))))
def N_want_trust : List Str := ["trust", "name"]
theorem sc_want_trust : FnScope N_want_trust ["trust", "name"] (defScope s_want_trust) := ⟨rfl, rfl, rfl, by decide +kernel, rfl, by decide +kernel, by decide +kernel⟩
def T_want_trust (sp_is_trust : DSp) (dd_is_trust : List SV) (sp_want : DSp) (dd_want : List SV) : DS := dDo (dCall sp_want dd_want (aCons (dCall sp_is_trust dd_is_trust (aCons (dN 0) (aNil))) (aCons (dN 1) (aNil))))
theorem b_want_trust (c : Cf K mg) {sp_is_trust : DSp} {dd_is_trust : List SV} (c_is_trust : CalD P w K mg base "is_trust" 6 sp_is_trust dd_is_trust) {sp_want : DSp} {dd_want : List SV} (c_want : CalD P w K mg base "want" 1 sp_want dd_want) (f : Addr) (cdv : Value) (A : Around) (outer : List Env) (s : Shared) (H : Hp) (E : XK) (hr : Room 6 (A.deeper (envOfC "want_trust" (defScope s_want_trust) s.heap.objs.size f cdv))) :
    PSs (cxOf CX0 P w K mg base N_want_trust "want_trust" (defScope s_want_trust) f cdv A outer s H E).nox (defBody s_want_trust) (ls 99 (T_want_trust sp_is_trust dd_is_trust sp_want dd_want)) :=
  dss_one (ds_do (de_c c_want hr (by rfl) (da_cons (de_c c_is_trust hr (by rfl) (da_cons (de_n 0) (da_nil))) (da_cons (de_n 1) (da_nil)))))
def N_want_house : List Str := ["trust", "house", "name"]
theorem sc_want_house : FnScope N_want_house ["trust", "house", "name"] (defScope s_want_house) := ⟨rfl, rfl, rfl, by decide +kernel, rfl, by decide +kernel, by decide +kernel⟩
def T_want_house (sp_is_house_of : DSp) (dd_is_house_of : List SV) (sp_want : DSp) (dd_want : List SV) : DS := dDo (dCall sp_want dd_want (aCons (dCall sp_is_house_of dd_is_house_of (aCons (dN 0) (aCons (dN 1) (aNil)))) (aCons (dN 2) (aNil))))
theorem b_want_house (c : Cf K mg) {sp_is_house_of : DSp} {dd_is_house_of : List SV} (c_is_house_of : CalD P w K mg base "is_house_of" 2 sp_is_house_of dd_is_house_of) {sp_want : DSp} {dd_want : List SV} (c_want : CalD P w K mg base "want" 1 sp_want dd_want) (f : Addr) (cdv : Value) (A : Around) (outer : List Env) (s : Shared) (H : Hp) (E : XK) (hr : Room 2 (A.deeper (envOfC "want_house" (defScope s_want_house) s.heap.objs.size f cdv))) :
    PSs (cxOf CX0 P w K mg base N_want_house "want_house" (defScope s_want_house) f cdv A outer s H E).nox (defBody s_want_house) (ls 99 (T_want_house sp_is_house_of dd_is_house_of sp_want dd_want)) :=
  dss_one (ds_do (de_c c_want hr (by rfl) (da_cons (de_c c_is_house_of hr (by rfl) (da_cons (de_n 0) (da_cons (de_n 1) (da_nil)))) (da_cons (de_n 2) (da_nil)))))
def N_want_lot : List Str := ["trust", "lot", "name"]
theorem sc_want_lot : FnScope N_want_lot ["trust", "lot", "name"] (defScope s_want_lot) := ⟨rfl, rfl, rfl, by decide +kernel, rfl, by decide +kernel, by decide +kernel⟩
def T_want_lot (sp_are_houses_of : DSp) (dd_are_houses_of : List SV) (sp_want : DSp) (dd_want : List SV) : DS := dDo (dCall sp_want dd_want (aCons (dCall sp_are_houses_of dd_are_houses_of (aCons (dN 0) (aCons (dN 1) (aNil)))) (aCons (dN 2) (aNil))))
theorem b_want_lot (c : Cf K mg) {sp_are_houses_of : DSp} {dd_are_houses_of : List SV} (c_are_houses_of : CalD P w K mg base "are_houses_of" 4 sp_are_houses_of dd_are_houses_of) {sp_want : DSp} {dd_want : List SV} (c_want : CalD P w K mg base "want" 1 sp_want dd_want) (f : Addr) (cdv : Value) (A : Around) (outer : List Env) (s : Shared) (H : Hp) (E : XK) (hr : Room 4 (A.deeper (envOfC "want_lot" (defScope s_want_lot) s.heap.objs.size f cdv))) :
    PSs (cxOf CX0 P w K mg base N_want_lot "want_lot" (defScope s_want_lot) f cdv A outer s H E).nox (defBody s_want_lot) (ls 99 (T_want_lot sp_are_houses_of dd_are_houses_of sp_want dd_want)) :=
  dss_one (ds_do (de_c c_want hr (by rfl) (da_cons (de_c c_are_houses_of hr (by rfl) (da_cons (de_n 0) (da_cons (de_n 1) (da_nil)))) (da_cons (de_n 2) (da_nil)))))
def N_want_pair : List Str := ["trust", "pair", "name"]
theorem sc_want_pair : FnScope N_want_pair ["trust", "pair", "name"] (defScope s_want_pair) := ⟨rfl, rfl, rfl, by decide +kernel, rfl, by decide +kernel, by decide +kernel⟩
def T_want_pair (sp_is_pair_of : DSp) (dd_is_pair_of : List SV) (sp_want : DSp) (dd_want : List SV) : DS := dDo (dCall sp_want dd_want (aCons (dCall sp_is_pair_of dd_is_pair_of (aCons (dN 0) (aCons (dN 1) (aNil)))) (aCons (dN 2) (aNil))))
theorem b_want_pair (c : Cf K mg) {sp_is_pair_of : DSp} {dd_is_pair_of : List SV} (c_is_pair_of : CalD P w K mg base "is_pair_of" 4 sp_is_pair_of dd_is_pair_of) {sp_want : DSp} {dd_want : List SV} (c_want : CalD P w K mg base "want" 1 sp_want dd_want) (f : Addr) (cdv : Value) (A : Around) (outer : List Env) (s : Shared) (H : Hp) (E : XK) (hr : Room 4 (A.deeper (envOfC "want_pair" (defScope s_want_pair) s.heap.objs.size f cdv))) :
    PSs (cxOf CX0 P w K mg base N_want_pair "want_pair" (defScope s_want_pair) f cdv A outer s H E).nox (defBody s_want_pair) (ls 99 (T_want_pair sp_is_pair_of dd_is_pair_of sp_want dd_want)) :=
  dss_one (ds_do (de_c c_want hr (by rfl) (da_cons (de_c c_is_pair_of hr (by rfl) (da_cons (de_n 0) (da_cons (de_n 1) (da_nil)))) (da_cons (de_n 2) (da_nil)))))
def N_odds_fall : List Str := ["trust", "one", "other"]
theorem sc_odds_fall : FnScope N_odds_fall ["trust", "one", "other"] (defScope s_odds_fall) := ⟨rfl, rfl, rfl, by decide +kernel, rfl, by decide +kernel, by decide +kernel⟩
def T_odds_fall (sp_want_trust : DSp) (dd_want_trust : List SV) (sp_want_pair : DSp) (dd_want_pair : List SV) (sp_odds_by : DSp) (dd_odds_by : List SV) : DS := dSq (dDo (dCall sp_want_trust dd_want_trust (aCons (dN 0) (aNil)))) (dSq (dDo (dCall sp_want_pair dd_want_pair (aCons (dN 0) (aCons (dN 1) (aCons (dC (.str "one")) (aNil)))))) (dSq (dDo (dCall sp_want_pair dd_want_pair (aCons (dN 0) (aCons (dN 2) (aCons (dC (.str "other")) (aNil)))))) (dRet 99 (dCall sp_odds_by dd_odds_by (aCons (dN 0) (aCons (dN 1) (aCons (dN 2) (aNil))))))))
theorem b_odds_fall (c : Cf K mg) {sp_want_trust : DSp} {dd_want_trust : List SV} (c_want_trust : CalD P w K mg base "want_trust" 7 sp_want_trust dd_want_trust) {sp_want_pair : DSp} {dd_want_pair : List SV} (c_want_pair : CalD P w K mg base "want_pair" 5 sp_want_pair dd_want_pair) {sp_odds_by : DSp} {dd_odds_by : List SV} (c_odds_by : CalD P w K mg base "odds_by" 4 sp_odds_by dd_odds_by) (f : Addr) (cdv : Value) (A : Around) (outer : List Env) (s : Shared) (H : Hp) (E : XK) (hr : Room 7 (A.deeper (envOfC "odds_fall" (defScope s_odds_fall) s.heap.objs.size f cdv))) :
    PSs (cxOf CX0 P w K mg base N_odds_fall "odds_fall" (defScope s_odds_fall) f cdv A outer s H E).nox (defBody s_odds_fall) (ls 99 (T_odds_fall sp_want_trust dd_want_trust sp_want_pair dd_want_pair sp_odds_by dd_odds_by)) :=
  dss_cons (ds_do (de_c c_want_trust hr (by rfl) (da_cons (de_n 0) (da_nil)))) (dss_cons (ds_do (de_c c_want_pair hr (by rfl) (da_cons (de_n 0) (da_cons (de_n 1) (da_cons (de_str) (da_nil)))))) (dss_cons (ds_do (de_c c_want_pair hr (by rfl) (da_cons (de_n 0) (da_cons (de_n 2) (da_cons (de_str) (da_nil)))))) (dss_one (ds_ret (de_c c_odds_by hr (by rfl) (da_cons (de_n 0) (da_cons (de_n 1) (da_cons (de_n 2) (da_nil)))))))))
def N_all_odds : List Str := ["trust"]
theorem sc_all_odds : FnScope N_all_odds ["trust"] (defScope s_all_odds) := ⟨rfl, rfl, rfl, by decide +kernel, rfl, by decide +kernel, by decide +kernel⟩
def T_all_odds (sp_want_trust : DSp) (dd_want_trust : List SV) (sp_all_odds_by : DSp) (dd_all_odds_by : List SV) : DS := dSq (dDo (dCall sp_want_trust dd_want_trust (aCons (dN 0) (aNil)))) (dRet 99 (dB fTuple (dCall sp_all_odds_by dd_all_odds_by (aCons (dN 0) (aNil)))))
theorem b_all_odds (c : Cf K mg) {sp_want_trust : DSp} {dd_want_trust : List SV} (c_want_trust : CalD P w K mg base "want_trust" 7 sp_want_trust dd_want_trust) {sp_all_odds_by : DSp} {dd_all_odds_by : List SV} (c_all_odds_by : CalD P w K mg base "all_odds_by" 5 sp_all_odds_by dd_all_odds_by) (f : Addr) (cdv : Value) (A : Around) (outer : List Env) (s : Shared) (H : Hp) (E : XK) (hr : Room 7 (A.deeper (envOfC "all_odds" (defScope s_all_odds) s.heap.objs.size f cdv))) :
    PSs (cxOf CX0 P w K mg base N_all_odds "all_odds" (defScope s_all_odds) f cdv A outer s H E).nox (defBody s_all_odds) (ls 99 (T_all_odds sp_want_trust dd_want_trust sp_all_odds_by dd_all_odds_by)) :=
  dss_cons (ds_do (de_c c_want_trust hr (by rfl) (da_cons (de_n 0) (da_nil)))) (dss_one (ds_ret (de_ty r_tuple call_tuple_of (by rfl) (c.free 8) (by rfl) (de_c c_all_odds_by hr (by rfl) (da_cons (de_n 0) (da_nil))))))
def N_meets_needs : List Str := ["trust", "house", "lot"]
theorem sc_meets_needs : FnScope N_meets_needs ["trust", "house", "lot"] (defScope s_meets_needs) := ⟨rfl, rfl, rfl, by decide +kernel, rfl, by decide +kernel, by decide +kernel⟩
def T_meets_needs (sp_want_trust : DSp) (dd_want_trust : List SV) (sp_want_house : DSp) (dd_want_house : List SV) (sp_want_lot : DSp) (dd_want_lot : List SV) (sp_needs_by : DSp) (dd_needs_by : List SV) (sp_is_met : DSp) (dd_is_met : List SV) : DS := dSq (dDo (dCall sp_want_trust dd_want_trust (aCons (dN 0) (aNil)))) (dSq (dDo (dCall sp_want_house dd_want_house (aCons (dN 0) (aCons (dN 1) (aNil))))) (dSq (dDo (dCall sp_want_lot dd_want_lot (aCons (dN 0) (aCons (dN 2) (aNil))))) (dRet 99 (dCall sp_is_met dd_is_met (aCons (dCall sp_needs_by dd_needs_by (aCons (dN 0) (aCons (dN 1) (aNil)))) (aCons (dN 2) (aNil)))))))
theorem b_meets_needs (c : Cf K mg) {sp_want_trust : DSp} {dd_want_trust : List SV} (c_want_trust : CalD P w K mg base "want_trust" 7 sp_want_trust dd_want_trust) {sp_want_house : DSp} {dd_want_house : List SV} (c_want_house : CalD P w K mg base "want_house" 3 sp_want_house dd_want_house) {sp_want_lot : DSp} {dd_want_lot : List SV} (c_want_lot : CalD P w K mg base "want_lot" 5 sp_want_lot dd_want_lot) {sp_needs_by : DSp} {dd_needs_by : List SV} (c_needs_by : CalD P w K mg base "needs_by" 4 sp_needs_by dd_needs_by) {sp_is_met : DSp} {dd_is_met : List SV} (c_is_met : CalD P w K mg base "is_met" 3 sp_is_met dd_is_met) (f : Addr) (cdv : Value) (A : Around) (outer : List Env) (s : Shared) (H : Hp) (E : XK) (hr : Room 7 (A.deeper (envOfC "meets_needs" (defScope s_meets_needs) s.heap.objs.size f cdv))) :
    PSs (cxOf CX0 P w K mg base N_meets_needs "meets_needs" (defScope s_meets_needs) f cdv A outer s H E).nox (defBody s_meets_needs) (ls 99 (T_meets_needs sp_want_trust dd_want_trust sp_want_house dd_want_house sp_want_lot dd_want_lot sp_needs_by dd_needs_by sp_is_met dd_is_met)) :=
  dss_cons (ds_do (de_c c_want_trust hr (by rfl) (da_cons (de_n 0) (da_nil)))) (dss_cons (ds_do (de_c c_want_house hr (by rfl) (da_cons (de_n 0) (da_cons (de_n 1) (da_nil))))) (dss_cons (ds_do (de_c c_want_lot hr (by rfl) (da_cons (de_n 0) (da_cons (de_n 2) (da_nil))))) (dss_one (ds_ret (de_c c_is_met hr (by rfl) (da_cons (de_c c_needs_by hr (by rfl) (da_cons (de_n 0) (da_cons (de_n 1) (da_nil)))) (da_cons (de_n 2) (da_nil))))))))
def N_odds_faults : List Str := ["book", "one", "other"]
theorem sc_odds_faults : FnScope N_odds_faults ["book"] (defScope s_odds_faults) := ⟨rfl, rfl, rfl, by decide +kernel, rfl, by decide +kernel, by decide +kernel⟩
def T_odds_faults (sp_all_odds_by : DSp) (dd_all_odds_by : List SV) : DS := dRet 99 (dLc (iSeq (dCall sp_all_odds_by dd_all_odds_by (aCons (d2 fIx (dN 0) (dC (.int 1))) (aNil)))) (gTp 2 (gCs (gN 1) (gCs (gN 2) (gNl)))) (bYes) (dTup (aCons (dC (.str "odds")) (aCons (dN 1) (aCons (dN 2) (aNil))))) [1, 2])
theorem b_odds_faults (c : Cf K mg) {sp_all_odds_by : DSp} {dd_all_odds_by : List SV} (c_all_odds_by : CalD P w K mg base "all_odds_by" 5 sp_all_odds_by dd_all_odds_by) (f : Addr) (cdv : Value) (A : Around) (outer : List Env) (s : Shared) (H : Hp) (E : XK) (hr : Room 5 (A.deeper (envOfC "odds_faults" (defScope s_odds_faults) s.heap.objs.size f cdv))) :
    PSs (cxOf CX0 P w K mg base N_odds_faults "odds_faults" (defScope s_odds_faults) f cdv A outer s H E).nox (defBody s_odds_faults) (ls 99 (T_odds_faults sp_all_odds_by dd_all_odds_by)) :=
  dss_one (ds_ret (de_lc sc_odds_faults.nd (di_seq (de_c c_all_odds_by hr (by rfl) (da_cons (de_ix (de_n 0) (de_int)) (da_nil)))) (blkOk_by (own := [("one", 1), ("other", 2)]) (by kernel_rfl)) (fun _ _ _ _ _ => dg_tup (dg_cons (dg_n 1 sc_odds_faults.nd) (dg_cons (dg_n 2 sc_odds_faults.nd) (dg_nil)))) (fun _ _ _ _ _ => dts_nil) (fun _ _ _ _ _ => de_tup (da_cons (de_gstr (by rfl) (c.str 3)) (da_cons (de_n 1) (da_cons (de_n 2) (da_nil)))))))
def N_looking_faults : List Str := ["book", "age", "k"]
theorem sc_looking_faults : FnScope N_looking_faults ["book", "age"] (defScope s_looking_faults) := ⟨rfl, rfl, rfl, by decide +kernel, rfl, by decide +kernel, by decide +kernel⟩
def T_looking_faults  : DS := dRet 99 (dLc (iRng (dB fLen (d2 fIx (dN 0) (dC (.int 3))))) (gN 2) (tb (d2 (fIB fun i j => decide (j < i)) (dB fLen (dX)) (dC (.int 0)))) (dTup (aCons (dC (.str "looking")) (aCons (dN 2) (aNil)))) [2])
theorem b_looking_faults (c : Cf K mg)  (f : Addr) (cdv : Value) (A : Around) (outer : List Env) (s : Shared) (H : Hp) (E : XK) (hr : Room 0 (A.deeper (envOfC "looking_faults" (defScope s_looking_faults) s.heap.objs.size f cdv))) :
    PSs (cxOf CX0 P w K mg base N_looking_faults "looking_faults" (defScope s_looking_faults) f cdv A outer s H E).nox (defBody s_looking_faults) (ls 99 (T_looking_faults )) :=
  dss_one (ds_ret (de_lc sc_looking_faults.nd (di_rng (by rfl) (c.free 14) (de_b r_len call_len (by rfl) (c.free 11) (by rfl) (de_ix (de_n 0) (de_int)))) (blkOk_by (own := [("k", 2)]) (by kernel_rfl)) (fun _ _ _ _ _ => dg_n 2 sc_looking_faults.nd) (fun _ _ _ _ _ => dts_one (dt_cmp r_iB op_gt (de_b r_len call_len (by rfl) (c.free 11) (by rfl) (de_never)) (de_int) rfl)) (fun _ _ _ _ _ => de_tup (da_cons (de_gstr (by rfl) (c.str 4)) (da_cons (de_n 2) (da_nil))))))
def N_waking_faults : List Str := ["book", "k"]
theorem sc_waking_faults : FnScope N_waking_faults ["book"] (defScope s_waking_faults) := ⟨rfl, rfl, rfl, by decide +kernel, rfl, by decide +kernel, by decide +kernel⟩
def T_waking_faults  : DS := dRet 99 (dLc (iRng (dB fLen (d2 fIx (dN 0) (dC (.int 4))))) (gN 1) (bNot (tb (dX))) (dTup (aCons (dC (.str "waking")) (aCons (dN 1) (aNil)))) [1])
theorem b_waking_faults (c : Cf K mg)  (f : Addr) (cdv : Value) (A : Around) (outer : List Env) (s : Shared) (H : Hp) (E : XK) (hr : Room 0 (A.deeper (envOfC "waking_faults" (defScope s_waking_faults) s.heap.objs.size f cdv))) :
    PSs (cxOf CX0 P w K mg base N_waking_faults "waking_faults" (defScope s_waking_faults) f cdv A outer s H E).nox (defBody s_waking_faults) (ls 99 (T_waking_faults )) :=
  dss_one (ds_ret (de_lc sc_waking_faults.nd (di_rng (by rfl) (c.free 14) (de_b r_len call_len (by rfl) (c.free 11) (by rfl) (de_ix (de_n 0) (de_int)))) (blkOk_by (own := [("k", 1)]) (by kernel_rfl)) (fun _ _ _ _ _ => dg_n 1 sc_waking_faults.nd) (fun _ _ _ _ _ => dts_one (dt_not (dt_val (de_never)))) (fun _ _ _ _ _ => de_tup (da_cons (de_gstr (by rfl) (c.str 5)) (da_cons (de_n 1) (da_nil))))))
def N_odds_in_fall : List Str := ["book", "fall", "trust", "pairs", "pair", "found", "k", "one", "other"]
theorem sc_odds_in_fall : FnScope N_odds_in_fall ["book", "fall"] (defScope s_odds_in_fall) := ⟨rfl, rfl, rfl, by decide +kernel, rfl, by decide +kernel, by decide +kernel⟩
def T_odds_in_fall (sp_pairs_in : DSp) (dd_pairs_in : List SV) (sp_is_safe_by : DSp) (dd_is_safe_by : List SV) (sp_lot_at : DSp) (dd_lot_at : List SV) (sp_joint_in : DSp) (dd_joint_in : List SV) (sp_within_in : DSp) (dd_within_in : List SV) : DS := dSq (dSet 2 (d2 fIx (dN 0) (dC (.int 1)))) (dSq (dSet 3 (dLc (iSeq (dCall sp_pairs_in dd_pairs_in (aCons (dN 2) (aNil)))) (gN 4) (tb (dCall sp_is_safe_by dd_is_safe_by (aCons (dN 2) (aCons (d2 fIx (dN 4) (dC (.int 0))) (aCons (dN 1) (aNil)))))) (dN 4) [4])) (dSq (dNew 5) (dSq (dFor (iEnL (dN 3)) (gTp 2 (gCs (gN 6) (gCs (gN 7) (gNl)))) (dFor (iSeq (d2 fFrom (dN 3) (dN 6))) (gN 8) (dIfS (tb (dCall sp_within_in dd_within_in (aCons (dCall sp_joint_in dd_joint_in (aCons (dCall sp_lot_at dd_lot_at (aCons (dN 2) (aCons (dN 7) (aNil)))) (aCons (dCall sp_lot_at dd_lot_at (aCons (dN 2) (aCons (dN 8) (aNil)))) (aNil)))) (aCons (dN 1) (aNil))))) (dApp (dTup (aCons (dC (.str "odds")) (aCons (dN 7) (aCons (dN 8) (aNil)))))) (dNx)))) (dRet 5 (dN 5)))))
theorem b_odds_in_fall (c : Cf K mg) {sp_pairs_in : DSp} {dd_pairs_in : List SV} (c_pairs_in : CalD P w K mg base "pairs_in" 1 sp_pairs_in dd_pairs_in) {sp_is_safe_by : DSp} {dd_is_safe_by : List SV} (c_is_safe_by : CalD P w K mg base "is_safe_by" 2 sp_is_safe_by dd_is_safe_by) {sp_lot_at : DSp} {dd_lot_at : List SV} (c_lot_at : CalD P w K mg base "lot_at" 2 sp_lot_at dd_lot_at) {sp_joint_in : DSp} {dd_joint_in : List SV} (c_joint_in : CalD P w K mg base "joint_in" 1 sp_joint_in dd_joint_in) {sp_within_in : DSp} {dd_within_in : List SV} (c_within_in : CalD P w K mg base "within_in" 1 sp_within_in dd_within_in) (f : Addr) (cdv : Value) (A : Around) (outer : List Env) (s : Shared) (H : Hp) (E : XK) (hr : Room 2 (A.deeper (envOfC "odds_in_fall" (defScope s_odds_in_fall) s.heap.objs.size f cdv))) :
    PSs (cxOf CX0 P w K mg base N_odds_in_fall "odds_in_fall" (defScope s_odds_in_fall) f cdv A outer s H E).nox (defBody s_odds_in_fall) (ls 5 (T_odds_in_fall sp_pairs_in dd_pairs_in sp_is_safe_by dd_is_safe_by sp_lot_at dd_lot_at sp_joint_in dd_joint_in sp_within_in dd_within_in)) :=
  dss_cons (ds_set 2 sc_odds_in_fall.nd (de_ix (de_n 0) (de_int))) (dss_cons (ds_setLc 3 sc_odds_in_fall.nd (di_seq (de_c c_pairs_in hr (by rfl) (da_cons (de_n 2) (da_nil)))) (blkOk_by (own := [("pair", 4)]) (by kernel_rfl)) (fun _ _ _ _ _ => dg_n 4 sc_odds_in_fall.nd) (fun _ _ _ _ _ => dts_one (dt_val (de_c c_is_safe_by hr (by rfl) (da_cons (de_n 2) (da_cons (de_ix (de_n 4) (de_int)) (da_cons (de_n 1) (da_nil))))))) (fun _ _ _ _ _ => de_n 4)) (dss_cons (ds_new sc_odds_in_fall.nd) (dss_cons (ds_for rfl (di_enL (by rfl) (c.free 13) (de_n 3)) (dg_tup (dg_cons (dg_n 6 sc_odds_in_fall.nd) (dg_cons (dg_n 7 sc_odds_in_fall.nd) (dg_nil)))) (dss_one (ds_for rfl (di_seq (de_from (de_n 3) (de_n 6))) (dg_n 8 sc_odds_in_fall.nd) (dss_one (ds_if (dt_val (de_c c_within_in hr (by rfl) (da_cons (de_c c_joint_in hr (by rfl) (da_cons (de_c c_lot_at hr (by rfl) (da_cons (de_n 2) (da_cons (de_n 7) (da_nil)))) (da_cons (de_c c_lot_at hr (by rfl) (da_cons (de_n 2) (da_cons (de_n 8) (da_nil)))) (da_nil)))) (da_cons (de_n 1) (da_nil))))) (dss_one (ds_app (pe_bm PySem.F.plainAttrs_list PySem.F.slot_list_append PySem.F.type_list_append mt_append (pv 5) (pa_cons (de_tup (da_cons (de_gstr (by rfl) (c.str 3)) (da_cons (de_n 7) (da_cons (de_n 8) (da_nil))))) pa_nil)))) (dss_nil)))))) (dss_one (ds_ret (de_n 5))))))
def N_is_as_one : List Str := ["book", "age"]
theorem sc_is_as_one : FnScope N_is_as_one ["book", "age"] (defScope s_is_as_one) := ⟨rfl, rfl, rfl, by decide +kernel, rfl, by decide +kernel, by decide +kernel⟩
def T_is_as_one (sp_want_book : DSp) (dd_want_book : List SV) (sp_want_age : DSp) (dd_want_age : List SV) (sp_faults_by : DSp) (dd_faults_by : List SV) : DS := dSq (dDo (dCall sp_want_book dd_want_book (aCons (dN 0) (aNil)))) (dSq (dDo (dCall sp_want_age dd_want_age (aCons (dN 0) (aCons (dN 1) (aNil))))) (dRet 99 (d2 fEq (dB fLen (dCall sp_faults_by dd_faults_by (aCons (dN 0) (aCons (dN 1) (aNil))))) (dC (.int 0)))))
theorem b_is_as_one (c : Cf K mg) {sp_want_book : DSp} {dd_want_book : List SV} (c_want_book : CalD P w K mg base "want_book" 8 sp_want_book dd_want_book) {sp_want_age : DSp} {dd_want_age : List SV} (c_want_age : CalD P w K mg base "want_age" 3 sp_want_age dd_want_age) {sp_faults_by : DSp} {dd_faults_by : List SV} (c_faults_by : CalD P w K mg base "faults_by" 7 sp_faults_by dd_faults_by) (f : Addr) (cdv : Value) (A : Around) (outer : List Env) (s : Shared) (H : Hp) (E : XK) (hr : Room 8 (A.deeper (envOfC "is_as_one" (defScope s_is_as_one) s.heap.objs.size f cdv))) :
    PSs (cxOf CX0 P w K mg base N_is_as_one "is_as_one" (defScope s_is_as_one) f cdv A outer s H E).nox (defBody s_is_as_one) (ls 99 (T_is_as_one sp_want_book dd_want_book sp_want_age dd_want_age sp_faults_by dd_faults_by)) :=
  dss_cons (ds_do (de_c c_want_book hr (by rfl) (da_cons (de_n 0) (da_nil)))) (dss_cons (ds_do (de_c c_want_age hr (by rfl) (da_cons (de_n 0) (da_cons (de_n 1) (da_nil))))) (dss_one (ds_ret (de_cmp r_eq (op_eqD (Room.units hr)) (de_b r_len call_len (by rfl) (c.free 11) (by rfl) (de_c c_faults_by hr (by rfl) (da_cons (de_n 0) (da_cons (de_n 1) (da_nil))))) (de_int) rfl))))
def N_first_fault : List Str := ["book", "age", "found"]
theorem sc_first_fault : FnScope N_first_fault ["book", "age"] (defScope s_first_fault) := ⟨rfl, rfl, rfl, by decide +kernel, rfl, by decide +kernel, by decide +kernel⟩
def T_first_fault (sp_want_book : DSp) (dd_want_book : List SV) (sp_want_age : DSp) (dd_want_age : List SV) (sp_faults_by : DSp) (dd_faults_by : List SV) : DS := dSq (dDo (dCall sp_want_book dd_want_book (aCons (dN 0) (aNil)))) (dSq (dDo (dCall sp_want_age dd_want_age (aCons (dN 0) (aCons (dN 1) (aNil))))) (dSq (dSet 2 (dCall sp_faults_by dd_faults_by (aCons (dN 0) (aCons (dN 1) (aNil))))) (dRet 99 (dIf (tb (d2 (fIB fun i j => decide (j < i)) (dB fLen (dN 2)) (dC (.int 0)))) (d2 fIx (dN 2) (dC (.int 0))) (dC .none)))))
theorem b_first_fault (c : Cf K mg) {sp_want_book : DSp} {dd_want_book : List SV} (c_want_book : CalD P w K mg base "want_book" 8 sp_want_book dd_want_book) {sp_want_age : DSp} {dd_want_age : List SV} (c_want_age : CalD P w K mg base "want_age" 3 sp_want_age dd_want_age) {sp_faults_by : DSp} {dd_faults_by : List SV} (c_faults_by : CalD P w K mg base "faults_by" 7 sp_faults_by dd_faults_by) (f : Addr) (cdv : Value) (A : Around) (outer : List Env) (s : Shared) (H : Hp) (E : XK) (hr : Room 8 (A.deeper (envOfC "first_fault" (defScope s_first_fault) s.heap.objs.size f cdv))) :
    PSs (cxOf CX0 P w K mg base N_first_fault "first_fault" (defScope s_first_fault) f cdv A outer s H E).nox (defBody s_first_fault) (ls 99 (T_first_fault sp_want_book dd_want_book sp_want_age dd_want_age sp_faults_by dd_faults_by)) :=
  dss_cons (ds_do (de_c c_want_book hr (by rfl) (da_cons (de_n 0) (da_nil)))) (dss_cons (ds_do (de_c c_want_age hr (by rfl) (da_cons (de_n 0) (da_cons (de_n 1) (da_nil))))) (dss_cons (ds_set 2 sc_first_fault.nd (de_c c_faults_by hr (by rfl) (da_cons (de_n 0) (da_cons (de_n 1) (da_nil))))) (dss_one (ds_ret (de_if (dt_cmp r_iB op_gt (de_b r_len call_len (by rfl) (c.free 11) (by rfl) (de_n 2)) (de_int) rfl) (de_ix (de_n 2) (de_int)) (de_non))))))
def N__law_any : List Str := ["_law_feed_here", "_law_some"]
theorem sc__law_any : FnScope N__law_any ["_law_feed_here", "_law_some"] (defScope s__law_any) := ⟨rfl, rfl, rfl, by decide +kernel, rfl, by decide +kernel, by decide +kernel⟩
def T__law_any (sp__law_draw : DSp) (dd__law_draw : List SV) : DS := dRet 99 (d2 fIx (dN 1) (dCall sp__law_draw dd__law_draw (aFeed 0 (aCons (dB fLen (dN 1)) (aNil)))))
theorem b__law_any (c : Cf K mg) {sp__law_draw : DSp} {dd__law_draw : List SV} (c__law_draw : CalD P w K mg base "_law_draw" 1 sp__law_draw dd__law_draw) (f : Addr) (cdv : Value) (A : Around) (outer : List Env) (s : Shared) (H : Hp) (E : XK) (hr : Room 1 (A.deeper (envOfC "_law_any" (defScope s__law_any) s.heap.objs.size f cdv))) :
    PSs (cxOf CX0 P w K mg base N__law_any "_law_any" (defScope s__law_any) f cdv A outer s H E).nox (defBody s__law_any) (ls 99 (T__law_any sp__law_draw dd__law_draw)) :=
  dss_one (ds_ret (de_ix (de_n 1) (de_c c__law_draw hr (by rfl) (da_feed 0 (da_cons (de_b r_len call_len (by rfl) (c.free 11) (by rfl) (de_n 1)) (da_nil))))))
def N__law_within : List Str := ["_law_some", "_law_other", "_law_name"]
theorem sc__law_within : FnScope N__law_within ["_law_some", "_law_other"] (defScope s__law_within) := ⟨rfl, rfl, rfl, by decide +kernel, rfl, by decide +kernel, by decide +kernel⟩
def T__law_within  : DS := dRet 99 (d2 fEq (dLc (iSeq (dN 0)) (gN 2) (tb (d2 fNi (dN 2) (dN 1))) (dN 2) [2]) (dLst (aNil)))
theorem b__law_within (c : Cf K mg)  (f : Addr) (cdv : Value) (A : Around) (outer : List Env) (s : Shared) (H : Hp) (E : XK) (hr : Room 0 (A.deeper (envOfC "_law_within" (defScope s__law_within) s.heap.objs.size f cdv))) :
    PSs (cxOf CX0 P w K mg base N__law_within "_law_within" (defScope s__law_within) f cdv A outer s H E).nox (defBody s__law_within) (ls 99 (T__law_within )) :=
  dss_one (ds_ret (de_cmp r_eq (op_eqD (Room.units hr)) (de_lc sc__law_within.nd (di_seq (de_n 0)) (blkOk_by (own := [("_law_name", 2)]) (by kernel_rfl)) (fun _ _ _ _ _ => dg_n 2 sc__law_within.nd) (fun _ _ _ _ _ => dts_one (dt_cmp r_ni (op_niS (Room.u65 hr)) (de_n 2) (de_n 1) rfl)) (fun _ _ _ _ _ => de_n 2)) (de_lst (da_nil)) rfl))
def N__law_less : List Str := ["_law_some", "_law_other", "_law_name"]
theorem sc__law_less : FnScope N__law_less ["_law_some", "_law_other"] (defScope s__law_less) := ⟨rfl, rfl, rfl, by decide +kernel, rfl, by decide +kernel, by decide +kernel⟩
def T__law_less  : DS := dRet 99 (dB fTuple (dLc (iSeq (dN 0)) (gN 2) (tb (d2 fNi (dN 2) (dN 1))) (dN 2) [2]))
theorem b__law_less (c : Cf K mg)  (f : Addr) (cdv : Value) (A : Around) (outer : List Env) (s : Shared) (H : Hp) (E : XK) (hr : Room 0 (A.deeper (envOfC "_law_less" (defScope s__law_less) s.heap.objs.size f cdv))) :
    PSs (cxOf CX0 P w K mg base N__law_less "_law_less" (defScope s__law_less) f cdv A outer s H E).nox (defBody s__law_less) (ls 99 (T__law_less )) :=
  dss_one (ds_ret (de_ty r_tuple call_tuple_of (by rfl) (c.free 8) (by rfl) (de_lc sc__law_less.nd (di_seq (de_n 0)) (blkOk_by (own := [("_law_name", 2)]) (by kernel_rfl)) (fun _ _ _ _ _ => dg_n 2 sc__law_less.nd) (fun _ _ _ _ _ => dts_one (dt_cmp r_ni (op_niS (Room.u65 hr)) (de_n 2) (de_n 1) rfl)) (fun _ _ _ _ _ => de_n 2))))
def N__law_subsets : List Str := ["_law_names", "_law_found", "_law_name", "_law_some"]
theorem sc__law_subsets : FnScope N__law_subsets ["_law_names"] (defScope s__law_subsets) := ⟨rfl, rfl, rfl, by decide +kernel, rfl, by decide +kernel, by decide +kernel⟩
def T__law_subsets  : DS := dSq (dSet 1 (dLst (aCons (dTup (aNil)) (aNil)))) (dSq (dFor (iSeq (dN 0)) (gN 2) (dSet 1 (d2 fCat (dN 1) (dLc (iSeq (dN 1)) (gN 3) (bYes) (d2 fCatT (dN 3) (dTup (aCons (dN 2) (aNil)))) [3])))) (dRet 99 (dN 1)))
theorem b__law_subsets (c : Cf K mg)  (f : Addr) (cdv : Value) (A : Around) (outer : List Env) (s : Shared) (H : Hp) (E : XK) (hr : Room 0 (A.deeper (envOfC "_law_subsets" (defScope s__law_subsets) s.heap.objs.size f cdv))) :
    PSs (cxOf CX0 P w K mg base N__law_subsets "_law_subsets" (defScope s__law_subsets) f cdv A outer s H E).nox (defBody s__law_subsets) (ls 99 (T__law_subsets )) :=
  dss_cons (ds_set 1 sc__law_subsets.nd (de_lst (da_cons (de_tup (da_nil)) (da_nil)))) (dss_cons (ds_for rfl (di_seq (de_n 0)) (dg_n 2 sc__law_subsets.nd) (dss_one (ds_set 1 sc__law_subsets.nd (de_op r_cat op_cat (de_n 1) (de_lc sc__law_subsets.nd (di_seq (de_n 1)) (blkOk_by (own := [("_law_some", 3)]) (by kernel_rfl)) (fun _ _ _ _ _ => dg_n 3 sc__law_subsets.nd) (fun _ _ _ _ _ => dts_nil) (fun _ _ _ _ _ => de_op r_catT op_catA (de_n 3) (de_tup (da_cons (de_n 2) (da_nil))))))))) (dss_one (ds_ret (de_n 1))))
def N__law_safe : List Str := ["_law_guild_here", "_law_some", "_law_found", "_law_name", "_law_own", "_law_scares", "_law_one"]
theorem sc__law_safe : FnScope N__law_safe ["_law_guild_here", "_law_some"] (defScope s__law_safe) := ⟨rfl, rfl, rfl, by decide +kernel, rfl, by decide +kernel, by decide +kernel⟩
def T__law_safe (sp__law_within : DSp) (dd__law_within : List SV) : DS := dSq (dNew 2) (dSq (dFor (iSeq (dN 0)) (gTp 3 (gCs (gN 3) (gCs (gN 4) (gCs (gN 5) (gNl))))) (dIfS (bAnd (tb (d2 fNi (dN 3) (dN 1))) (tb (d2 fNe (dLc (iSeq (dN 5)) (gN 6) (tb (dCall sp__law_within dd__law_within (aCons (dN 1) (aCons (dN 6) (aNil))))) (dN 6) [6]) (dLst (aNil))))) (dApp (dN 3)) (dNx))) (dRet 2 (dN 2)))
theorem b__law_safe (c : Cf K mg) {sp__law_within : DSp} {dd__law_within : List SV} (c__law_within : CalD P w K mg base "_law_within" 1 sp__law_within dd__law_within) (f : Addr) (cdv : Value) (A : Around) (outer : List Env) (s : Shared) (H : Hp) (E : XK) (hr : Room 1 (A.deeper (envOfC "_law_safe" (defScope s__law_safe) s.heap.objs.size f cdv))) :
    PSs (cxOf CX0 P w K mg base N__law_safe "_law_safe" (defScope s__law_safe) f cdv A outer s H E).nox (defBody s__law_safe) (ls 2 (T__law_safe sp__law_within dd__law_within)) :=
  dss_cons (ds_new sc__law_safe.nd) (dss_cons (ds_for rfl (di_seq (de_n 0)) (dg_tup (dg_cons (dg_n 3 sc__law_safe.nd) (dg_cons (dg_n 4 sc__law_safe.nd) (dg_cons (dg_n 5 sc__law_safe.nd) (dg_nil))))) (dss_one (ds_if (PW.pt (dw_and (dt_cmp r_ni (op_niS (Room.u65 hr)) (de_n 3) (de_n 1) rfl) (dw_and1 (dt_cmp r_ne (op_neD (Room.units hr)) (de_lc sc__law_safe.nd (di_seq (de_n 5)) (blkOk_by (own := [("_law_one", 6)]) (by kernel_rfl)) (fun _ _ _ _ _ => dg_n 6 sc__law_safe.nd) (fun _ _ _ _ _ => dts_one (dt_val (de_c c__law_within hr (by rfl) (da_cons (de_n 1) (da_cons (de_n 6) (da_nil)))))) (fun _ _ _ _ _ => de_n 6)) (de_lst (da_nil)) rfl)))) (dss_one (ds_app (pe_bm PySem.F.plainAttrs_list PySem.F.slot_list_append PySem.F.type_list_append mt_append (pv 2) (pa_cons (de_n 3) pa_nil)))) (dss_nil)))) (dss_one (ds_ret (de_n 2))))
def N__law_safes : List Str := ["_law_guild_here", "_law_names", "_law_one", "_law_found", "_law_some", "_law_pair"]
theorem sc__law_safes : FnScope N__law_safes ["_law_guild_here"] (defScope s__law_safes) := ⟨rfl, rfl, rfl, by decide +kernel, rfl, by decide +kernel, by decide +kernel⟩
def T__law_safes (sp__law_subsets : DSp) (dd__law_subsets : List SV) (sp__law_safe : DSp) (dd__law_safe : List SV) : DS := dSq (dSet 1 (dLc (iSeq (dN 0)) (gN 2) (bYes) (d2 fIx (dN 2) (dC (.int 0))) [2])) (dSq (dSet 3 (dLc (iSeq (dCall sp__law_subsets dd__law_subsets (aCons (dN 1) (aNil)))) (gN 4) (bYes) (dTup (aCons (dN 4) (aCons (dCall sp__law_safe dd__law_safe (aCons (dN 0) (aCons (dN 4) (aNil)))) (aNil)))) [4])) (dRet 99 (dLc (iSeq (dN 3)) (gN 5) (tb (d2 fNe (d2 fIx (dN 5) (dC (.int 1))) (dLst (aNil)))) (dN 5) [5])))
theorem b__law_safes (c : Cf K mg) {sp__law_subsets : DSp} {dd__law_subsets : List SV} (c__law_subsets : CalD P w K mg base "_law_subsets" 1 sp__law_subsets dd__law_subsets) {sp__law_safe : DSp} {dd__law_safe : List SV} (c__law_safe : CalD P w K mg base "_law_safe" 2 sp__law_safe dd__law_safe) (f : Addr) (cdv : Value) (A : Around) (outer : List Env) (s : Shared) (H : Hp) (E : XK) (hr : Room 2 (A.deeper (envOfC "_law_safes" (defScope s__law_safes) s.heap.objs.size f cdv))) :
    PSs (cxOf CX0 P w K mg base N__law_safes "_law_safes" (defScope s__law_safes) f cdv A outer s H E).nox (defBody s__law_safes) (ls 99 (T__law_safes sp__law_subsets dd__law_subsets sp__law_safe dd__law_safe)) :=
  dss_cons (ds_setLc 1 sc__law_safes.nd (di_seq (de_n 0)) (blkOk_by (own := [("_law_one", 2)]) (by kernel_rfl)) (fun _ _ _ _ _ => dg_n 2 sc__law_safes.nd) (fun _ _ _ _ _ => dts_nil) (fun _ _ _ _ _ => de_ix (de_n 2) (de_int))) (dss_cons (ds_setLc 3 sc__law_safes.nd (di_seq (de_c c__law_subsets hr (by rfl) (da_cons (de_n 1) (da_nil)))) (blkOk_by (own := [("_law_some", 4)]) (by kernel_rfl)) (fun _ _ _ _ _ => dg_n 4 sc__law_safes.nd) (fun _ _ _ _ _ => dts_nil) (fun _ _ _ _ _ => de_tup (da_cons (de_n 4) (da_cons (de_c c__law_safe hr (by rfl) (da_cons (de_n 0) (da_cons (de_n 4) (da_nil)))) (da_nil))))) (dss_one (ds_ret (de_lc sc__law_safes.nd (di_seq (de_n 3)) (blkOk_by (own := [("_law_pair", 5)]) (by kernel_rfl)) (fun _ _ _ _ _ => dg_n 5 sc__law_safes.nd) (fun _ _ _ _ _ => dts_one (dt_cmp r_ne (op_neD (Room.units hr)) (de_ix (de_n 5) (de_int)) (de_lst (da_nil)) rfl)) (fun _ _ _ _ _ => de_n 5)))))
def N__law_needs : List Str := ["_law_guild_here", "_law_safes_here", "_law_name", "_law_found", "_law_some", "_law_fine", "_law_other", "_law_own", "_law_scares", "_law_one"]
theorem sc__law_needs : FnScope N__law_needs ["_law_guild_here", "_law_safes_here", "_law_name"] (defScope s__law_needs) := ⟨rfl, rfl, rfl, by decide +kernel, rfl, by decide +kernel, by decide +kernel⟩
def T__law_needs (sp__law_less : DSp) (dd__law_less : List SV) (sp__law_minimal : DSp) (dd__law_minimal : List SV) : DS := dSq (dSet 3 (dLst (aNil))) (dSq (dFor (iSeq (dN 1)) (gTp 2 (gCs (gN 4) (gCs (gN 5) (gNl)))) (dFor (iSeq (dN 0)) (gTp 3 (gCs (gN 6) (gCs (gN 7) (gCs (gN 8) (gNl))))) (dIfS (bAnd (tb (d2 fIn (dN 2) (dN 5))) (bAnd (tb (d2 fIn (dN 6) (dN 5))) (tb (d2 fNe (dN 6) (dN 2))))) (dSet 3 (d2 fCat (dN 3) (dLc (iSeq (dN 7)) (gN 9) (bYes) (dCall sp__law_less dd__law_less (aCons (dN 9) (aCons (dN 4) (aNil)))) [9]))) (dNx)))) (dRet 99 (dCall sp__law_minimal dd__law_minimal (aCons (dN 3) (aNil)))))
theorem b__law_needs (c : Cf K mg) {sp__law_less : DSp} {dd__law_less : List SV} (c__law_less : CalD P w K mg base "_law_less" 1 sp__law_less dd__law_less) {sp__law_minimal : DSp} {dd__law_minimal : List SV} (c__law_minimal : CalD P w K mg base "_law_minimal" 2 sp__law_minimal dd__law_minimal) (f : Addr) (cdv : Value) (A : Around) (outer : List Env) (s : Shared) (H : Hp) (E : XK) (hr : Room 2 (A.deeper (envOfC "_law_needs" (defScope s__law_needs) s.heap.objs.size f cdv))) :
    PSs (cxOf CX0 P w K mg base N__law_needs "_law_needs" (defScope s__law_needs) f cdv A outer s H E).nox (defBody s__law_needs) (ls 99 (T__law_needs sp__law_less dd__law_less sp__law_minimal dd__law_minimal)) :=
  dss_cons (ds_set 3 sc__law_needs.nd (de_lst (da_nil))) (dss_cons (ds_for rfl (di_seq (de_n 1)) (dg_tup (dg_cons (dg_n 4 sc__law_needs.nd) (dg_cons (dg_n 5 sc__law_needs.nd) (dg_nil)))) (dss_one (ds_for rfl (di_seq (de_n 0)) (dg_tup (dg_cons (dg_n 6 sc__law_needs.nd) (dg_cons (dg_n 7 sc__law_needs.nd) (dg_cons (dg_n 8 sc__law_needs.nd) (dg_nil))))) (dss_one (ds_if (PW.pt (dw_and (dt_cmp r_in (op_inS (Room.u65 hr)) (de_n 2) (de_n 5) rfl) (dw_and (dt_cmp r_in (op_inS (Room.u65 hr)) (de_n 6) (de_n 5) rfl) (dw_and1 (dt_cmp r_ne (op_neD (Room.units hr)) (de_n 6) (de_n 2) rfl))))) (dss_one (ds_set 3 sc__law_needs.nd (de_op r_cat op_cat (de_n 3) (de_lc sc__law_needs.nd (di_seq (de_n 7)) (blkOk_by (own := [("_law_one", 9)]) (by kernel_rfl)) (fun _ _ _ _ _ => dg_n 9 sc__law_needs.nd) (fun _ _ _ _ _ => dts_nil) (fun _ _ _ _ _ => de_c c__law_less hr (by rfl) (da_cons (de_n 9) (da_cons (de_n 4) (da_nil)))))))) (dss_nil)))))) (dss_one (ds_ret (de_c c__law_minimal hr (by rfl) (da_cons (de_n 3) (da_nil))))))
def N__law_meets : List Str := ["_law_needs_here", "_law_some", "_law_one", "_law_name"]
theorem sc__law_meets : FnScope N__law_meets ["_law_needs_here", "_law_some"] (defScope s__law_meets) := ⟨rfl, rfl, rfl, by decide +kernel, rfl, by decide +kernel, by decide +kernel⟩
def T__law_meets  : DS := dRet 99 (d2 fEq (dLc (iSeq (dN 0)) (gN 2) (tb (d2 fEq (dLc (iSeq (dN 2)) (gN 3) (tb (d2 fIn (dN 3) (dN 1))) (dN 3) [3]) (dLst (aNil)))) (dN 2) [2]) (dLst (aNil)))
theorem b__law_meets (c : Cf K mg)  (f : Addr) (cdv : Value) (A : Around) (outer : List Env) (s : Shared) (H : Hp) (E : XK) (hr : Room 0 (A.deeper (envOfC "_law_meets" (defScope s__law_meets) s.heap.objs.size f cdv))) :
    PSs (cxOf CX0 P w K mg base N__law_meets "_law_meets" (defScope s__law_meets) f cdv A outer s H E).nox (defBody s__law_meets) (ls 99 (T__law_meets )) :=
  dss_one (ds_ret (de_cmp r_eq (op_eqD (Room.units hr)) (de_lc sc__law_meets.nd (di_seq (de_n 0)) (blkOk_by (own := [("_law_one", 2)]) (by kernel_rfl)) (fun _ _ _ _ _ => dg_n 2 sc__law_meets.nd) (fun _ _ _ _ _ => dts_one (dt_cmp r_eq (op_eqD (Room.units hr)) (de_lc sc__law_meets.nd (di_seq (de_n 2)) (blkOk_by (own := [("_law_name", 3)]) (by kernel_rfl)) (fun _ _ _ _ _ => dg_n 3 sc__law_meets.nd) (fun _ _ _ _ _ => dts_one (dt_cmp r_in (op_inS (Room.u65 hr)) (de_n 3) (de_n 1) rfl)) (fun _ _ _ _ _ => de_n 3)) (de_lst (da_nil)) rfl)) (fun _ _ _ _ _ => de_n 2)) (de_lst (da_nil)) rfl))
def N__law_all_pairs : List Str := ["_law_guild_here", "_law_found", "_law_name", "_law_own", "_law_scares", "_law_k"]
theorem sc__law_all_pairs : FnScope N__law_all_pairs ["_law_guild_here"] (defScope s__law_all_pairs) := ⟨rfl, rfl, rfl, by decide +kernel, rfl, by decide +kernel, by decide +kernel⟩
def T__law_all_pairs  : DS := dSq (dSet 1 (dLst (aNil))) (dSq (dFor (iSeq (dN 0)) (gTp 3 (gCs (gN 2) (gCs (gN 3) (gCs (gN 4) (gNl))))) (dSet 1 (d2 fCat (dN 1) (dLc (iRng (dB fLen (dN 3))) (gN 5) (bYes) (dTup (aCons (dN 2) (aCons (dN 5) (aNil)))) [5])))) (dRet 99 (dN 1)))
theorem b__law_all_pairs (c : Cf K mg)  (f : Addr) (cdv : Value) (A : Around) (outer : List Env) (s : Shared) (H : Hp) (E : XK) (hr : Room 0 (A.deeper (envOfC "_law_all_pairs" (defScope s__law_all_pairs) s.heap.objs.size f cdv))) :
    PSs (cxOf CX0 P w K mg base N__law_all_pairs "_law_all_pairs" (defScope s__law_all_pairs) f cdv A outer s H E).nox (defBody s__law_all_pairs) (ls 99 (T__law_all_pairs )) :=
  dss_cons (ds_set 1 sc__law_all_pairs.nd (de_lst (da_nil))) (dss_cons (ds_for rfl (di_seq (de_n 0)) (dg_tup (dg_cons (dg_n 2 sc__law_all_pairs.nd) (dg_cons (dg_n 3 sc__law_all_pairs.nd) (dg_cons (dg_n 4 sc__law_all_pairs.nd) (dg_nil))))) (dss_one (ds_set 1 sc__law_all_pairs.nd (de_op r_cat op_cat (de_n 1) (de_lc sc__law_all_pairs.nd (di_rng (by rfl) (c.free 14) (de_b r_len call_len (by rfl) (c.free 11) (by rfl) (de_n 3))) (blkOk_by (own := [("_law_k", 5)]) (by kernel_rfl)) (fun _ _ _ _ _ => dg_n 5 sc__law_all_pairs.nd) (fun _ _ _ _ _ => dts_nil) (fun _ _ _ _ _ => de_tup (da_cons (de_n 2) (da_cons (de_n 5) (da_nil))))))))) (dss_one (ds_ret (de_n 1))))
def N__law_odds : List Str := ["_law_guild_here", "_law_safes_here", "_law_table", "_law_found", "_law_one", "_law_some", "_law_i", "_law_j", "_law_other", "_law_both", "_law_name", "_law_falls_in", "_law_bad", "_law_fine"]
theorem sc__law_odds : FnScope N__law_odds ["_law_guild_here", "_law_safes_here"] (defScope s__law_odds) := ⟨rfl, rfl, rfl, by decide +kernel, rfl, by decide +kernel, by decide +kernel⟩
def T__law_odds (sp__law_all_pairs : DSp) (dd__law_all_pairs : List SV) (sp__law_within : DSp) (dd__law_within : List SV) : DS := dSq (dPrN 3 2 (vDict (dLc (iSeq (dN 0)) (gN 4) (bYes) (dTup (aCons (d2 fIx (dN 4) (dC (.int 0))) (aCons (d2 fIx (dN 4) (dC (.int 1))) (aNil)))) [4]))) (dSq (dSet 5 (dCall sp__law_all_pairs dd__law_all_pairs (aCons (dN 0) (aNil)))) (dSq (dFor (iRng (dB fLen (dN 5))) (gN 6) (dFor (iRg2 (dN 6) (dB fLen (dN 5))) (gN 7) (dSq (dPr 4 8 (aCons (d2 fIx (dN 5) (dN 6)) (aCons (d2 fIx (dN 5) (dN 7)) (aNil)))) (dSq (dSet 9 (dLc (iSeq (d2 fIx (dDct 2 (d2 fIx (dN 4) (dC (.int 0)))) (d2 fIx (dN 4) (dC (.int 1))))) (gN 10) (tb (d2 fIn (dN 10) (d2 fIx (dDct 2 (d2 fIx (dN 8) (dC (.int 0)))) (d2 fIx (dN 8) (dC (.int 1)))))) (dN 10) [10])) (dSq (dSet 11 (dLc (iSeq (dN 1)) (gTp 2 (gCs (gN 12) (gCs (gN 13) (gNl)))) (bAnd (tb (d2 fIn (d2 fIx (dN 4) (dC (.int 0))) (dN 13))) (tb (d2 fIn (d2 fIx (dN 8) (dC (.int 0))) (dN 13)))) (dN 12) [12, 13])) (dIfS (tb (d2 fNe (dLc (iSeq (dN 11)) (gN 12) (tb (dCall sp__law_within dd__law_within (aCons (dN 9) (aCons (dN 12) (aNil))))) (dN 12) [12]) (dLst (aNil)))) (dApp (dTup (aCons (dN 4) (aCons (dN 8) (aNil))))) (dNx))))))) (dRet 3 (dB fTuple (dN 3)))))
theorem b__law_odds (c : Cf K mg) {sp__law_all_pairs : DSp} {dd__law_all_pairs : List SV} (c__law_all_pairs : CalD P w K mg base "_law_all_pairs" 1 sp__law_all_pairs dd__law_all_pairs) {sp__law_within : DSp} {dd__law_within : List SV} (c__law_within : CalD P w K mg base "_law_within" 1 sp__law_within dd__law_within) (f : Addr) (cdv : Value) (A : Around) (outer : List Env) (s : Shared) (H : Hp) (E : XK) (hr : Room 1 (A.deeper (envOfC "_law_odds" (defScope s__law_odds) s.heap.objs.size f cdv))) :
    PSs (cxOf CX0 P w K mg base N__law_odds "_law_odds" (defScope s__law_odds) f cdv A outer s H E).nox (defBody s__law_odds) (ls 3 (T__law_odds sp__law_all_pairs dd__law_all_pairs sp__law_within dd__law_within)) :=
  dss_cons (ds_prN 2 sc__law_odds.nd (de_dict (by rfl) (c.free 20) (de_lc sc__law_odds.nd (di_seq (de_n 0)) (blkOk_by (own := [("_law_one", 4)]) (by kernel_rfl)) (fun _ _ _ _ _ => dg_n 4 sc__law_odds.nd) (fun _ _ _ _ _ => dts_nil) (fun _ _ _ _ _ => de_tup (da_cons (de_ix (de_n 4) (de_int)) (da_cons (de_ix (de_n 4) (de_int)) (da_nil))))))) (dss_cons (ds_set 5 sc__law_odds.nd (de_c c__law_all_pairs hr (by rfl) (da_cons (de_n 0) (da_nil)))) (dss_cons (ds_for rfl (di_rng (by rfl) (c.free 14) (de_b r_len call_len (by rfl) (c.free 11) (by rfl) (de_n 5))) (dg_n 6 sc__law_odds.nd) (dss_one (ds_for rfl (di_rg2 (by rfl) (c.free 14) (de_n 6) (de_b r_len call_len (by rfl) (c.free 11) (by rfl) (de_n 5))) (dg_n 7 sc__law_odds.nd) (dss_cons (ds_pr 4 8 sc__law_odds.nd (da_cons (de_ix (de_n 5) (de_n 6)) (da_cons (de_ix (de_n 5) (de_n 7)) (da_nil)))) (dss_cons (ds_set 9 sc__law_odds.nd (de_lc sc__law_odds.nd (di_seq (de_ix (de_dct (i := 2) (de_ix (de_n 4) (de_int)) (Room.u1 hr)) (de_ix (de_n 4) (de_int)))) (blkOk_by (own := [("_law_name", 10)]) (by kernel_rfl)) (fun _ _ _ _ _ => dg_n 10 sc__law_odds.nd) (fun _ _ _ _ _ => dts_one (dt_cmp r_in (op_inS (Room.u65 hr)) (de_n 10) (de_ix (de_dct (i := 2) (de_ix (de_n 8) (de_int)) (Room.u1 hr)) (de_ix (de_n 8) (de_int))) rfl)) (fun _ _ _ _ _ => de_n 10))) (dss_cons (ds_setLc 11 sc__law_odds.nd (di_seq (de_n 1)) (blkOk_by (own := [("_law_bad", 12), ("_law_fine", 13)]) (by kernel_rfl)) (fun _ _ _ _ _ => dg_tup (dg_cons (dg_n 12 sc__law_odds.nd) (dg_cons (dg_n 13 sc__law_odds.nd) (dg_nil)))) (fun _ _ _ _ _ => dts_one (PW.pt (dw_and (dt_cmp r_in (op_inS (Room.u65 hr)) (de_ix (de_n 4) (de_int)) (de_n 13) rfl) (dw_and1 (dt_cmp r_in (op_inS (Room.u65 hr)) (de_ix (de_n 8) (de_int)) (de_n 13) rfl))))) (fun _ _ _ _ _ => de_n 12)) (dss_one (ds_if (dt_cmp r_ne (op_neD (Room.units hr)) (de_lc sc__law_odds.nd (di_seq (de_n 11)) (blkOk_by (own := [("_law_bad", 12)]) (by kernel_rfl)) (fun _ _ _ _ _ => dg_n 12 sc__law_odds.nd) (fun _ _ _ _ _ => dts_one (dt_val (de_c c__law_within hr (by rfl) (da_cons (de_n 9) (da_cons (de_n 12) (da_nil)))))) (fun _ _ _ _ _ => de_n 12)) (de_lst (da_nil)) rfl) (dss_one (ds_app (pe_bm PySem.F.plainAttrs_list PySem.F.slot_list_append PySem.F.type_list_append mt_append (pv 3) (pa_cons (de_tup (da_cons (de_n 4) (da_cons (de_n 8) (da_nil)))) pa_nil)))) (dss_nil))))))))) (dss_one (ds_ret (de_ty r_tuple call_tuple_of (by rfl) (c.free 8) (by rfl) (de_n 3))))))
end
end Ao
set_option Elab.async false
set_option autoImplicit false
set_option linter.all false
set_option maxRecDepth 100000
set_option maxHeartbeats 1000000
namespace Ao
open PySem PySem.Spec PyProof.Rows L2
section
variable {P : Program} {w : World} {K : AK} {mg : Str → Option Value} {base : Heap}
def N__law_motor : List Str := ["_law_feed_here", "_law_lamp", "_law_turn", "_law_two"]
theorem sc__law_motor : FnScope N__law_motor ["_law_feed_here"] (defScope s__law_motor) := ⟨rfl, rfl, rfl, by decide +kernel, rfl, by decide +kernel, by decide +kernel⟩
def T__law_motor (sp__law_any : DSp) (dd__law_any : List SV) : DS := dSq (dSet 1 (dTup (aCons (dTup (aCons (dC (.str "off")) (aCons (dC (.str "on")) (aNil)))) (aCons (dTup (aCons (dC (.str "lit")) (aNil))) (aCons (dTup (aCons (dTup (aCons (dC (.int 0)) (aCons (dC (.int 1)) (aNil)))) (aCons (dTup (aCons (dC (.int 0)) (aCons (dC (.int 1)) (aNil)))) (aNil)))) (aCons (dTup (aCons (dTup (aCons (dC (.int 0)) (aNil))) (aCons (dTup (aCons (dC (.int 1)) (aNil))) (aNil)))) (aNil))))))) (dSq (dSet 2 (dTup (aCons (dTup (aCons (dC (.str "hold")) (aCons (dC (.str "turn")) (aNil)))) (aCons (dTup (aCons (dC (.str "lit")) (aNil))) (aCons (dTup (aCons (dTup (aCons (dC (.int 0)) (aCons (dC (.int 1)) (aNil)))) (aCons (dTup (aCons (dC (.int 1)) (aCons (dC (.int 0)) (aNil)))) (aNil)))) (aCons (dTup (aCons (dTup (aCons (dC (.int 0)) (aNil))) (aCons (dTup (aCons (dC (.int 1)) (aNil))) (aNil)))) (aNil))))))) (dSq (dSet 3 (dTup (aCons (dTup (aCons (dC (.str "no")) (aCons (dC (.str "yes")) (aNil)))) (aCons (dTup (aCons (dC (.str "new")) (aCons (dC (.str "still")) (aNil)))) (aCons (dTup (aCons (dTup (aCons (dC (.int 0)) (aCons (dC (.int 1)) (aNil)))) (aCons (dTup (aCons (dC (.int 0)) (aCons (dC (.int 1)) (aNil)))) (aNil)))) (aCons (dTup (aCons (dTup (aCons (dC (.int 0)) (aCons (dC (.int 5)) (aNil)))) (aCons (dTup (aCons (dC (.int 1)) (aCons (dC (.int 5)) (aNil)))) (aNil)))) (aNil))))))) (dRet 99 (dCall sp__law_any dd__law_any (aFeed 0 (aCons (dLst (aCons (dTup (aCons (dN 1) (aCons (dTup (aCons (dC (.str "lit")) (aNil))) (aNil)))) (aCons (dTup (aCons (dN 2) (aCons (dTup (aCons (dC (.str "lit")) (aNil))) (aNil)))) (aCons (dTup (aCons (dN 3) (aCons (dTup (aCons (dC (.str "new")) (aNil))) (aNil)))) (aNil))))) (aNil)))))))
theorem b__law_motor (c : Cf K mg) {sp__law_any : DSp} {dd__law_any : List SV} (c__law_any : CalD P w K mg base "_law_any" 2 sp__law_any dd__law_any) (f : Addr) (cdv : Value) (A : Around) (outer : List Env) (s : Shared) (H : Hp) (E : XK) (hr : Room 2 (A.deeper (envOfC "_law_motor" (defScope s__law_motor) s.heap.objs.size f cdv))) :
    PSs (cxOf CX0 P w K mg base N__law_motor "_law_motor" (defScope s__law_motor) f cdv A outer s H E).nox (defBody s__law_motor) (ls 99 (T__law_motor sp__law_any dd__law_any)) :=
  dss_cons (ds_set 1 sc__law_motor.nd (de_tup (da_cons (de_tup (da_cons (de_str) (da_cons (de_str) (da_nil)))) (da_cons (de_tup (da_cons (de_str) (da_nil))) (da_cons (de_tup (da_cons (de_tup (da_cons (de_int) (da_cons (de_int) (da_nil)))) (da_cons (de_tup (da_cons (de_int) (da_cons (de_int) (da_nil)))) (da_nil)))) (da_cons (de_tup (da_cons (de_tup (da_cons (de_int) (da_nil))) (da_cons (de_tup (da_cons (de_int) (da_nil))) (da_nil)))) (da_nil))))))) (dss_cons (ds_set 2 sc__law_motor.nd (de_tup (da_cons (de_tup (da_cons (de_str) (da_cons (de_str) (da_nil)))) (da_cons (de_tup (da_cons (de_str) (da_nil))) (da_cons (de_tup (da_cons (de_tup (da_cons (de_int) (da_cons (de_int) (da_nil)))) (da_cons (de_tup (da_cons (de_int) (da_cons (de_int) (da_nil)))) (da_nil)))) (da_cons (de_tup (da_cons (de_tup (da_cons (de_int) (da_nil))) (da_cons (de_tup (da_cons (de_int) (da_nil))) (da_nil)))) (da_nil))))))) (dss_cons (ds_set 3 sc__law_motor.nd (de_tup (da_cons (de_tup (da_cons (de_str) (da_cons (de_str) (da_nil)))) (da_cons (de_tup (da_cons (de_str) (da_cons (de_str) (da_nil)))) (da_cons (de_tup (da_cons (de_tup (da_cons (de_int) (da_cons (de_int) (da_nil)))) (da_cons (de_tup (da_cons (de_int) (da_cons (de_int) (da_nil)))) (da_nil)))) (da_cons (de_tup (da_cons (de_tup (da_cons (de_int) (da_cons (de_int) (da_nil)))) (da_cons (de_tup (da_cons (de_int) (da_cons (de_int) (da_nil)))) (da_nil)))) (da_nil))))))) (dss_one (ds_ret (de_c c__law_any hr (by rfl) (da_feed 0 (da_cons (de_lst (da_cons (de_tup (da_cons (de_n 1) (da_cons (de_tup (da_cons (de_str) (da_nil))) (da_nil)))) (da_cons (de_tup (da_cons (de_n 2) (da_cons (de_tup (da_cons (de_str) (da_nil))) (da_nil)))) (da_cons (de_tup (da_cons (de_n 3) (da_cons (de_tup (da_cons (de_str) (da_nil))) (da_nil)))) (da_nil))))) (da_nil))))))))
def N__law_in_fall : List Str := ["_law_guild_here", "_law_bad", "_law_fine", "_law_table", "_law_found", "_law_one", "_law_pool", "_law_i", "_law_j", "_law_other", "_law_both", "_law_name"]
theorem sc__law_in_fall : FnScope N__law_in_fall ["_law_guild_here", "_law_bad", "_law_fine"] (defScope s__law_in_fall) := ⟨rfl, rfl, rfl, by decide +kernel, rfl, by decide +kernel, by decide +kernel⟩
def T__law_in_fall (sp__law_all_pairs : DSp) (dd__law_all_pairs : List SV) (sp__law_within : DSp) (dd__law_within : List SV) : DS := dSq (dPrN 4 3 (vDict (dLc (iSeq (dN 0)) (gN 5) (bYes) (dTup (aCons (d2 fIx (dN 5) (dC (.int 0))) (aCons (d2 fIx (dN 5) (dC (.int 1))) (aNil)))) [5]))) (dSq (dSet 6 (dLc (iSeq (dCall sp__law_all_pairs dd__law_all_pairs (aCons (dN 0) (aNil)))) (gN 5) (tb (d2 fIn (d2 fIx (dN 5) (dC (.int 0))) (dN 2))) (dN 5) [5])) (dSq (dFor (iRng (dB fLen (dN 6))) (gN 7) (dFor (iRg2 (dN 7) (dB fLen (dN 6))) (gN 8) (dSq (dPr 5 9 (aCons (d2 fIx (dN 6) (dN 7)) (aCons (d2 fIx (dN 6) (dN 8)) (aNil)))) (dSq (dSet 10 (dLc (iSeq (d2 fIx (dDct 3 (d2 fIx (dN 5) (dC (.int 0)))) (d2 fIx (dN 5) (dC (.int 1))))) (gN 11) (tb (d2 fIn (dN 11) (d2 fIx (dDct 3 (d2 fIx (dN 9) (dC (.int 0)))) (d2 fIx (dN 9) (dC (.int 1)))))) (dN 11) [11])) (dIfS (tb (dCall sp__law_within dd__law_within (aCons (dN 10) (aCons (dN 1) (aNil))))) (dApp (dTup (aCons (dC (.str "odds")) (aCons (dN 5) (aCons (dN 9) (aNil)))))) (dNx)))))) (dRet 4 (dB fTuple (dN 4)))))
theorem b__law_in_fall (c : Cf K mg) {sp__law_all_pairs : DSp} {dd__law_all_pairs : List SV} (c__law_all_pairs : CalD P w K mg base "_law_all_pairs" 1 sp__law_all_pairs dd__law_all_pairs) {sp__law_within : DSp} {dd__law_within : List SV} (c__law_within : CalD P w K mg base "_law_within" 1 sp__law_within dd__law_within) (f : Addr) (cdv : Value) (A : Around) (outer : List Env) (s : Shared) (H : Hp) (E : XK) (hr : Room 1 (A.deeper (envOfC "_law_in_fall" (defScope s__law_in_fall) s.heap.objs.size f cdv))) :
    PSs (cxOf CX0 P w K mg base N__law_in_fall "_law_in_fall" (defScope s__law_in_fall) f cdv A outer s H E).nox (defBody s__law_in_fall) (ls 4 (T__law_in_fall sp__law_all_pairs dd__law_all_pairs sp__law_within dd__law_within)) :=
  dss_cons (ds_prN 3 sc__law_in_fall.nd (de_dict (by rfl) (c.free 20) (de_lc sc__law_in_fall.nd (di_seq (de_n 0)) (blkOk_by (own := [("_law_one", 5)]) (by kernel_rfl)) (fun _ _ _ _ _ => dg_n 5 sc__law_in_fall.nd) (fun _ _ _ _ _ => dts_nil) (fun _ _ _ _ _ => de_tup (da_cons (de_ix (de_n 5) (de_int)) (da_cons (de_ix (de_n 5) (de_int)) (da_nil))))))) (dss_cons (ds_setLc 6 sc__law_in_fall.nd (di_seq (de_c c__law_all_pairs hr (by rfl) (da_cons (de_n 0) (da_nil)))) (blkOk_by (own := [("_law_one", 5)]) (by kernel_rfl)) (fun _ _ _ _ _ => dg_n 5 sc__law_in_fall.nd) (fun _ _ _ _ _ => dts_one (dt_cmp r_in (op_inS (Room.u65 hr)) (de_ix (de_n 5) (de_int)) (de_n 2) rfl)) (fun _ _ _ _ _ => de_n 5)) (dss_cons (ds_for rfl (di_rng (by rfl) (c.free 14) (de_b r_len call_len (by rfl) (c.free 11) (by rfl) (de_n 6))) (dg_n 7 sc__law_in_fall.nd) (dss_one (ds_for rfl (di_rg2 (by rfl) (c.free 14) (de_n 7) (de_b r_len call_len (by rfl) (c.free 11) (by rfl) (de_n 6))) (dg_n 8 sc__law_in_fall.nd) (dss_cons (ds_pr 5 9 sc__law_in_fall.nd (da_cons (de_ix (de_n 6) (de_n 7)) (da_cons (de_ix (de_n 6) (de_n 8)) (da_nil)))) (dss_cons (ds_setLc 10 sc__law_in_fall.nd (di_seq (de_ix (de_dct (i := 3) (de_ix (de_n 5) (de_int)) (Room.u1 hr)) (de_ix (de_n 5) (de_int)))) (blkOk_by (own := [("_law_name", 11)]) (by kernel_rfl)) (fun _ _ _ _ _ => dg_n 11 sc__law_in_fall.nd) (fun _ _ _ _ _ => dts_one (dt_cmp r_in (op_inS (Room.u65 hr)) (de_n 11) (de_ix (de_dct (i := 3) (de_ix (de_n 9) (de_int)) (Room.u1 hr)) (de_ix (de_n 9) (de_int))) rfl)) (fun _ _ _ _ _ => de_n 11)) (dss_one (ds_if (dt_val (de_c c__law_within hr (by rfl) (da_cons (de_n 10) (da_cons (de_n 1) (da_nil))))) (dss_one (ds_app (pe_bm PySem.F.plainAttrs_list PySem.F.slot_list_append PySem.F.type_list_append mt_append (pv 4) (pa_cons (de_tup (da_cons (de_str) (da_cons (de_n 5) (da_cons (de_n 9) (da_nil))))) pa_nil)))) (dss_nil)))))))) (dss_one (ds_ret (de_ty r_tuple call_tuple_of (by rfl) (c.free 8) (by rfl) (de_n 4))))))
end
end Ao
set_option Elab.async false
set_option autoImplicit false
set_option linter.all false
set_option maxRecDepth 100000
set_option maxHeartbeats 1000000
namespace Ao
open PySem PySem.Spec PyProof.Rows L2
section
variable {P : Program} {w : World} {K : AK} {mg : Str → Option Value} {base : Heap}
def N_least_of : List Str := ["sets", "some", "found", "one", "late"]
theorem sc_least_of : FnScope N_least_of ["sets"] (defScope s_least_of) := ⟨rfl, rfl, rfl, by decide +kernel, rfl, by decide +kernel, by decide +kernel⟩
def T_least_of (sp_is_within : DSp) (dd_is_within : List SV) : DS := dSq (dSet 1 (dB fSset (dN 0))) (dSq (dSet 2 (dLc (iSeq (dN 1)) (gN 3) (bNot (tb (dB fAny (dLc (iSeq (dN 1)) (gN 4) (bYes) (dAnd (d2 fNe (dN 4) (dN 3)) (dCall sp_is_within dd_is_within (aCons (dN 4) (aCons (dN 3) (aNil))))) [4])))) (dN 3) [3])) (dRet 99 (dB fTuple (dN 2))))
theorem b_least_of (c : Cf K mg) {sp_is_within : DSp} {dd_is_within : List SV} (c_is_within : CalD P w K mg base "is_within" 1 sp_is_within dd_is_within) (f : Addr) (cdv : Value) (A : Around) (outer : List Env) (s : Shared) (H : Hp) (E : XK) (hr : Room 1 (A.deeper (envOfC "least_of" (defScope s_least_of) s.heap.objs.size f cdv))) :
    PSs (cxOf CX0 P w K mg base N_least_of "least_of" (defScope s_least_of) f cdv A outer s H E).nox (defBody s_least_of) (ls 99 (T_least_of sp_is_within dd_is_within)) :=
  dss_cons (ds_set 1 sc_least_of.nd (de_sset hr (by rfl) (c.free 9) (by rfl) (c.free 10) (de_n 0))) (dss_cons (ds_setLc 2 sc_least_of.nd (di_seq (de_n 1)) (blkOk_by (own := [("one", 3)]) (by kernel_rfl)) (fun _ _ _ _ _ => dg_n 3 sc_least_of.nd) (fun _ _ _ _ _ => dts_one (dt_not (dt_val (de_b r_any (cr_any (by rfl)) (by rfl) (c.free 6) (by rfl) (de_lc sc_least_of.nd (di_seq (de_n 1)) (blkOk_by (own := [("late", 4)]) (by kernel_rfl)) (fun _ _ _ _ _ => dg_n 4 sc_least_of.nd) (fun _ _ _ _ _ => dts_nil) (fun _ _ _ _ _ => de_and (de_cmp r_ne (op_neD (Room.units hr)) (de_n 4) (de_n 3) rfl) (de_one (de_c c_is_within hr (by rfl) (da_cons (de_n 4) (da_cons (de_n 3) (da_nil))))))))))) (fun _ _ _ _ _ => de_n 3)) (dss_one (ds_ret (de_ty r_tuple call_tuple_of (by rfl) (c.free 8) (by rfl) (de_n 2)))))
def N_greatest_of : List Str := ["sets", "some", "found", "one", "late"]
theorem sc_greatest_of : FnScope N_greatest_of ["sets"] (defScope s_greatest_of) := ⟨rfl, rfl, rfl, by decide +kernel, rfl, by decide +kernel, by decide +kernel⟩
def T_greatest_of (sp_is_within : DSp) (dd_is_within : List SV) : DS := dSq (dSet 1 (dB fSset (dN 0))) (dSq (dSet 2 (dLc (iSeq (dN 1)) (gN 3) (bNot (tb (dB fAny (dLc (iSeq (dN 1)) (gN 4) (bYes) (dAnd (d2 fNe (dN 4) (dN 3)) (dCall sp_is_within dd_is_within (aCons (dN 3) (aCons (dN 4) (aNil))))) [4])))) (dN 3) [3])) (dRet 99 (dB fTuple (dN 2))))
theorem b_greatest_of (c : Cf K mg) {sp_is_within : DSp} {dd_is_within : List SV} (c_is_within : CalD P w K mg base "is_within" 1 sp_is_within dd_is_within) (f : Addr) (cdv : Value) (A : Around) (outer : List Env) (s : Shared) (H : Hp) (E : XK) (hr : Room 1 (A.deeper (envOfC "greatest_of" (defScope s_greatest_of) s.heap.objs.size f cdv))) :
    PSs (cxOf CX0 P w K mg base N_greatest_of "greatest_of" (defScope s_greatest_of) f cdv A outer s H E).nox (defBody s_greatest_of) (ls 99 (T_greatest_of sp_is_within dd_is_within)) :=
  dss_cons (ds_set 1 sc_greatest_of.nd (de_sset hr (by rfl) (c.free 9) (by rfl) (c.free 10) (de_n 0))) (dss_cons (ds_setLc 2 sc_greatest_of.nd (di_seq (de_n 1)) (blkOk_by (own := [("one", 3)]) (by kernel_rfl)) (fun _ _ _ _ _ => dg_n 3 sc_greatest_of.nd) (fun _ _ _ _ _ => dts_one (dt_not (dt_val (de_b r_any (cr_any (by rfl)) (by rfl) (c.free 6) (by rfl) (de_lc sc_greatest_of.nd (di_seq (de_n 1)) (blkOk_by (own := [("late", 4)]) (by kernel_rfl)) (fun _ _ _ _ _ => dg_n 4 sc_greatest_of.nd) (fun _ _ _ _ _ => dts_nil) (fun _ _ _ _ _ => de_and (de_cmp r_ne (op_neD (Room.units hr)) (de_n 4) (de_n 3) rfl) (de_one (de_c c_is_within hr (by rfl) (da_cons (de_n 3) (da_cons (de_n 4) (da_nil))))))))))) (fun _ _ _ _ _ => de_n 3)) (dss_one (ds_ret (de_ty r_tuple call_tuple_of (by rfl) (c.free 8) (by rfl) (de_n 2)))))
def N_falls_by : List Str := ["trust", "house", "other", "found", "one", "late"]
theorem sc_falls_by : FnScope N_falls_by ["trust", "house", "other"] (defScope s_falls_by) := ⟨rfl, rfl, rfl, by decide +kernel, rfl, by decide +kernel, by decide +kernel⟩
def T_falls_by (sp_fears_of : DSp) (dd_fears_of : List SV) (sp_greatest_of : DSp) (dd_greatest_of : List SV) (sp_joint_in : DSp) (dd_joint_in : List SV) : DS := dSq (dIfS (tb (d2 fEq (dN 1) (dN 2))) (dRet 99 (dCall sp_greatest_of dd_greatest_of (aCons (dCall sp_fears_of dd_fears_of (aCons (dN 0) (aCons (dN 1) (aNil)))) (aNil)))) (dNx)) (dSq (dSet 3 (dLc2 (iSeq (dCall sp_fears_of dd_fears_of (aCons (dN 0) (aCons (dN 1) (aNil))))) (gN 4) (bYes) (iSeq (dCall sp_fears_of dd_fears_of (aCons (dN 0) (aCons (dN 2) (aNil))))) (gN 5) (bYes) (dCall sp_joint_in dd_joint_in (aCons (dN 4) (aCons (dN 5) (aNil)))) [4, 5] [5])) (dRet 99 (dCall sp_greatest_of dd_greatest_of (aCons (dN 3) (aNil)))))
theorem b_falls_by (c : Cf K mg) {sp_fears_of : DSp} {dd_fears_of : List SV} (c_fears_of : CalD P w K mg base "fears_of" 1 sp_fears_of dd_fears_of) {sp_greatest_of : DSp} {dd_greatest_of : List SV} (c_greatest_of : CalD P w K mg base "greatest_of" 2 sp_greatest_of dd_greatest_of) {sp_joint_in : DSp} {dd_joint_in : List SV} (c_joint_in : CalD P w K mg base "joint_in" 1 sp_joint_in dd_joint_in) (f : Addr) (cdv : Value) (A : Around) (outer : List Env) (s : Shared) (H : Hp) (E : XK) (hr : Room 2 (A.deeper (envOfC "falls_by" (defScope s_falls_by) s.heap.objs.size f cdv))) :
    PSs (cxOf CX0 P w K mg base N_falls_by "falls_by" (defScope s_falls_by) f cdv A outer s H E).nox (defBody s_falls_by) (ls 99 (T_falls_by sp_fears_of dd_fears_of sp_greatest_of dd_greatest_of sp_joint_in dd_joint_in)) :=
  dss_cons (ds_if (dt_cmp r_eq (op_eqD (Room.units hr)) (de_n 1) (de_n 2) rfl) (dss_one (ds_ret (de_c c_greatest_of hr (by rfl) (da_cons (de_c c_fears_of hr (by rfl) (da_cons (de_n 0) (da_cons (de_n 1) (da_nil)))) (da_nil))))) (dss_nil)) (dss_cons (ds_setLc2 3 sc_falls_by.nd (di_seq (de_c c_fears_of hr (by rfl) (da_cons (de_n 0) (da_cons (de_n 1) (da_nil))))) (blkOk_by (own := [("one", 4), ("late", 5)]) (by kernel_rfl)) (by decide) (fun _ _ _ _ _ => dg_n 4 sc_falls_by.nd) (fun _ _ _ _ _ => dts_nil) (fun _ _ _ _ _ => di_seq (de_c c_fears_of hr (by rfl) (da_cons (de_n 0) (da_cons (de_n 2) (da_nil))))) (fun _ _ _ _ _ => dg_n 5 sc_falls_by.nd) (fun _ _ _ _ _ => dts_nil) (fun _ _ _ _ _ => de_c c_joint_in hr (by rfl) (da_cons (de_n 4) (da_cons (de_n 5) (da_nil))))) (dss_one (ds_ret (de_c c_greatest_of hr (by rfl) (da_cons (de_n 3) (da_nil))))))
def N_needs_by : List Str := ["trust", "house", "found", "pair", "fall"]
theorem sc_needs_by : FnScope N_needs_by ["trust", "house"] (defScope s_needs_by) := ⟨rfl, rfl, rfl, by decide +kernel, rfl, by decide +kernel, by decide +kernel⟩
def T_needs_by (sp_pairs_in : DSp) (dd_pairs_in : List SV) (sp_falls_by : DSp) (dd_falls_by : List SV) (sp_lot_at : DSp) (dd_lot_at : List SV) (sp_less_by : DSp) (dd_less_by : List SV) (sp_least_of : DSp) (dd_least_of : List SV) : DS := dSq (dNew 2) (dSq (dFor (iSeq (dCall sp_pairs_in dd_pairs_in (aCons (dN 0) (aNil)))) (gN 3) (dIfS (tb (d2 fNe (d2 fIx (dN 3) (dC (.int 0))) (dN 1))) (dExt (dLc (iSeq (dCall sp_falls_by dd_falls_by (aCons (dN 0) (aCons (dN 1) (aCons (d2 fIx (dN 3) (dC (.int 0))) (aNil)))))) (gN 4) (bYes) (dCall sp_less_by dd_less_by (aCons (dCall sp_lot_at dd_lot_at (aCons (dN 0) (aCons (dN 3) (aNil)))) (aCons (dN 4) (aNil)))) [4])) (dNx))) (dRet 2 (dCall sp_least_of dd_least_of (aCons (dN 2) (aNil)))))
theorem b_needs_by (c : Cf K mg) {sp_pairs_in : DSp} {dd_pairs_in : List SV} (c_pairs_in : CalD P w K mg base "pairs_in" 1 sp_pairs_in dd_pairs_in) {sp_falls_by : DSp} {dd_falls_by : List SV} (c_falls_by : CalD P w K mg base "falls_by" 3 sp_falls_by dd_falls_by) {sp_lot_at : DSp} {dd_lot_at : List SV} (c_lot_at : CalD P w K mg base "lot_at" 2 sp_lot_at dd_lot_at) {sp_less_by : DSp} {dd_less_by : List SV} (c_less_by : CalD P w K mg base "less_by" 1 sp_less_by dd_less_by) {sp_least_of : DSp} {dd_least_of : List SV} (c_least_of : CalD P w K mg base "least_of" 2 sp_least_of dd_least_of) (f : Addr) (cdv : Value) (A : Around) (outer : List Env) (s : Shared) (H : Hp) (E : XK) (hr : Room 3 (A.deeper (envOfC "needs_by" (defScope s_needs_by) s.heap.objs.size f cdv))) :
    PSs (cxOf CX0 P w K mg base N_needs_by "needs_by" (defScope s_needs_by) f cdv A outer s H E).nox (defBody s_needs_by) (ls 2 (T_needs_by sp_pairs_in dd_pairs_in sp_falls_by dd_falls_by sp_lot_at dd_lot_at sp_less_by dd_less_by sp_least_of dd_least_of)) :=
  dss_cons (ds_new sc_needs_by.nd) (dss_cons (ds_for rfl (di_seq (de_c c_pairs_in hr (by rfl) (da_cons (de_n 0) (da_nil)))) (dg_n 3 sc_needs_by.nd) (dss_one (ds_if (dt_cmp r_ne (op_neD (Room.units hr)) (de_ix (de_n 3) (de_int)) (de_n 1) rfl) (dss_one (ds_ext (pe_bm PySem.F.plainAttrs_list PySem.F.slot_list_extend PySem.F.type_list_extend mt_extend (pv 2) (pa_cons (de_lc sc_needs_by.nd (di_seq (de_c c_falls_by hr (by rfl) (da_cons (de_n 0) (da_cons (de_n 1) (da_cons (de_ix (de_n 3) (de_int)) (da_nil)))))) (blkOk_by (own := [("fall", 4)]) (by kernel_rfl)) (fun _ _ _ _ _ => dg_n 4 sc_needs_by.nd) (fun _ _ _ _ _ => dts_nil) (fun _ _ _ _ _ => de_c c_less_by hr (by rfl) (da_cons (de_c c_lot_at hr (by rfl) (da_cons (de_n 0) (da_cons (de_n 3) (da_nil)))) (da_cons (de_n 4) (da_nil))))) pa_nil)))) (dss_nil)))) (dss_one (ds_ret (de_c c_least_of hr (by rfl) (da_cons (de_n 2) (da_nil))))))
def N_machine_fault : List Str := ["thing", "letters", "looks", "moves", "answers", "state", "goals", "numbers"]
theorem sc_machine_fault : FnScope N_machine_fault ["thing"] (defScope s_machine_fault) := ⟨rfl, rfl, rfl, by decide +kernel, rfl, by decide +kernel, by decide +kernel⟩
def T_machine_fault (sp_is_tuple_of : DSp) (dd_is_tuple_of : List SV) (sp_is_names : DSp) (dd_is_names : List SV) (sp_are_indexes : DSp) (dd_are_indexes : List SV) (sp_are_numbers : DSp) (dd_are_numbers : List SV) : DS := dSq (dIfS (bNot (tb (dCall sp_is_tuple_of dd_is_tuple_of (aCons (dN 0) (aCons (dC (.int 4)) (aNil)))))) (dRet 99 (dTup (aCons (dC (.str "shape")) (aCons (dNeg (dC (.int 1))) (aNil))))) (dNx)) (dSq (dAsg (dN 0) (gTp 4 (gCs (gN 1) (gCs (gN 2) (gCs (gN 3) (gCs (gN 4) (gNl))))))) (dSq (dIfS (bOr (bNot (tb (dCall sp_is_names dd_is_names (aCons (dN 1) (aNil))))) (tb (d2 (fIB fun i j => decide (i < j)) (dB fLen (dN 1)) (dC (.int 2))))) (dRet 99 (dTup (aCons (dC (.str "letters")) (aCons (dNeg (dC (.int 1))) (aNil))))) (dNx)) (dSq (dIfS (bOr (bNot (tb (dCall sp_is_names dd_is_names (aCons (dN 2) (aNil))))) (tb (d2 (fIB fun i j => decide (i < j)) (dB fLen (dN 2)) (dC (.int 1))))) (dRet 99 (dTup (aCons (dC (.str "looks")) (aCons (dNeg (dC (.int 1))) (aNil))))) (dNx)) (dSq (dIfS (bOr (bNot (tb (dIsi (dN 3) "tuple"))) (tb (d2 fEq (dB fLen (dN 3)) (dC (.int 0))))) (dRet 99 (dTup (aCons (dC (.str "moves")) (aCons (dNeg (dC (.int 1))) (aNil))))) (dNx)) (dSq (dFor (iEnT (dN 3)) (gTp 2 (gCs (gN 5) (gCs (gN 6) (gNl)))) (dIfS (bNot (tb (dCall sp_are_indexes dd_are_indexes (aCons (dN 6) (aCons (dB fLen (dN 1)) (aCons (dB fLen (dN 3)) (aNil))))))) (dRet 99 (dTup (aCons (dC (.str "move")) (aCons (dN 5) (aNil))))) (dNx))) (dSq (dIfS (bNot (tb (dCall sp_is_tuple_of dd_is_tuple_of (aCons (dN 4) (aCons (dB fLen (dN 3)) (aNil)))))) (dRet 99 (dTup (aCons (dC (.str "answers")) (aCons (dNeg (dC (.int 1))) (aNil))))) (dNx)) (dSq (dFor (iEnT (dN 4)) (gTp 2 (gCs (gN 5) (gCs (gN 7) (gNl)))) (dIfS (bNot (tb (dCall sp_are_numbers dd_are_numbers (aCons (dN 7) (aCons (dB fLen (dN 2)) (aNil)))))) (dRet 99 (dTup (aCons (dC (.str "answer")) (aCons (dN 5) (aNil))))) (dNx))) (dRet 99 (dC .none)))))))))
theorem b_machine_fault (c : Cf K mg) {sp_is_tuple_of : DSp} {dd_is_tuple_of : List SV} (c_is_tuple_of : CalD P w K mg base "is_tuple_of" 1 sp_is_tuple_of dd_is_tuple_of) {sp_is_names : DSp} {dd_is_names : List SV} (c_is_names : CalD P w K mg base "is_names" 2 sp_is_names dd_is_names) {sp_are_indexes : DSp} {dd_are_indexes : List SV} (c_are_indexes : CalD P w K mg base "are_indexes" 4 sp_are_indexes dd_are_indexes) {sp_are_numbers : DSp} {dd_are_numbers : List SV} (c_are_numbers : CalD P w K mg base "are_numbers" 3 sp_are_numbers dd_are_numbers) (f : Addr) (cdv : Value) (A : Around) (outer : List Env) (s : Shared) (H : Hp) (E : XK) (hr : Room 4 (A.deeper (envOfC "machine_fault" (defScope s_machine_fault) s.heap.objs.size f cdv))) :
    PSs (cxOf CX0 P w K mg base N_machine_fault "machine_fault" (defScope s_machine_fault) f cdv A outer s H E).nox (defBody s_machine_fault) (ls 99 (T_machine_fault sp_is_tuple_of dd_is_tuple_of sp_is_names dd_is_names sp_are_indexes dd_are_indexes sp_are_numbers dd_are_numbers)) :=
  dss_cons (ds_if (dt_not (dt_val (de_c c_is_tuple_of hr (by rfl) (da_cons (de_n 0) (da_cons (de_int) (da_nil)))))) (dss_one (ds_ret (de_tup (da_cons (de_str) (da_cons (de_neg (de_int)) (da_nil)))))) (dss_nil)) (dss_cons (ds_asg (de_n 0) (dg_tup (dg_cons (dg_n 1 sc_machine_fault.nd) (dg_cons (dg_n 2 sc_machine_fault.nd) (dg_cons (dg_n 3 sc_machine_fault.nd) (dg_cons (dg_n 4 sc_machine_fault.nd) (dg_nil))))))) (dss_cons (ds_if (PW.pt (dw_or (dt_not (dt_val (de_c c_is_names hr (by rfl) (da_cons (de_n 1) (da_nil))))) (dw_or1 (dt_cmp r_iB op_lt (de_b r_len call_len (by rfl) (c.free 11) (by rfl) (de_n 1)) (de_int) rfl)))) (dss_one (ds_ret (de_tup (da_cons (de_str) (da_cons (de_neg (de_int)) (da_nil)))))) (dss_nil)) (dss_cons (ds_if (PW.pt (dw_or (dt_not (dt_val (de_c c_is_names hr (by rfl) (da_cons (de_n 2) (da_nil))))) (dw_or1 (dt_cmp r_iB op_lt (de_b r_len call_len (by rfl) (c.free 11) (by rfl) (de_n 2)) (de_int) rfl)))) (dss_one (ds_ret (de_tup (da_cons (de_str) (da_cons (de_neg (de_int)) (da_nil)))))) (dss_nil)) (dss_cons (ds_if (PW.pt (dw_or (dt_not (dt_val (de_isi (.inr (.inr (.inr rfl))) rfl (c.free 12) rfl (c.free 8) rfl (de_n 3)))) (dw_or1 (dt_cmp r_eq (op_eqD (Room.units hr)) (de_b r_len call_len (by rfl) (c.free 11) (by rfl) (de_n 3)) (de_int) rfl)))) (dss_one (ds_ret (de_tup (da_cons (de_str) (da_cons (de_neg (de_int)) (da_nil)))))) (dss_nil)) (dss_cons (ds_for rfl (di_enT (by rfl) (c.free 13) (de_n 3)) (dg_tup (dg_cons (dg_n 5 sc_machine_fault.nd) (dg_cons (dg_n 6 sc_machine_fault.nd) (dg_nil)))) (dss_one (ds_if (dt_not (dt_val (de_c c_are_indexes hr (by rfl) (da_cons (de_n 6) (da_cons (de_b r_len call_len (by rfl) (c.free 11) (by rfl) (de_n 1)) (da_cons (de_b r_len call_len (by rfl) (c.free 11) (by rfl) (de_n 3)) (da_nil))))))) (dss_one (ds_ret (de_tup (da_cons (de_str) (da_cons (de_n 5) (da_nil)))))) (dss_nil)))) (dss_cons (ds_if (dt_not (dt_val (de_c c_is_tuple_of hr (by rfl) (da_cons (de_n 4) (da_cons (de_b r_len call_len (by rfl) (c.free 11) (by rfl) (de_n 3)) (da_nil)))))) (dss_one (ds_ret (de_tup (da_cons (de_str) (da_cons (de_neg (de_int)) (da_nil)))))) (dss_nil)) (dss_cons (ds_for rfl (di_enT (by rfl) (c.free 13) (de_n 4)) (dg_tup (dg_cons (dg_n 5 sc_machine_fault.nd) (dg_cons (dg_n 7 sc_machine_fault.nd) (dg_nil)))) (dss_one (ds_if (dt_not (dt_val (de_c c_are_numbers hr (by rfl) (da_cons (de_n 7) (da_cons (de_b r_len call_len (by rfl) (c.free 11) (by rfl) (de_n 2)) (da_nil)))))) (dss_one (ds_ret (de_tup (da_cons (de_str) (da_cons (de_n 5) (da_nil)))))) (dss_nil)))) (dss_one (ds_ret (de_non))))))))))
def N_trust_fault : List Str := ["thing", "k", "one", "houses", "house", "lots", "fears", "other"]
theorem sc_trust_fault : FnScope N_trust_fault ["thing"] (defScope s_trust_fault) := ⟨rfl, rfl, rfl, by decide +kernel, rfl, by decide +kernel, by decide +kernel⟩
def T_trust_fault (sp_is_triple_from : DSp) (dd_is_triple_from : List SV) (sp_are_sets_among : DSp) (dd_are_sets_among : List SV) : DS := dSq (dIfS (bOr (bNot (tb (dIsi (dN 0) "tuple"))) (tb (d2 fEq (dB fLen (dN 0)) (dC (.int 0))))) (dRet 99 (dTup (aCons (dC (.str "shape")) (aCons (dNeg (dC (.int 1))) (aNil))))) (dNx)) (dSq (dFor (iEnT (dN 0)) (gTp 2 (gCs (gN 1) (gCs (gN 2) (gNl)))) (dIfS (bOr (bNot (tb (dCall sp_is_triple_from dd_is_triple_from (aCons (dN 2) (aNil))))) (bAnd (tb (d2 (fIB fun i j => decide (j < i)) (dN 1) (dC (.int 0)))) (tb (d2 fLeS (d2 fIx (dN 2) (dC (.int 0))) (d2 fIx (d2 fIx (dN 0) (d2 (fII (fun _ _ => True) fun i j => i - j) (dN 1) (dC (.int 1)))) (dC (.int 0))))))) (dRet 99 (dTup (aCons (dC (.str "house")) (aCons (dN 1) (aNil))))) (dNx))) (dSq (dSet 3 (dLc (iSeq (dN 0)) (gN 2) (bYes) (d2 fIx (dN 2) (dC (.int 0))) [2])) (dSq (dFor (iEnT (dN 0)) (gTp 2 (gCs (gN 1) (gCs (gTp 3 (gCs (gN 4) (gCs (gN 5) (gCs (gN 6) (gNl))))) (gNl)))) (dSq (dIfS (bOr (bNot (tb (dCall sp_are_sets_among dd_are_sets_among (aCons (dN 5) (aCons (dN 3) (aNil)))))) (tb (d2 fIn (dTup (aNil)) (dN 5)))) (dRet 99 (dTup (aCons (dC (.str "lots")) (aCons (dN 1) (aNil))))) (dNx)) (dIfS (bNot (tb (dCall sp_are_sets_among dd_are_sets_among (aCons (dN 6) (aCons (dLc (iSeq (dN 3)) (gN 7) (tb (d2 fNe (dN 7) (dN 4))) (dN 7) [7]) (aNil)))))) (dRet 99 (dTup (aCons (dC (.str "fears")) (aCons (dN 1) (aNil))))) (dNx)))) (dRet 99 (dC .none)))))
theorem b_trust_fault (c : Cf K mg) {sp_is_triple_from : DSp} {dd_is_triple_from : List SV} (c_is_triple_from : CalD P w K mg base "is_triple_from" 2 sp_is_triple_from dd_is_triple_from) {sp_are_sets_among : DSp} {dd_are_sets_among : List SV} (c_are_sets_among : CalD P w K mg base "are_sets_among" 4 sp_are_sets_among dd_are_sets_among) (f : Addr) (cdv : Value) (A : Around) (outer : List Env) (s : Shared) (H : Hp) (E : XK) (hr : Room 4 (A.deeper (envOfC "trust_fault" (defScope s_trust_fault) s.heap.objs.size f cdv))) :
    PSs (cxOf CX0 P w K mg base N_trust_fault "trust_fault" (defScope s_trust_fault) f cdv A outer s H E).nox (defBody s_trust_fault) (ls 99 (T_trust_fault sp_is_triple_from dd_is_triple_from sp_are_sets_among dd_are_sets_among)) :=
  dss_cons (ds_if (PW.pt (dw_or (dt_not (dt_val (de_isi (.inr (.inr (.inr rfl))) rfl (c.free 12) rfl (c.free 8) rfl (de_n 0)))) (dw_or1 (dt_cmp r_eq (op_eqD (Room.units hr)) (de_b r_len call_len (by rfl) (c.free 11) (by rfl) (de_n 0)) (de_int) rfl)))) (dss_one (ds_ret (de_tup (da_cons (de_str) (da_cons (de_neg (de_int)) (da_nil)))))) (dss_nil)) (dss_cons (ds_for rfl (di_enT (by rfl) (c.free 13) (de_n 0)) (dg_tup (dg_cons (dg_n 1 sc_trust_fault.nd) (dg_cons (dg_n 2 sc_trust_fault.nd) (dg_nil)))) (dss_one (ds_if (PW.pt (dw_or (dt_not (dt_val (de_c c_is_triple_from hr (by rfl) (da_cons (de_n 2) (da_nil))))) (dw_or1 (PW.pt (dw_and (dt_cmp r_iB op_gt (de_n 1) (de_int) rfl) (dw_and1 (dt_cmp r_leS op_le_str (de_ix (de_n 2) (de_int)) (de_ix (de_ix (de_n 0) (de_op r_II0 op_sub (de_n 1) (de_int))) (de_int)) rfl))))))) (dss_one (ds_ret (de_tup (da_cons (de_str) (da_cons (de_n 1) (da_nil)))))) (dss_nil)))) (dss_cons (ds_setLc 3 sc_trust_fault.nd (di_seq (de_n 0)) (blkOk_by (own := [("one", 2)]) (by kernel_rfl)) (fun _ _ _ _ _ => dg_n 2 sc_trust_fault.nd) (fun _ _ _ _ _ => dts_nil) (fun _ _ _ _ _ => de_ix (de_n 2) (de_int))) (dss_cons (ds_for rfl (di_enT (by rfl) (c.free 13) (de_n 0)) (dg_tup (dg_cons (dg_n 1 sc_trust_fault.nd) (dg_cons (dg_tup (dg_cons (dg_n 4 sc_trust_fault.nd) (dg_cons (dg_n 5 sc_trust_fault.nd) (dg_cons (dg_n 6 sc_trust_fault.nd) (dg_nil))))) (dg_nil)))) (dss_cons (ds_if (PW.pt (dw_or (dt_not (dt_val (de_c c_are_sets_among hr (by rfl) (da_cons (de_n 5) (da_cons (de_n 3) (da_nil)))))) (dw_or1 (dt_cmp r_in (op_inS (Room.u65 hr)) (de_tup (da_nil)) (de_n 5) rfl)))) (dss_one (ds_ret (de_tup (da_cons (de_str) (da_cons (de_n 1) (da_nil)))))) (dss_nil)) (dss_one (ds_if (dt_not (dt_val (de_c c_are_sets_among hr (by rfl) (da_cons (de_n 6) (da_cons (de_lc sc_trust_fault.nd (di_seq (de_n 3)) (blkOk_by (own := [("other", 7)]) (by kernel_rfl)) (fun _ _ _ _ _ => dg_n 7 sc_trust_fault.nd) (fun _ _ _ _ _ => dts_one (dt_cmp r_ne (op_neD (Room.units hr)) (de_n 7) (de_n 4) rfl)) (fun _ _ _ _ _ => de_n 7)) (da_nil)))))) (dss_one (ds_ret (de_tup (da_cons (de_str) (da_cons (de_n 1) (da_nil)))))) (dss_nil))))) (dss_one (ds_ret (de_non))))))
def N_order_fault : List Str := ["houses", "thing", "k", "one"]
theorem sc_order_fault : FnScope N_order_fault ["houses", "thing"] (defScope s_order_fault) := ⟨rfl, rfl, rfl, by decide +kernel, rfl, by decide +kernel, by decide +kernel⟩
def T_order_fault  : DS := dSq (dIfS (bNot (tb (dIsi (dN 1) "tuple"))) (dRet 99 (dTup (aCons (dC (.str "shape")) (aCons (dNeg (dC (.int 1))) (aNil))))) (dNx)) (dSq (dFor (iEnT (dN 1)) (gTp 2 (gCs (gN 2) (gCs (gN 3) (gNl)))) (dNo)) (dRet 99 (dC .none)))
theorem b_order_fault (c : Cf K mg)  (f : Addr) (cdv : Value) (A : Around) (outer : List Env) (s : Shared) (H : Hp) (E : XK) (hr : Room 0 (A.deeper (envOfC "order_fault" (defScope s_order_fault) s.heap.objs.size f cdv))) :
    PSs (cxOf CX0 P w K mg base N_order_fault "order_fault" (defScope s_order_fault) f cdv A outer s H E).nox (defBody s_order_fault) (ls 99 (T_order_fault )) :=
  dss_cons (ds_if (dt_not (dt_val (de_isi (.inr (.inr (.inr rfl))) rfl (c.free 12) rfl (c.free 8) rfl (de_n 1)))) (dss_one (ds_ret (de_tup (da_cons (de_str) (da_cons (de_neg (de_int)) (da_nil)))))) (dss_nil)) (dss_cons (ds_for rfl (di_enT (by rfl) (c.free 13) (de_n 1)) (dg_tup (dg_cons (dg_n 2 sc_order_fault.nd) (dg_cons (dg_n 3 sc_order_fault.nd) (dg_nil)))) (dss_no)) (dss_one (ds_ret (de_non))))
def N_triangle_fault : List Str := ["thing", "gaps", "names", "one", "here", "over", "there"]
theorem sc_triangle_fault : FnScope N_triangle_fault ["thing"] (defScope s_triangle_fault) := ⟨rfl, rfl, rfl, by decide +kernel, rfl, by decide +kernel, by decide +kernel⟩
def T_triangle_fault (spU_gaps_by : List SV → Prop)  : DS := dSq (dSetU 1 spU_gaps_by (aCons (dN 0) (aNil))) (dSq (dSet 2 (dB fSset (d2 fCat (dLc (iSeq (dN 0)) (gN 3) (bYes) (d2 fIx (dN 3) (dC (.int 0))) [3]) (dLc (iSeq (dN 0)) (gN 3) (bYes) (d2 fIx (dN 3) (dC (.int 1))) [3])))) (dSq (dFor (iSeq (dN 2)) (gN 4) (dNo)) (dRet 99 (dC .none))))
theorem b_triangle_fault (c : Cf K mg) {spU_gaps_by : List SV → Prop} (c_gaps_by : CalU P w K mg base "gaps_by" 1 spU_gaps_by)  (f : Addr) (cdv : Value) (A : Around) (outer : List Env) (s : Shared) (H : Hp) (E : XK) (hr : Room 1 (A.deeper (envOfC "triangle_fault" (defScope s_triangle_fault) s.heap.objs.size f cdv))) :
    PSs (cxOf CX0 P w K mg base N_triangle_fault "triangle_fault" (defScope s_triangle_fault) f cdv A outer s H E).nox (defBody s_triangle_fault) (ls 99 (T_triangle_fault spU_gaps_by )) :=
  dss_cons (ds_setU 1 sc_triangle_fault.nd c_gaps_by hr (by rfl) (da_cons (de_n 0) (da_nil))) (dss_cons (ds_set 2 sc_triangle_fault.nd (de_sset hr (by rfl) (c.free 9) (by rfl) (c.free 10) (de_op r_cat op_cat (de_lc sc_triangle_fault.nd (di_seq (de_n 0)) (blkOk_by (own := [("one", 3)]) (by kernel_rfl)) (fun _ _ _ _ _ => dg_n 3 sc_triangle_fault.nd) (fun _ _ _ _ _ => dts_nil) (fun _ _ _ _ _ => de_ix (de_n 3) (de_int))) (de_lc sc_triangle_fault.nd (di_seq (de_n 0)) (blkOk_by (own := [("one", 3)]) (by kernel_rfl)) (fun _ _ _ _ _ => dg_n 3 sc_triangle_fault.nd) (fun _ _ _ _ _ => dts_nil) (fun _ _ _ _ _ => de_ix (de_n 3) (de_int)))))) (dss_cons (ds_for rfl (di_seq (de_n 2)) (dg_n 4 sc_triangle_fault.nd) (dss_no)) (dss_one (ds_ret (de_non)))))
def N_clocks_fault : List Str := ["houses", "thing", "fault", "three"]
theorem sc_clocks_fault : FnScope N_clocks_fault ["houses", "thing"] (defScope s_clocks_fault) := ⟨rfl, rfl, rfl, by decide +kernel, rfl, by decide +kernel, by decide +kernel⟩
def T_clocks_fault (sp_order_fault : DSp) (dd_order_fault : List SV) (sp_triangle_fault : DSp) (dd_triangle_fault : List SV) : DS := dSq (dSet 2 (dCall sp_order_fault dd_order_fault (aCons (dN 0) (aCons (dN 1) (aNil))))) (dSq (dIfS (tb (d2 fNs (dN 2) (dC .none))) (dNo) (dNx)) (dSq (dSet 3 (dCall sp_triangle_fault dd_triangle_fault (aCons (dN 1) (aNil)))) (dRet 99 (dIf (tb (d2 fNs (dN 3) (dC .none))) (dTup (aCons (dC (.str "triangle")) (aCons (dN 3) (aNil)))) (dC .none)))))
theorem b_clocks_fault (c : Cf K mg) {sp_order_fault : DSp} {dd_order_fault : List SV} (c_order_fault : CalD P w K mg base "order_fault" 1 sp_order_fault dd_order_fault) {sp_triangle_fault : DSp} {dd_triangle_fault : List SV} (c_triangle_fault : CalD P w K mg base "triangle_fault" 2 sp_triangle_fault dd_triangle_fault) (f : Addr) (cdv : Value) (A : Around) (outer : List Env) (s : Shared) (H : Hp) (E : XK) (hr : Room 2 (A.deeper (envOfC "clocks_fault" (defScope s_clocks_fault) s.heap.objs.size f cdv))) :
    PSs (cxOf CX0 P w K mg base N_clocks_fault "clocks_fault" (defScope s_clocks_fault) f cdv A outer s H E).nox (defBody s_clocks_fault) (ls 99 (T_clocks_fault sp_order_fault dd_order_fault sp_triangle_fault dd_triangle_fault)) :=
  dss_cons (ds_set 2 sc_clocks_fault.nd (de_c c_order_fault hr (by rfl) (da_cons (de_n 0) (da_cons (de_n 1) (da_nil))))) (dss_cons (ds_if (dt_cmp r_ns op_notN (de_n 2) (de_non) rfl) (dss_no) (dss_nil)) (dss_cons (ds_set 3 sc_clocks_fault.nd (de_c c_triangle_fault hr (by rfl) (da_cons (de_n 1) (da_nil)))) (dss_one (ds_ret (de_if (dt_cmp r_ns op_notN (de_n 3) (de_non) rfl) (de_tup (da_cons (de_str) (da_cons (de_n 3) (da_nil)))) (de_non))))))
def N_rules_fault : List Str := ["machine", "houses", "looking", "waking", "k", "one"]
theorem sc_rules_fault : FnScope N_rules_fault ["machine", "houses", "looking", "waking"] (defScope s_rules_fault) := ⟨rfl, rfl, rfl, by decide +kernel, rfl, by decide +kernel, by decide +kernel⟩
def T_rules_fault  : DS := dSq (dIfS (bNot (tb (dIsi (dN 2) "tuple"))) (dRet 99 (dTup (aCons (dC (.str "looking")) (aCons (dNeg (dC (.int 1))) (aNil))))) (dNx)) (dSq (dFor (iEnT (dN 2)) (gTp 2 (gCs (gN 4) (gCs (gN 5) (gNl)))) (dNo)) (dSq (dIfS (bNot (tb (dIsi (dN 3) "tuple"))) (dRet 99 (dTup (aCons (dC (.str "waking")) (aCons (dNeg (dC (.int 1))) (aNil))))) (dNx)) (dSq (dFor (iEnT (dN 3)) (gTp 2 (gCs (gN 4) (gCs (gN 5) (gNl)))) (dNo)) (dRet 99 (dC .none)))))
theorem b_rules_fault (c : Cf K mg)  (f : Addr) (cdv : Value) (A : Around) (outer : List Env) (s : Shared) (H : Hp) (E : XK) (hr : Room 0 (A.deeper (envOfC "rules_fault" (defScope s_rules_fault) s.heap.objs.size f cdv))) :
    PSs (cxOf CX0 P w K mg base N_rules_fault "rules_fault" (defScope s_rules_fault) f cdv A outer s H E).nox (defBody s_rules_fault) (ls 99 (T_rules_fault )) :=
  dss_cons (ds_if (dt_not (dt_val (de_isi (.inr (.inr (.inr rfl))) rfl (c.free 12) rfl (c.free 8) rfl (de_n 2)))) (dss_one (ds_ret (de_tup (da_cons (de_str) (da_cons (de_neg (de_int)) (da_nil)))))) (dss_nil)) (dss_cons (ds_for rfl (di_enT (by rfl) (c.free 13) (de_n 2)) (dg_tup (dg_cons (dg_n 4 sc_rules_fault.nd) (dg_cons (dg_n 5 sc_rules_fault.nd) (dg_nil)))) (dss_no)) (dss_cons (ds_if (dt_not (dt_val (de_isi (.inr (.inr (.inr rfl))) rfl (c.free 12) rfl (c.free 8) rfl (de_n 3)))) (dss_one (ds_ret (de_tup (da_cons (de_str) (da_cons (de_neg (de_int)) (da_nil)))))) (dss_nil)) (dss_cons (ds_for rfl (di_enT (by rfl) (c.free 13) (de_n 3)) (dg_tup (dg_cons (dg_n 4 sc_rules_fault.nd) (dg_cons (dg_n 5 sc_rules_fault.nd) (dg_nil)))) (dss_no)) (dss_one (ds_ret (de_non))))))
def N_parts_fault : List Str := ["thing", "machine", "trust", "clocks", "looking", "waking", "fault", "houses", "one"]
theorem sc_parts_fault : FnScope N_parts_fault ["thing"] (defScope s_parts_fault) := ⟨rfl, rfl, rfl, by decide +kernel, rfl, by decide +kernel, by decide +kernel⟩
def T_parts_fault (sp_is_tuple_of : DSp) (dd_is_tuple_of : List SV) (sp_machine_fault : DSp) (dd_machine_fault : List SV) (sp_trust_fault : DSp) (dd_trust_fault : List SV) (sp_clocks_fault : DSp) (dd_clocks_fault : List SV) (sp_rules_fault : DSp) (dd_rules_fault : List SV) : DS := dSq (dIfS (bNot (tb (dCall sp_is_tuple_of dd_is_tuple_of (aCons (dN 0) (aCons (dC (.int 5)) (aNil)))))) (dRet 99 (dTup (aCons (dC (.str "shape")) (aCons (dNeg (dC (.int 1))) (aNil))))) (dNx)) (dSq (dAsg (dN 0) (gTp 5 (gCs (gN 1) (gCs (gN 2) (gCs (gN 3) (gCs (gN 4) (gCs (gN 5) (gNl)))))))) (dSq (dSet 6 (dCall sp_machine_fault dd_machine_fault (aCons (dN 1) (aNil)))) (dSq (dIfS (tb (d2 fNs (dN 6) (dC .none))) (dNo) (dNx)) (dSq (dSet 6 (dCall sp_trust_fault dd_trust_fault (aCons (dN 2) (aNil)))) (dSq (dIfS (tb (d2 fNs (dN 6) (dC .none))) (dNo) (dNx)) (dSq (dSet 7 (dLc (iSeq (dN 2)) (gN 8) (bYes) (d2 fIx (dN 8) (dC (.int 0))) [8])) (dSq (dSet 6 (dCall sp_clocks_fault dd_clocks_fault (aCons (dN 7) (aCons (dN 3) (aNil))))) (dSq (dIfS (tb (d2 fNs (dN 6) (dC .none))) (dNo) (dNx)) (dRet 99 (dCall sp_rules_fault dd_rules_fault (aCons (dN 1) (aCons (dN 7) (aCons (dN 4) (aCons (dN 5) (aNil)))))))))))))))
theorem b_parts_fault (c : Cf K mg) {sp_is_tuple_of : DSp} {dd_is_tuple_of : List SV} (c_is_tuple_of : CalD P w K mg base "is_tuple_of" 1 sp_is_tuple_of dd_is_tuple_of) {sp_machine_fault : DSp} {dd_machine_fault : List SV} (c_machine_fault : CalD P w K mg base "machine_fault" 5 sp_machine_fault dd_machine_fault) {sp_trust_fault : DSp} {dd_trust_fault : List SV} (c_trust_fault : CalD P w K mg base "trust_fault" 5 sp_trust_fault dd_trust_fault) {sp_clocks_fault : DSp} {dd_clocks_fault : List SV} (c_clocks_fault : CalD P w K mg base "clocks_fault" 3 sp_clocks_fault dd_clocks_fault) {sp_rules_fault : DSp} {dd_rules_fault : List SV} (c_rules_fault : CalD P w K mg base "rules_fault" 1 sp_rules_fault dd_rules_fault) (f : Addr) (cdv : Value) (A : Around) (outer : List Env) (s : Shared) (H : Hp) (E : XK) (hr : Room 5 (A.deeper (envOfC "parts_fault" (defScope s_parts_fault) s.heap.objs.size f cdv))) :
    PSs (cxOf CX0 P w K mg base N_parts_fault "parts_fault" (defScope s_parts_fault) f cdv A outer s H E).nox (defBody s_parts_fault) (ls 99 (T_parts_fault sp_is_tuple_of dd_is_tuple_of sp_machine_fault dd_machine_fault sp_trust_fault dd_trust_fault sp_clocks_fault dd_clocks_fault sp_rules_fault dd_rules_fault)) :=
  dss_cons (ds_if (dt_not (dt_val (de_c c_is_tuple_of hr (by rfl) (da_cons (de_n 0) (da_cons (de_int) (da_nil)))))) (dss_one (ds_ret (de_tup (da_cons (de_str) (da_cons (de_neg (de_int)) (da_nil)))))) (dss_nil)) (dss_cons (ds_asg (de_n 0) (dg_tup (dg_cons (dg_n 1 sc_parts_fault.nd) (dg_cons (dg_n 2 sc_parts_fault.nd) (dg_cons (dg_n 3 sc_parts_fault.nd) (dg_cons (dg_n 4 sc_parts_fault.nd) (dg_cons (dg_n 5 sc_parts_fault.nd) (dg_nil)))))))) (dss_cons (ds_set 6 sc_parts_fault.nd (de_c c_machine_fault hr (by rfl) (da_cons (de_n 1) (da_nil)))) (dss_cons (ds_if (dt_cmp r_ns op_notN (de_n 6) (de_non) rfl) (dss_no) (dss_nil)) (dss_cons (ds_set 6 sc_parts_fault.nd (de_c c_trust_fault hr (by rfl) (da_cons (de_n 2) (da_nil)))) (dss_cons (ds_if (dt_cmp r_ns op_notN (de_n 6) (de_non) rfl) (dss_no) (dss_nil)) (dss_cons (ds_setLc 7 sc_parts_fault.nd (di_seq (de_n 2)) (blkOk_by (own := [("one", 8)]) (by kernel_rfl)) (fun _ _ _ _ _ => dg_n 8 sc_parts_fault.nd) (fun _ _ _ _ _ => dts_nil) (fun _ _ _ _ _ => de_ix (de_n 8) (de_int))) (dss_cons (ds_set 6 sc_parts_fault.nd (de_c c_clocks_fault hr (by rfl) (da_cons (de_n 7) (da_cons (de_n 3) (da_nil))))) (dss_cons (ds_if (dt_cmp r_ns op_notN (de_n 6) (de_non) rfl) (dss_no) (dss_nil)) (dss_one (ds_ret (de_c c_rules_fault hr (by rfl) (da_cons (de_n 1) (da_cons (de_n 7) (da_cons (de_n 4) (da_cons (de_n 5) (da_nil))))))))))))))))
def N_faults_by : List Str := ["book", "age"]
theorem sc_faults_by : FnScope N_faults_by ["book", "age"] (defScope s_faults_by) := ⟨rfl, rfl, rfl, by decide +kernel, rfl, by decide +kernel, by decide +kernel⟩
def T_faults_by (sp_waking_faults : DSp) (dd_waking_faults : List SV) (sp_looking_faults : DSp) (dd_looking_faults : List SV) (sp_odds_faults : DSp) (dd_odds_faults : List SV) : DS := dRet 99 (dLst (aStar (dCall sp_odds_faults dd_odds_faults (aCons (dN 0) (aNil))) (aStar (dCall sp_looking_faults dd_looking_faults (aCons (dN 0) (aCons (dN 1) (aNil)))) (aStar (dCall sp_waking_faults dd_waking_faults (aCons (dN 0) (aNil))) (aNil)))))
theorem b_faults_by (c : Cf K mg) {sp_waking_faults : DSp} {dd_waking_faults : List SV} (c_waking_faults : CalD P w K mg base "waking_faults" 1 sp_waking_faults dd_waking_faults) {sp_looking_faults : DSp} {dd_looking_faults : List SV} (c_looking_faults : CalD P w K mg base "looking_faults" 1 sp_looking_faults dd_looking_faults) {sp_odds_faults : DSp} {dd_odds_faults : List SV} (c_odds_faults : CalD P w K mg base "odds_faults" 6 sp_odds_faults dd_odds_faults) (f : Addr) (cdv : Value) (A : Around) (outer : List Env) (s : Shared) (H : Hp) (E : XK) (hr : Room 6 (A.deeper (envOfC "faults_by" (defScope s_faults_by) s.heap.objs.size f cdv))) :
    PSs (cxOf CX0 P w K mg base N_faults_by "faults_by" (defScope s_faults_by) f cdv A outer s H E).nox (defBody s_faults_by) (ls 99 (T_faults_by sp_waking_faults dd_waking_faults sp_looking_faults dd_looking_faults sp_odds_faults dd_odds_faults)) :=
  dss_one (ds_ret (de_lst (da_star (de_c c_odds_faults hr (by rfl) (da_cons (de_n 0) (da_nil))) (da_star (de_c c_looking_faults hr (by rfl) (da_cons (de_n 0) (da_cons (de_n 1) (da_nil)))) (da_star (de_c c_waking_faults hr (by rfl) (da_cons (de_n 0) (da_nil))) (da_nil))))))
def N_faults_by_fall : List Str := ["book", "fall", "safe", "own", "k", "looking", "waking", "fault"]
theorem sc_faults_by_fall : FnScope N_faults_by_fall ["book", "fall"] (defScope s_faults_by_fall) := ⟨rfl, rfl, rfl, by decide +kernel, rfl, by decide +kernel, by decide +kernel⟩
def T_faults_by_fall (sp_safe_by : DSp) (dd_safe_by : List SV) (sp_waking_faults : DSp) (dd_waking_faults : List SV) (sp_odds_in_fall : DSp) (dd_odds_in_fall : List SV) : DS := dSq (dSet 2 (dCall sp_safe_by dd_safe_by (aCons (d2 fIx (dN 0) (dC (.int 1))) (aCons (dN 1) (aNil))))) (dSq (dSet 3 (dLc (iRng (dB fLen (d2 fIx (dN 0) (dC (.int 3))))) (gN 4) (bAnd (tb (d2 fIn (d2 fIx (d2 fIx (d2 fIx (dN 0) (dC (.int 3))) (dN 4)) (dC (.int 0))) (dN 2))) (tb (d2 fNs (dX) (dC .none)))) (dN 4) [4])) (dSq (dSet 5 (dLc (iSeq (dN 3)) (gN 4) (tb (dX)) (dTup (aCons (dC (.str "looking")) (aCons (dN 4) (aNil)))) [4])) (dSq (dSet 6 (dLc (iSeq (dCall sp_waking_faults dd_waking_faults (aCons (dN 0) (aNil)))) (gN 7) (tb (d2 fIn (d2 fIx (d2 fIx (d2 fIx (dN 0) (dC (.int 4))) (d2 fIx (dN 7) (dC (.int 1)))) (dC (.int 0))) (dN 2))) (dN 7) [7])) (dRet 99 (dLst (aStar (dCall sp_odds_in_fall dd_odds_in_fall (aCons (dN 0) (aCons (dN 1) (aNil)))) (aStar (dN 5) (aStar (dN 6) (aNil)))))))))
theorem b_faults_by_fall (c : Cf K mg) {sp_safe_by : DSp} {dd_safe_by : List SV} (c_safe_by : CalD P w K mg base "safe_by" 3 sp_safe_by dd_safe_by) {sp_waking_faults : DSp} {dd_waking_faults : List SV} (c_waking_faults : CalD P w K mg base "waking_faults" 1 sp_waking_faults dd_waking_faults) {sp_odds_in_fall : DSp} {dd_odds_in_fall : List SV} (c_odds_in_fall : CalD P w K mg base "odds_in_fall" 3 sp_odds_in_fall dd_odds_in_fall) (f : Addr) (cdv : Value) (A : Around) (outer : List Env) (s : Shared) (H : Hp) (E : XK) (hr : Room 3 (A.deeper (envOfC "faults_by_fall" (defScope s_faults_by_fall) s.heap.objs.size f cdv))) :
    PSs (cxOf CX0 P w K mg base N_faults_by_fall "faults_by_fall" (defScope s_faults_by_fall) f cdv A outer s H E).nox (defBody s_faults_by_fall) (ls 99 (T_faults_by_fall sp_safe_by dd_safe_by sp_waking_faults dd_waking_faults sp_odds_in_fall dd_odds_in_fall)) :=
  dss_cons (ds_set 2 sc_faults_by_fall.nd (de_c c_safe_by hr (by rfl) (da_cons (de_ix (de_n 0) (de_int)) (da_cons (de_n 1) (da_nil))))) (dss_cons (ds_setLc 3 sc_faults_by_fall.nd (di_rng (by rfl) (c.free 14) (de_b r_len call_len (by rfl) (c.free 11) (by rfl) (de_ix (de_n 0) (de_int)))) (blkOk_by (own := [("k", 4)]) (by kernel_rfl)) (fun _ _ _ _ _ => dg_n 4 sc_faults_by_fall.nd) (fun _ _ _ _ _ => dts_one (PW.pt (dw_and (dt_cmp r_in (op_inS (Room.u65 hr)) (de_ix (de_ix (de_ix (de_n 0) (de_int)) (de_n 4)) (de_int)) (de_n 2) rfl) (dw_and1 (dt_cmp r_ns op_notN (de_never) (de_non) rfl))))) (fun _ _ _ _ _ => de_n 4)) (dss_cons (ds_setLc 5 sc_faults_by_fall.nd (di_seq (de_n 3)) (blkOk_by (own := [("k", 4)]) (by kernel_rfl)) (fun _ _ _ _ _ => dg_n 4 sc_faults_by_fall.nd) (fun _ _ _ _ _ => dts_one (dt_val (de_never))) (fun _ _ _ _ _ => de_tup (da_cons (de_gstr (by rfl) (c.str 4)) (da_cons (de_n 4) (da_nil))))) (dss_cons (ds_setLc 6 sc_faults_by_fall.nd (di_seq (de_c c_waking_faults hr (by rfl) (da_cons (de_n 0) (da_nil)))) (blkOk_by (own := [("fault", 7)]) (by kernel_rfl)) (fun _ _ _ _ _ => dg_n 7 sc_faults_by_fall.nd) (fun _ _ _ _ _ => dts_one (dt_cmp r_in (op_inS (Room.u65 hr)) (de_ix (de_ix (de_ix (de_n 0) (de_int)) (de_ix (de_n 7) (de_int))) (de_int)) (de_n 2) rfl)) (fun _ _ _ _ _ => de_n 7)) (dss_one (ds_ret (de_lst (da_star (de_c c_odds_in_fall hr (by rfl) (da_cons (de_n 0) (da_cons (de_n 1) (da_nil)))) (da_star (de_n 5) (da_star (de_n 6) (da_nil))))))))))
def N_faults_of : List Str := ["book", "age"]
theorem sc_faults_of : FnScope N_faults_of ["book", "age"] (defScope s_faults_of) := ⟨rfl, rfl, rfl, by decide +kernel, rfl, by decide +kernel, by decide +kernel⟩
def T_faults_of (sp_want_book : DSp) (dd_want_book : List SV) (sp_want_age : DSp) (dd_want_age : List SV) (sp_faults_by : DSp) (dd_faults_by : List SV) : DS := dSq (dDo (dCall sp_want_book dd_want_book (aCons (dN 0) (aNil)))) (dSq (dDo (dCall sp_want_age dd_want_age (aCons (dN 0) (aCons (dN 1) (aNil))))) (dRet 99 (dB fTuple (dB fSort (dCall sp_faults_by dd_faults_by (aCons (dN 0) (aCons (dN 1) (aNil))))))))
theorem b_faults_of (c : Cf K mg) {sp_want_book : DSp} {dd_want_book : List SV} (c_want_book : CalD P w K mg base "want_book" 8 sp_want_book dd_want_book) {sp_want_age : DSp} {dd_want_age : List SV} (c_want_age : CalD P w K mg base "want_age" 3 sp_want_age dd_want_age) {sp_faults_by : DSp} {dd_faults_by : List SV} (c_faults_by : CalD P w K mg base "faults_by" 7 sp_faults_by dd_faults_by) (f : Addr) (cdv : Value) (A : Around) (outer : List Env) (s : Shared) (H : Hp) (E : XK) (hr : Room 8 (A.deeper (envOfC "faults_of" (defScope s_faults_of) s.heap.objs.size f cdv))) :
    PSs (cxOf CX0 P w K mg base N_faults_of "faults_of" (defScope s_faults_of) f cdv A outer s H E).nox (defBody s_faults_of) (ls 99 (T_faults_of sp_want_book dd_want_book sp_want_age dd_want_age sp_faults_by dd_faults_by)) :=
  dss_cons (ds_do (de_c c_want_book hr (by rfl) (da_cons (de_n 0) (da_nil)))) (dss_cons (ds_do (de_c c_want_age hr (by rfl) (da_cons (de_n 0) (da_cons (de_n 1) (da_nil))))) (dss_one (ds_ret (de_ty r_tuple call_tuple_of (by rfl) (c.free 8) (by rfl) (de_sort hr (by rfl) (c.free 9) (de_c c_faults_by hr (by rfl) (da_cons (de_n 0) (da_cons (de_n 1) (da_nil)))))))))
def N_faults_in : List Str := ["book", "fall"]
theorem sc_faults_in : FnScope N_faults_in ["book", "fall"] (defScope s_faults_in) := ⟨rfl, rfl, rfl, by decide +kernel, rfl, by decide +kernel, by decide +kernel⟩
def T_faults_in (sp_want_book : DSp) (dd_want_book : List SV) (sp_are_houses_of : DSp) (dd_are_houses_of : List SV) (sp_want : DSp) (dd_want : List SV) (sp_faults_by_fall : DSp) (dd_faults_by_fall : List SV) : DS := dSq (dDo (dCall sp_want_book dd_want_book (aCons (dN 0) (aNil)))) (dSq (dDo (dCall sp_want dd_want (aCons (dCall sp_are_houses_of dd_are_houses_of (aCons (d2 fIx (dN 0) (dC (.int 1))) (aCons (dN 1) (aNil)))) (aCons (dC (.str "fall")) (aNil))))) (dRet 99 (dB fTuple (dB fSort (dCall sp_faults_by_fall dd_faults_by_fall (aCons (dN 0) (aCons (dN 1) (aNil))))))))
theorem b_faults_in (c : Cf K mg) {sp_want_book : DSp} {dd_want_book : List SV} (c_want_book : CalD P w K mg base "want_book" 8 sp_want_book dd_want_book) {sp_are_houses_of : DSp} {dd_are_houses_of : List SV} (c_are_houses_of : CalD P w K mg base "are_houses_of" 4 sp_are_houses_of dd_are_houses_of) {sp_want : DSp} {dd_want : List SV} (c_want : CalD P w K mg base "want" 1 sp_want dd_want) {sp_faults_by_fall : DSp} {dd_faults_by_fall : List SV} (c_faults_by_fall : CalD P w K mg base "faults_by_fall" 4 sp_faults_by_fall dd_faults_by_fall) (f : Addr) (cdv : Value) (A : Around) (outer : List Env) (s : Shared) (H : Hp) (E : XK) (hr : Room 8 (A.deeper (envOfC "faults_in" (defScope s_faults_in) s.heap.objs.size f cdv))) :
    PSs (cxOf CX0 P w K mg base N_faults_in "faults_in" (defScope s_faults_in) f cdv A outer s H E).nox (defBody s_faults_in) (ls 99 (T_faults_in sp_want_book dd_want_book sp_are_houses_of dd_are_houses_of sp_want dd_want sp_faults_by_fall dd_faults_by_fall)) :=
  dss_cons (ds_do (de_c c_want_book hr (by rfl) (da_cons (de_n 0) (da_nil)))) (dss_cons (ds_do (de_c c_want hr (by rfl) (da_cons (de_c c_are_houses_of hr (by rfl) (da_cons (de_ix (de_n 0) (de_int)) (da_cons (de_n 1) (da_nil)))) (da_cons (de_str) (da_nil))))) (dss_one (ds_ret (de_ty r_tuple call_tuple_of (by rfl) (c.free 8) (by rfl) (de_sort hr (by rfl) (c.free 9) (de_c c_faults_by_fall hr (by rfl) (da_cons (de_n 0) (da_cons (de_n 1) (da_nil)))))))))
end
end Ao
set_option Elab.async false
set_option autoImplicit false
set_option linter.all false
set_option maxRecDepth 100000
set_option maxHeartbeats 1000000
namespace Ao
open PySem PySem.Spec PyProof.Rows L2
section
variable {P : Program} {w : World} {K : AK} {mg : Str → Option Value} {base : Heap}
def N__law_guild : List Str := ["_law_feed_here", "_law_most", "_law_some", "_law_names", "_law_pool", "_law_found", "_law_easy", "_law_large", "_law_one", "_law_name", "_law_rest", "_law_own", "_law_scares", "_law_other", "_law_k"]
theorem sc__law_guild : FnScope N__law_guild ["_law_feed_here", "_law_most"] (defScope s__law_guild) := ⟨rfl, rfl, rfl, by decide +kernel, rfl, by decide +kernel, by decide +kernel⟩
def T__law_guild (sp__law_any : DSp) (dd__law_any : List SV) (sp__law_subsets : DSp) (dd__law_subsets : List SV) (sp__law_draw : DSp) (dd__law_draw : List SV) (sp__law_less : DSp) (dd__law_less : List SV) : DS := dSq (dSet 2 (dLst (aCons (dTup (aCons (dC (.str "a")) (aCons (dC (.str "b")) (aCons (dC (.str "c")) (aCons (dC (.str "d")) (aNil)))))) (aCons (dTup (aCons (dC (.str "east")) (aCons (dC (.str "n")) (aCons (dC (.str "west")) (aCons (dC (.str "zz")) (aNil)))))) (aCons (dTup (aCons (dC (.str "ada")) (aCons (dC (.str "bo")) (aCons (dC (.str "cy")) (aCons (dC (.str "di")) (aNil)))))) (aNil)))))) (dSq (dSet 3 (d2 fTo (dCall sp__law_any dd__law_any (aFeed 0 (aCons (dN 2) (aNil)))) (dCall sp__law_any dd__law_any (aFeed 0 (aCons (dLst (aCons (dC (.int 2)) (aCons (dC (.int 3)) (aCons (dC (.int 3)) (aCons (dC (.int 3)) (aCons (dN 1) (aNil))))))) (aNil)))))) (dSq (dPrN 5 4 (vD (d2 fFrom (dCall sp__law_subsets dd__law_subsets (aCons (dN 3) (aNil))) (dC (.int 1))))) (dSq (dPr 6 7 (aCons (d2 fEq (dCall sp__law_draw dd__law_draw (aFeed 0 (aCons (dC (.int 2)) (aNil)))) (dC (.int 0))) (aCons (dLc (iSeq (dN 4)) (gN 8) (tb (d2 fEq (dB fLen (dN 8)) (d2 (fII (fun _ _ => True) fun i j => i + j) (d2 (fII CDiv fun i j => i / j) (dB fLen (dN 3)) (dC (.int 2))) (dC (.int 1))))) (dN 8) [8]) (aNil)))) (dSq (dFor (iSeq (dN 3)) (gN 9) (dSq (dPr 10 11 (aCons (dCall sp__law_less dd__law_less (aCons (dN 3) (aCons (dTup (aCons (dN 9) (aNil))) (aNil)))) (aCons (dLst (aNil)) (aNil)))) (dSq (dIfS (tb (dN 6)) (dSq (dSet 11 (dLc (iSeq (dN 7)) (gN 8) (tb (d2 (fIB fun i j => decide (j < i)) (dCall sp__law_draw dd__law_draw (aFeed 0 (aCons (dC (.int 4)) (aNil)))) (dC (.int 0)))) (dN 8) [8])) (dSet 12 (dLc (iSeq (dN 10)) (gN 13) (tb (d2 fEq (dCall sp__law_draw dd__law_draw (aFeed 0 (aCons (dC (.int 2)) (aNil)))) (dC (.int 0)))) (dTup (aCons (dN 13) (aNil))) [13]))) (dSq (dSet 11 (dLc (iRng (d2 (fII (fun _ _ => True) fun i j => i + j) (dC (.int 1)) (dCall sp__law_draw dd__law_draw (aFeed 0 (aCons (dC (.int 2)) (aNil)))))) (gN 14) (bYes) (dCall sp__law_any dd__law_any (aFeed 0 (aCons (dN 4) (aNil)))) [14])) (dSet 12 (dLc (iRng (dCall sp__law_draw dd__law_draw (aFeed 0 (aCons (dC (.int 3)) (aNil))))) (gN 14) (bYes) (dCall sp__law_any dd__law_any (aFeed 0 (aCons (dCall sp__law_subsets dd__law_subsets (aCons (dN 10) (aNil))) (aNil)))) [14])))) (dSq (dPr 11 12 (aCons (dIf (tb (d2 fNe (dN 11) (dLst (aNil)))) (dN 11) (dLst (aCons (dN 3) (aNil)))) (aCons (dIf (tb (d2 fNe (dN 12) (dLst (aNil)))) (dN 12) (dLst (aCons (dTup (aNil)) (aNil)))) (aNil)))) (dApp (dTup (aCons (dN 9) (aCons (dB fTuple (dB fSset (dN 11))) (aCons (dB fTuple (dB fSset (dN 12))) (aNil)))))))))) (dRet 5 (dB fTuple (dN 5)))))))
theorem b__law_guild (c : Cf K mg) {sp__law_any : DSp} {dd__law_any : List SV} (c__law_any : CalD P w K mg base "_law_any" 2 sp__law_any dd__law_any) {sp__law_subsets : DSp} {dd__law_subsets : List SV} (c__law_subsets : CalD P w K mg base "_law_subsets" 1 sp__law_subsets dd__law_subsets) {sp__law_draw : DSp} {dd__law_draw : List SV} (c__law_draw : CalD P w K mg base "_law_draw" 1 sp__law_draw dd__law_draw) {sp__law_less : DSp} {dd__law_less : List SV} (c__law_less : CalD P w K mg base "_law_less" 1 sp__law_less dd__law_less) (f : Addr) (cdv : Value) (A : Around) (outer : List Env) (s : Shared) (H : Hp) (E : XK) (hr : Room 2 (A.deeper (envOfC "_law_guild" (defScope s__law_guild) s.heap.objs.size f cdv))) :
    PSs (cxOf CX0 P w K mg base N__law_guild "_law_guild" (defScope s__law_guild) f cdv A outer s H E).nox (defBody s__law_guild) (ls 5 (T__law_guild sp__law_any dd__law_any sp__law_subsets dd__law_subsets sp__law_draw dd__law_draw sp__law_less dd__law_less)) :=
  dss_cons (ds_set 2 sc__law_guild.nd (de_lst (da_cons (de_tup (da_cons (de_str) (da_cons (de_str) (da_cons (de_str) (da_cons (de_str) (da_nil)))))) (da_cons (de_tup (da_cons (de_str) (da_cons (de_str) (da_cons (de_str) (da_cons (de_str) (da_nil)))))) (da_cons (de_tup (da_cons (de_str) (da_cons (de_str) (da_cons (de_str) (da_cons (de_str) (da_nil)))))) (da_nil)))))) (dss_cons (ds_set 3 sc__law_guild.nd (de_to (de_c c__law_any hr (by rfl) (da_feed 0 (da_cons (de_n 2) (da_nil)))) (de_c c__law_any hr (by rfl) (da_feed 0 (da_cons (de_lst (da_cons (de_int) (da_cons (de_int) (da_cons (de_int) (da_cons (de_int) (da_cons (de_n 1) (da_nil))))))) (da_nil)))))) (dss_cons (ds_prN 4 sc__law_guild.nd (de_v (de_from (de_c c__law_subsets hr (by rfl) (da_cons (de_n 3) (da_nil))) (de_int)))) (dss_cons (ds_par 6 7 sc__law_guild.nd (da_cons (de_cmp r_eq (op_eqD (Room.units hr)) (de_c c__law_draw hr (by rfl) (da_feed 0 (da_cons (de_int) (da_nil)))) (de_int) rfl) (da_cons (de_lc sc__law_guild.nd (di_seq (de_n 4)) (blkOk_by (own := [("_law_one", 8)]) (by kernel_rfl)) (fun _ _ _ _ _ => dg_n 8 sc__law_guild.nd) (fun _ _ _ _ _ => dts_one (dt_cmp r_eq (op_eqD (Room.units hr)) (de_b r_len call_len (by rfl) (c.free 11) (by rfl) (de_n 8)) (de_op r_II0 op_add (de_op r_II op_fdiv (de_b r_len call_len (by rfl) (c.free 11) (by rfl) (de_n 3)) (de_int)) (de_int)) rfl)) (fun _ _ _ _ _ => de_n 8)) (da_nil)))) (dss_cons (ds_for rfl (di_seq (de_n 3)) (dg_n 9 sc__law_guild.nd) (dss_cons (ds_pr 10 11 sc__law_guild.nd (da_cons (de_c c__law_less hr (by rfl) (da_cons (de_n 3) (da_cons (de_tup (da_cons (de_n 9) (da_nil))) (da_nil)))) (da_cons (de_lst (da_nil)) (da_nil)))) (dss_cons (ds_if (dt_val (de_n 6)) (dss_cons (ds_setLc 11 sc__law_guild.nd (di_seq (de_n 7)) (blkOk_by (own := [("_law_one", 8)]) (by kernel_rfl)) (fun _ _ _ _ _ => dg_n 8 sc__law_guild.nd) (fun _ _ _ _ _ => dts_one (dt_cmp r_iB op_gt (de_c c__law_draw hr (by rfl) (da_feed 0 (da_cons (de_int) (da_nil)))) (de_int) rfl)) (fun _ _ _ _ _ => de_n 8)) (dss_one (ds_setLc 12 sc__law_guild.nd (di_seq (de_n 10)) (blkOk_by (own := [("_law_other", 13)]) (by kernel_rfl)) (fun _ _ _ _ _ => dg_n 13 sc__law_guild.nd) (fun _ _ _ _ _ => dts_one (dt_cmp r_eq (op_eqD (Room.units hr)) (de_c c__law_draw hr (by rfl) (da_feed 0 (da_cons (de_int) (da_nil)))) (de_int) rfl)) (fun _ _ _ _ _ => de_tup (da_cons (de_n 13) (da_nil)))))) (dss_cons (ds_setLc 11 sc__law_guild.nd (di_rng (by rfl) (c.free 14) (de_op r_II0 op_add (de_int) (de_c c__law_draw hr (by rfl) (da_feed 0 (da_cons (de_int) (da_nil)))))) (blkOk_by (own := [("_law_k", 14)]) (by kernel_rfl)) (fun _ _ _ _ _ => dg_n 14 sc__law_guild.nd) (fun _ _ _ _ _ => dts_nil) (fun _ _ _ _ _ => de_c c__law_any hr (by rfl) (da_feed 0 (da_cons (de_n 4) (da_nil))))) (dss_one (ds_setLc 12 sc__law_guild.nd (di_rng (by rfl) (c.free 14) (de_c c__law_draw hr (by rfl) (da_feed 0 (da_cons (de_int) (da_nil))))) (blkOk_by (own := [("_law_k", 14)]) (by kernel_rfl)) (fun _ _ _ _ _ => dg_n 14 sc__law_guild.nd) (fun _ _ _ _ _ => dts_nil) (fun _ _ _ _ _ => de_c c__law_any hr (by rfl) (da_feed 0 (da_cons (de_c c__law_subsets hr (by rfl) (da_cons (de_n 10) (da_nil))) (da_nil)))))))) (dss_cons (ds_par 11 12 sc__law_guild.nd (da_cons (de_if (dt_cmp r_ne (op_neD (Room.units hr)) (de_n 11) (de_lst (da_nil)) rfl) (de_n 11) (de_lst (da_cons (de_n 3) (da_nil)))) (da_cons (de_if (dt_cmp r_ne (op_neD (Room.units hr)) (de_n 12) (de_lst (da_nil)) rfl) (de_n 12) (de_lst (da_cons (de_tup (da_nil)) (da_nil)))) (da_nil)))) (dss_one (ds_app (pe_bm PySem.F.plainAttrs_list PySem.F.slot_list_append PySem.F.type_list_append mt_append (pv 5) (pa_cons (de_tup (da_cons (de_n 9) (da_cons (de_ty r_tuple call_tuple_of (by rfl) (c.free 8) (by rfl) (de_sset hr (by rfl) (c.free 9) (by rfl) (c.free 10) (de_n 11))) (da_cons (de_ty r_tuple call_tuple_of (by rfl) (c.free 8) (by rfl) (de_sset hr (by rfl) (c.free 9) (by rfl) (c.free 10) (de_n 12))) (da_nil))))) pa_nil)))))))) (dss_one (ds_ret (de_ty r_tuple call_tuple_of (by rfl) (c.free 8) (by rfl) (de_n 5))))))))
def N__law_minimal : List Str := ["_law_sets", "_law_some", "_law_one", "_law_far"]
theorem sc__law_minimal : FnScope N__law_minimal ["_law_sets"] (defScope s__law_minimal) := ⟨rfl, rfl, rfl, by decide +kernel, rfl, by decide +kernel, by decide +kernel⟩
def T__law_minimal (sp__law_within : DSp) (dd__law_within : List SV) : DS := dSq (dSet 1 (dB fSset (dN 0))) (dRet 99 (dB fTuple (dLc (iSeq (dN 1)) (gN 2) (tb (d2 fEq (dLc (iSeq (dN 1)) (gN 3) (bAnd (tb (d2 fNe (dN 3) (dN 2))) (tb (dCall sp__law_within dd__law_within (aCons (dN 3) (aCons (dN 2) (aNil)))))) (dN 3) [3]) (dLst (aNil)))) (dN 2) [2])))
theorem b__law_minimal (c : Cf K mg) {sp__law_within : DSp} {dd__law_within : List SV} (c__law_within : CalD P w K mg base "_law_within" 1 sp__law_within dd__law_within) (f : Addr) (cdv : Value) (A : Around) (outer : List Env) (s : Shared) (H : Hp) (E : XK) (hr : Room 1 (A.deeper (envOfC "_law_minimal" (defScope s__law_minimal) s.heap.objs.size f cdv))) :
    PSs (cxOf CX0 P w K mg base N__law_minimal "_law_minimal" (defScope s__law_minimal) f cdv A outer s H E).nox (defBody s__law_minimal) (ls 99 (T__law_minimal sp__law_within dd__law_within)) :=
  dss_cons (ds_set 1 sc__law_minimal.nd (de_sset hr (by rfl) (c.free 9) (by rfl) (c.free 10) (de_n 0))) (dss_one (ds_ret (de_ty r_tuple call_tuple_of (by rfl) (c.free 8) (by rfl) (de_lc sc__law_minimal.nd (di_seq (de_n 1)) (blkOk_by (own := [("_law_one", 2)]) (by kernel_rfl)) (fun _ _ _ _ _ => dg_n 2 sc__law_minimal.nd) (fun _ _ _ _ _ => dts_one (dt_cmp r_eq (op_eqD (Room.units hr)) (de_lc sc__law_minimal.nd (di_seq (de_n 1)) (blkOk_by (own := [("_law_far", 3)]) (by kernel_rfl)) (fun _ _ _ _ _ => dg_n 3 sc__law_minimal.nd) (fun _ _ _ _ _ => dts_one (PW.pt (dw_and (dt_cmp r_ne (op_neD (Room.units hr)) (de_n 3) (de_n 2) rfl) (dw_and1 (dt_val (de_c c__law_within hr (by rfl) (da_cons (de_n 3) (da_cons (de_n 2) (da_nil))))))))) (fun _ _ _ _ _ => de_n 3)) (de_lst (da_nil)) rfl)) (fun _ _ _ _ _ => de_n 2)))))
def N__law_same : List Str := ["_law_told", "_law_due"]
theorem sc__law_same : FnScope N__law_same ["_law_told", "_law_due"] (defScope s__law_same) := ⟨rfl, rfl, rfl, by decide +kernel, rfl, by decide +kernel, by decide +kernel⟩
def T__law_same  : DS := dRet 99 (d2 fEqS (dB fRepr (dN 0)) (dB fRepr (dN 1)))
theorem b__law_same (c : Cf K mg)  (f : Addr) (cdv : Value) (A : Around) (outer : List Env) (s : Shared) (H : Hp) (E : XK) (hgd : A.guards = some []) (hr : Room 0 (A.deeper (envOfC "_law_same" (defScope s__law_same) s.heap.objs.size f cdv))) :
    PSs (cxOf CX0 P w K mg base N__law_same "_law_same" (defScope s__law_same) f cdv A outer s H E).nox (defBody s__law_same) (ls 99 (T__law_same )) :=
  dss_one (ds_ret (de_cmp r_eqS op_eq (de_repr hgd hr (by rfl) (c.free 19) (de_n 0)) (de_repr hgd hr (by rfl) (c.free 19) (de_n 1)) rfl))
def N__law_are_falls_right : List Str := ["_law_feed_here", "_law_guild_here", "_law_safes_here", "_law_odds_in", "_law_pool", "_law_table", "_law_one", "_law_lap", "_law_other", "_law_told", "_law_both", "_law_name", "_law_fine", "_law_pair_in"]
theorem sc__law_are_falls_right : FnScope N__law_are_falls_right ["_law_feed_here", "_law_guild_here", "_law_safes_here", "_law_odds_in"] (defScope s__law_are_falls_right) := ⟨rfl, rfl, rfl, by decide +kernel, rfl, by decide +kernel, by decide +kernel⟩
def T__law_are_falls_right (sp__law_all_pairs : DSp) (dd__law_all_pairs : List SV) (sp__law_any : DSp) (dd__law_any : List SV) (sp_odds_fall : DSp) (dd_odds_fall : List SV) (sp__law_within : DSp) (dd__law_within : List SV) : DS := dSq (dPr 4 5 (aCons (dCall sp__law_all_pairs dd__law_all_pairs (aCons (dN 1) (aNil))) (aConsV (vDict (dLc (iSeq (dN 1)) (gN 6) (bYes) (dTup (aCons (d2 fIx (dN 6) (dC (.int 0))) (aCons (d2 fIx (dN 6) (dC (.int 1))) (aNil)))) [6])) (aNil)))) (dSq (dFor (iRng (dC (.int 3))) (gN 7) (dSq (dPr 6 8 (aCons (dCall sp__law_any dd__law_any (aFeed 0 (aCons (dN 4) (aNil)))) (aCons (dCall sp__law_any dd__law_any (aFeed 0 (aCons (dN 4) (aNil)))) (aNil)))) (dSq (dIfS (bAnd (tb (d2 fEq (dN 7) (dC (.int 2)))) (tb (d2 fNe (dN 3) (dTup (aNil))))) (dAsg (dCall sp__law_any dd__law_any (aFeed 0 (aCons (dN 3) (aNil)))) (gTp 2 (gCs (gN 6) (gCs (gN 8) (gNl))))) (dNx)) (dSq (dSet 9 (dCall sp_odds_fall dd_odds_fall (aCons (dN 1) (aCons (dN 6) (aCons (dN 8) (aNil)))))) (dSq (dIfS (tb (d2 fNe (dOr (d2 fIn (dTup (aCons (dN 6) (aCons (dN 8) (aNil)))) (dN 3)) (d2 fIn (dTup (aCons (dN 8) (aCons (dN 6) (aNil)))) (dN 3))) (d2 fNs (dN 9) (dC .none)))) (dRet 99 (dC (.bool false))) (dNx)) (dIfS (tb (d2 fNs (dN 9) (dC .none))) (dSq (dSet 10 (dLc (iSeq (d2 fIx (dDct 5 (d2 fIx (dN 6) (dC (.int 0)))) (d2 fIx (dN 6) (dC (.int 1))))) (gN 11) (tb (d2 fIn (dN 11) (d2 fIx (dDct 5 (d2 fIx (dN 8) (dC (.int 0)))) (d2 fIx (dN 8) (dC (.int 1)))))) (dN 11) [11])) (dSq (dSet 12 (dLc (iSeq (dN 2)) (gN 13) (tb (d2 fEqS (dB fRepr (d2 fIx (dN 13) (dC (.int 0)))) (dB fRepr (dN 9)))) (d2 fIx (dN 13) (dC (.int 1))) [13])) (dIfS (bOr (tb (d2 fEq (dN 12) (dLst (aNil)))) (bOr (tb (d2 fNi (d2 fIx (dN 6) (dC (.int 0))) (d2 fIx (dN 12) (dC (.int 0))))) (bOr (tb (d2 fNi (d2 fIx (dN 8) (dC (.int 0))) (d2 fIx (dN 12) (dC (.int 0))))) (bNot (tb (dCall sp__law_within dd__law_within (aCons (dN 10) (aCons (dN 9) (aNil))))))))) (dRet 99 (dC (.bool false))) (dNx)))) (dNx))))))) (dRet 99 (dC (.bool true))))
theorem b__law_are_falls_right (c : Cf K mg) {sp__law_all_pairs : DSp} {dd__law_all_pairs : List SV} (c__law_all_pairs : CalD P w K mg base "_law_all_pairs" 1 sp__law_all_pairs dd__law_all_pairs) {sp__law_any : DSp} {dd__law_any : List SV} (c__law_any : CalD P w K mg base "_law_any" 2 sp__law_any dd__law_any) {sp_odds_fall : DSp} {dd_odds_fall : List SV} (c_odds_fall : CalD P w K mg base "odds_fall" 8 sp_odds_fall dd_odds_fall) {sp__law_within : DSp} {dd__law_within : List SV} (c__law_within : CalD P w K mg base "_law_within" 1 sp__law_within dd__law_within) (f : Addr) (cdv : Value) (A : Around) (outer : List Env) (s : Shared) (H : Hp) (E : XK) (hgd : A.guards = some []) (hr : Room 8 (A.deeper (envOfC "_law_are_falls_right" (defScope s__law_are_falls_right) s.heap.objs.size f cdv))) :
    PSs (cxOf CX0 P w K mg base N__law_are_falls_right "_law_are_falls_right" (defScope s__law_are_falls_right) f cdv A outer s H E).nox (defBody s__law_are_falls_right) (ls 99 (T__law_are_falls_right sp__law_all_pairs dd__law_all_pairs sp__law_any dd__law_any sp_odds_fall dd_odds_fall sp__law_within dd__law_within)) :=
  dss_cons (ds_pr 4 5 sc__law_are_falls_right.nd (da_cons (de_c c__law_all_pairs hr (by rfl) (da_cons (de_n 1) (da_nil))) (da_consV (de_dict (by rfl) (c.free 20) (de_lc sc__law_are_falls_right.nd (di_seq (de_n 1)) (blkOk_by (own := [("_law_one", 6)]) (by kernel_rfl)) (fun _ _ _ _ _ => dg_n 6 sc__law_are_falls_right.nd) (fun _ _ _ _ _ => dts_nil) (fun _ _ _ _ _ => de_tup (da_cons (de_ix (de_n 6) (de_int)) (da_cons (de_ix (de_n 6) (de_int)) (da_nil)))))) (da_nil)))) (dss_cons (ds_for rfl (di_rng (by rfl) (c.free 14) (de_int)) (dg_n 7 sc__law_are_falls_right.nd) (dss_cons (ds_pr 6 8 sc__law_are_falls_right.nd (da_cons (de_c c__law_any hr (by rfl) (da_feed 0 (da_cons (de_n 4) (da_nil)))) (da_cons (de_c c__law_any hr (by rfl) (da_feed 0 (da_cons (de_n 4) (da_nil)))) (da_nil)))) (dss_cons (ds_if (PW.pt (dw_and (dt_cmp r_eq (op_eqD (Room.units hr)) (de_n 7) (de_int) rfl) (dw_and1 (dt_cmp r_ne (op_neD (Room.units hr)) (de_n 3) (de_tup (da_nil)) rfl)))) (dss_one (ds_asg (de_c c__law_any hr (by rfl) (da_feed 0 (da_cons (de_n 3) (da_nil)))) (dg_tup (dg_cons (dg_n 6 sc__law_are_falls_right.nd) (dg_cons (dg_n 8 sc__law_are_falls_right.nd) (dg_nil)))))) (dss_nil)) (dss_cons (ds_set 9 sc__law_are_falls_right.nd (de_c c_odds_fall hr (by rfl) (da_cons (de_n 1) (da_cons (de_n 6) (da_cons (de_n 8) (da_nil)))))) (dss_cons (ds_if (dt_cmp r_ne (op_neD (Room.units hr)) (de_or (de_cmp r_in (op_inS (Room.u65 hr)) (de_tup (da_cons (de_n 6) (da_cons (de_n 8) (da_nil)))) (de_n 3) rfl) (de_one (de_cmp r_in (op_inS (Room.u65 hr)) (de_tup (da_cons (de_n 8) (da_cons (de_n 6) (da_nil)))) (de_n 3) rfl))) (de_cmp r_ns op_notN (de_n 9) (de_non) rfl) rfl) (dss_one (ds_ret (de_bl))) (dss_nil)) (dss_one (ds_if (dt_cmp r_ns op_notN (de_n 9) (de_non) rfl) (dss_cons (ds_setLc 10 sc__law_are_falls_right.nd (di_seq (de_ix (de_dct (i := 5) (de_ix (de_n 6) (de_int)) (Room.u1 hr)) (de_ix (de_n 6) (de_int)))) (blkOk_by (own := [("_law_name", 11)]) (by kernel_rfl)) (fun _ _ _ _ _ => dg_n 11 sc__law_are_falls_right.nd) (fun _ _ _ _ _ => dts_one (dt_cmp r_in (op_inS (Room.u65 hr)) (de_n 11) (de_ix (de_dct (i := 5) (de_ix (de_n 8) (de_int)) (Room.u1 hr)) (de_ix (de_n 8) (de_int))) rfl)) (fun _ _ _ _ _ => de_n 11)) (dss_cons (ds_setLc 12 sc__law_are_falls_right.nd (di_seq (de_n 2)) (blkOk_by (own := [("_law_pair_in", 13)]) (by kernel_rfl)) (fun _ _ _ _ _ => dg_n 13 sc__law_are_falls_right.nd) (fun _ _ _ _ _ => dts_one (dt_cmp r_eqS op_eq (de_repr hgd hr (by rfl) (c.free 19) (de_ix (de_n 13) (de_int))) (de_repr hgd hr (by rfl) (c.free 19) (de_n 9)) rfl)) (fun _ _ _ _ _ => de_ix (de_n 13) (de_int))) (dss_one (ds_if (PW.pt (dw_or (dt_cmp r_eq (op_eqD (Room.units hr)) (de_n 12) (de_lst (da_nil)) rfl) (dw_or (dt_cmp r_ni (op_niS (Room.u65 hr)) (de_ix (de_n 6) (de_int)) (de_ix (de_n 12) (de_int)) rfl) (dw_or (dt_cmp r_ni (op_niS (Room.u65 hr)) (de_ix (de_n 8) (de_int)) (de_ix (de_n 12) (de_int)) rfl) (dw_or1 (dt_not (dt_val (de_c c__law_within hr (by rfl) (da_cons (de_n 10) (da_cons (de_n 9) (da_nil))))))))))) (dss_one (ds_ret (de_bl))) (dss_nil))))) (dss_nil)))))))) (dss_one (ds_ret (de_bl))))
end
end Ao
set_option Elab.async false
set_option autoImplicit false
set_option linter.all false
set_option maxRecDepth 100000
set_option maxHeartbeats 1000000
namespace Ao
open PySem PySem.Spec PyProof.Rows L2
section
variable {P : Program} {w : World} {K : AK} {mg : Str → Option Value} {base : Heap}
def N__law_own_right : List Str := ["_law_guild_here", "_law_safes_here", "_law_odds_in", "_law_met", "_law_name", "_law_own", "_law_scares", "_law_needs_here", "_law_k", "_law_met_now", "_law_torn_now", "_law_one"]
theorem sc__law_own_right : FnScope N__law_own_right ["_law_guild_here", "_law_safes_here", "_law_odds_in"] (defScope s__law_own_right) := ⟨rfl, rfl, rfl, by decide +kernel, rfl, by decide +kernel, by decide +kernel⟩
def T__law_own_right (sp__law_needs : DSp) (dd__law_needs : List SV) (sp__law_meets : DSp) (dd__law_meets : List SV) (sp_meets_needs : DSp) (dd_meets_needs : List SV) (sp__law_same : DSp) (dd__law_same : List SV) (sp__law_within : DSp) (dd__law_within : List SV) : DS := dSq (dSet 3 (dC (.bool true))) (dSq (dFor (iSeq (dN 0)) (gTp 3 (gCs (gN 4) (gCs (gN 5) (gCs (gN 6) (gNl))))) (dSq (dSet 7 (dCall sp__law_needs dd__law_needs (aCons (dN 0) (aCons (dN 1) (aCons (dN 4) (aNil)))))) (dFor (iRng (dB fLen (dN 5))) (gN 8) (dSq (dSet 9 (dCall sp__law_meets dd__law_meets (aCons (dN 7) (aCons (d2 fIx (dN 5) (dN 8)) (aNil))))) (dSq (dIfS (bNot (tb (dCall sp__law_same dd__law_same (aCons (dCall sp_meets_needs dd_meets_needs (aCons (dN 0) (aCons (dN 4) (aCons (d2 fIx (dN 5) (dN 8)) (aNil))))) (aCons (dN 9) (aNil)))))) (dRet 99 (dC (.bool false))) (dNx)) (dSq (dSet 3 (dAnd (dN 3) (dN 9))) (dSq (dSet 10 (d2 fNe (dLc (iSeq (dN 6)) (gN 11) (tb (dCall sp__law_within dd__law_within (aCons (d2 fIx (dN 5) (dN 8)) (aCons (dN 11) (aNil))))) (dN 11) [11]) (dLst (aNil)))) (dIfS (tb (d2 fNe (dN 10) (d2 fIn (dTup (aCons (dTup (aCons (dN 4) (aCons (dN 8) (aNil)))) (aCons (dTup (aCons (dN 4) (aCons (dN 8) (aNil)))) (aNil)))) (dN 2)))) (dRet 99 (dC (.bool false))) (dNx))))))))) (dRet 99 (d2 fEq (dN 3) (d2 fEq (dLc (iSeq (dN 2)) (gN 11) (tb (d2 fNe (d2 fIx (d2 fIx (dN 11) (dC (.int 0))) (dC (.int 0))) (d2 fIx (d2 fIx (dN 11) (dC (.int 1))) (dC (.int 0))))) (dN 11) [11]) (dLst (aNil))))))
theorem b__law_own_right (c : Cf K mg) {sp__law_needs : DSp} {dd__law_needs : List SV} (c__law_needs : CalD P w K mg base "_law_needs" 3 sp__law_needs dd__law_needs) {sp__law_meets : DSp} {dd__law_meets : List SV} (c__law_meets : CalD P w K mg base "_law_meets" 1 sp__law_meets dd__law_meets) {sp_meets_needs : DSp} {dd_meets_needs : List SV} (c_meets_needs : CalD P w K mg base "meets_needs" 8 sp_meets_needs dd_meets_needs) {sp__law_same : DSp} {dd__law_same : List SV} (c__law_same : CalG P w K mg base "_law_same" 1 sp__law_same dd__law_same) {sp__law_within : DSp} {dd__law_within : List SV} (c__law_within : CalD P w K mg base "_law_within" 1 sp__law_within dd__law_within) (f : Addr) (cdv : Value) (A : Around) (outer : List Env) (s : Shared) (H : Hp) (E : XK) (hgd : A.guards = some []) (hr : Room 8 (A.deeper (envOfC "_law_own_right" (defScope s__law_own_right) s.heap.objs.size f cdv))) :
    PSs (cxOf CX0 P w K mg base N__law_own_right "_law_own_right" (defScope s__law_own_right) f cdv A outer s H E).nox (defBody s__law_own_right) (ls 99 (T__law_own_right sp__law_needs dd__law_needs sp__law_meets dd__law_meets sp_meets_needs dd_meets_needs sp__law_same dd__law_same sp__law_within dd__law_within)) :=
  dss_cons (ds_set 3 sc__law_own_right.nd (de_bl)) (dss_cons (ds_for rfl (di_seq (de_n 0)) (dg_tup (dg_cons (dg_n 4 sc__law_own_right.nd) (dg_cons (dg_n 5 sc__law_own_right.nd) (dg_cons (dg_n 6 sc__law_own_right.nd) (dg_nil))))) (dss_cons (ds_set 7 sc__law_own_right.nd (de_c c__law_needs hr (by rfl) (da_cons (de_n 0) (da_cons (de_n 1) (da_cons (de_n 4) (da_nil)))))) (dss_one (ds_for rfl (di_rng (by rfl) (c.free 14) (de_b r_len call_len (by rfl) (c.free 11) (by rfl) (de_n 5))) (dg_n 8 sc__law_own_right.nd) (dss_cons (ds_set 9 sc__law_own_right.nd (de_c c__law_meets hr (by rfl) (da_cons (de_n 7) (da_cons (de_ix (de_n 5) (de_n 8)) (da_nil))))) (dss_cons (ds_if (dt_not (dt_val (de_cG hgd c__law_same hr (by rfl) (da_cons (de_c c_meets_needs hr (by rfl) (da_cons (de_n 0) (da_cons (de_n 4) (da_cons (de_ix (de_n 5) (de_n 8)) (da_nil))))) (da_cons (de_n 9) (da_nil)))))) (dss_one (ds_ret (de_bl))) (dss_nil)) (dss_cons (ds_set 3 sc__law_own_right.nd (de_and (de_n 3) (de_one (de_n 9)))) (dss_cons (ds_set 10 sc__law_own_right.nd (de_cmp r_ne (op_neD (Room.units hr)) (de_lc sc__law_own_right.nd (di_seq (de_n 6)) (blkOk_by (own := [("_law_one", 11)]) (by kernel_rfl)) (fun _ _ _ _ _ => dg_n 11 sc__law_own_right.nd) (fun _ _ _ _ _ => dts_one (dt_val (de_c c__law_within hr (by rfl) (da_cons (de_ix (de_n 5) (de_n 8)) (da_cons (de_n 11) (da_nil)))))) (fun _ _ _ _ _ => de_n 11)) (de_lst (da_nil)) rfl)) (dss_one (ds_if (dt_cmp r_ne (op_neD (Room.units hr)) (de_n 10) (de_cmp r_in (op_inS (Room.u65 hr)) (de_tup (da_cons (de_tup (da_cons (de_n 4) (da_cons (de_n 8) (da_nil)))) (da_cons (de_tup (da_cons (de_n 4) (da_cons (de_n 8) (da_nil)))) (da_nil)))) (de_n 2) rfl) rfl) (dss_one (ds_ret (de_bl))) (dss_nil))))))))))) (dss_one (ds_ret (de_cmp r_eq (op_eqD (Room.units hr)) (de_n 3) (de_cmp r_eq (op_eqD (Room.units hr)) (de_lc sc__law_own_right.nd (di_seq (de_n 2)) (blkOk_by (own := [("_law_one", 11)]) (by kernel_rfl)) (fun _ _ _ _ _ => dg_n 11 sc__law_own_right.nd) (fun _ _ _ _ _ => dts_one (dt_cmp r_ne (op_neD (Room.units hr)) (de_ix (de_ix (de_n 11) (de_int)) (de_int)) (de_ix (de_ix (de_n 11) (de_int)) (de_int)) rfl)) (fun _ _ _ _ _ => de_n 11)) (de_lst (da_nil)) rfl) rfl))))
def N__law_right : List Str := ["_law_script", "_law_feed_here", "_law_guild_here", "_law_motor_here", "_law_moving", "_law_kept", "_law_safes_here", "_law_whole", "_law_odds_in", "_law_due", "_law_one", "_law_other", "_law_told", "_law_every", "_law_bad", "_law_fine", "_law_lap", "_law_some"]
theorem sc__law_right : FnScope N__law_right ["_law_script"] (defScope s__law_right) := ⟨rfl, rfl, rfl, by decide +kernel, rfl, by decide +kernel, by decide +kernel⟩
def T__law_right (sp__law_guild : DSp) (dd__law_guild : List SV) (sp__law_motor : DSp) (dd__law_motor : List SV) (sp__law_safes : DSp) (dd__law_safes : List SV) (sp__law_odds : DSp) (dd__law_odds : List SV) (sp_first_fault : DSp) (dd_first_fault : List SV) (sp_is_as_one : DSp) (dd_is_as_one : List SV) (sp_faults_of : DSp) (dd_faults_of : List SV) (sp_all_odds : DSp) (dd_all_odds : List SV) (sp__law_same : DSp) (dd__law_same : List SV) (sp__law_are_falls_right : DSp) (dd__law_are_falls_right : List SV) (sp__law_own_right : DSp) (dd__law_own_right : List SV) (sp__law_in_fall : DSp) (dd__law_in_fall : List SV) (sp__law_subsets : DSp) (dd__law_subsets : List SV) (sp__law_any : DSp) (dd__law_any : List SV) (sp__law_safe : DSp) (dd__law_safe : List SV) (sp_faults_in : DSp) (dd_faults_in : List SV) : DS := dSq (dSet 2 (dCall sp__law_guild dd__law_guild (aFeed 1 (aCons (dC (.int 4)) (aNil))))) (dSq (dAsg (dCall sp__law_motor dd__law_motor (aFeed 1 (aNil))) (gTp 2 (gCs (gN 3) (gCs (gN 4) (gNl))))) (dSq (dPr3 5 6 7 (aCons (dB fRepr (dN 2)) (aCons (dCall sp__law_safes dd__law_safes (aCons (dN 2) (aNil))) (aCons (dTup (aCons (dN 3) (aCons (dN 2) (aCons (dTup (aNil)) (aCons (dTup (aNil)) (aCons (dTup (aNil)) (aNil))))))) (aNil))))) (dSq (dSet 8 (dCall sp__law_odds dd__law_odds (aCons (dN 2) (aCons (dN 6) (aNil))))) (dSq (dSet 9 (dB fTuple (dLc (iSeq (dN 8)) (gTp 2 (gCs (gN 10) (gCs (gN 11) (gNl)))) (bYes) (dTup (aCons (dC (.str "odds")) (aCons (dN 10) (aCons (dN 11) (aNil))))) [10, 11]))) (dSq (dSet 12 (dLst (aCons (dCall sp_all_odds dd_all_odds (aCons (dN 2) (aNil))) (aCons (dCall sp_faults_of dd_faults_of (aCons (dN 7) (aNil))) (aCons (dCall sp_is_as_one dd_is_as_one (aCons (dN 7) (aNil))) (aCons (d2 fIs (dCall sp_first_fault dd_first_fault (aCons (dN 7) (aNil))) (dC .none)) (aNil))))))) (dSq (dIfS (bOr (bNot (tb (dCall sp__law_same dd__law_same (aCons (dN 12) (aCons (dLst (aCons (dN 8) (aCons (dN 9) (aCons (d2 fEq (dN 9) (dTup (aNil))) (aCons (d2 fEq (dN 9) (dTup (aNil))) (aNil)))))) (aNil)))))) (tb (d2 fNi (dCall sp_first_fault dd_first_fault (aCons (dN 7) (aNil))) (d2 fCatT (dN 9) (dTup (aCons (dC .none) (aNil))))))) (dRet 99 (dC (.bool false))) (dNx)) (dSq (dIfS (bOr (bNot (tb (dCall sp__law_are_falls_right dd__law_are_falls_right (aFeed 1 (aCons (dN 2) (aCons (dN 6) (aCons (dN 8) (aNil)))))))) (bNot (tb (dCall sp__law_own_right dd__law_own_right (aCons (dN 2) (aCons (dN 6) (aCons (dN 8) (aNil)))))))) (dRet 99 (dC (.bool false))) (dNx)) (dSq (dSet 13 (dLst (aNil))) (dSq (dFor (iSeq (dN 6)) (gTp 2 (gCs (gN 14) (gCs (gN 15) (gNl)))) (dSet 13 (d2 fCat (dN 13) (dB fList (dCall sp__law_in_fall dd__law_in_fall (aCons (dN 2) (aCons (dN 14) (aCons (dN 15) (aNil))))))))) (dSq (dIfS (tb (d2 fNe (dB fTuple (dB fSset (dN 13))) (dN 9))) (dRet 99 (dC (.bool false))) (dNx)) (dSq (dFor (iRng (dC (.int 2))) (gN 16) (dSq (dSet 17 (dCall sp__law_any dd__law_any (aFeed 1 (aCons (dCall sp__law_subsets dd__law_subsets (aCons (dLc (iSeq (dN 2)) (gN 10) (bYes) (d2 fIx (dN 10) (dC (.int 0))) [10]) (aNil))) (aNil))))) (dIfS (bNot (tb (dCall sp__law_same dd__law_same (aCons (dCall sp_faults_in dd_faults_in (aCons (dN 7) (aCons (dN 17) (aNil)))) (aCons (dCall sp__law_in_fall dd__law_in_fall (aCons (dN 2) (aCons (dN 17) (aCons (dCall sp__law_safe dd__law_safe (aCons (dN 2) (aCons (dN 17) (aNil)))) (aNil))))) (aNil)))))) (dRet 99 (dC (.bool false))) (dNx)))) (dRet 99 (d2 fEqS (dB fRepr (dN 2)) (dN 5))))))))))))))
theorem b__law_right (c : Cf K mg) {sp__law_guild : DSp} {dd__law_guild : List SV} (c__law_guild : CalD P w K mg base "_law_guild" 3 sp__law_guild dd__law_guild) {sp__law_motor : DSp} {dd__law_motor : List SV} (c__law_motor : CalD P w K mg base "_law_motor" 3 sp__law_motor dd__law_motor) {sp__law_safes : DSp} {dd__law_safes : List SV} (c__law_safes : CalD P w K mg base "_law_safes" 3 sp__law_safes dd__law_safes) {sp__law_odds : DSp} {dd__law_odds : List SV} (c__law_odds : CalD P w K mg base "_law_odds" 2 sp__law_odds dd__law_odds) {sp_first_fault : DSp} {dd_first_fault : List SV} (c_first_fault : CalD P w K mg base "first_fault" 9 sp_first_fault dd_first_fault) {sp_is_as_one : DSp} {dd_is_as_one : List SV} (c_is_as_one : CalD P w K mg base "is_as_one" 9 sp_is_as_one dd_is_as_one) {sp_faults_of : DSp} {dd_faults_of : List SV} (c_faults_of : CalD P w K mg base "faults_of" 9 sp_faults_of dd_faults_of) {sp_all_odds : DSp} {dd_all_odds : List SV} (c_all_odds : CalD P w K mg base "all_odds" 8 sp_all_odds dd_all_odds) {sp__law_same : DSp} {dd__law_same : List SV} (c__law_same : CalG P w K mg base "_law_same" 1 sp__law_same dd__law_same) {sp__law_are_falls_right : DSp} {dd__law_are_falls_right : List SV} (c__law_are_falls_right : CalG P w K mg base "_law_are_falls_right" 9 sp__law_are_falls_right dd__law_are_falls_right) {sp__law_own_right : DSp} {dd__law_own_right : List SV} (c__law_own_right : CalG P w K mg base "_law_own_right" 9 sp__law_own_right dd__law_own_right) {sp__law_in_fall : DSp} {dd__law_in_fall : List SV} (c__law_in_fall : CalD P w K mg base "_law_in_fall" 2 sp__law_in_fall dd__law_in_fall) {sp__law_subsets : DSp} {dd__law_subsets : List SV} (c__law_subsets : CalD P w K mg base "_law_subsets" 1 sp__law_subsets dd__law_subsets) {sp__law_any : DSp} {dd__law_any : List SV} (c__law_any : CalD P w K mg base "_law_any" 2 sp__law_any dd__law_any) {sp__law_safe : DSp} {dd__law_safe : List SV} (c__law_safe : CalD P w K mg base "_law_safe" 2 sp__law_safe dd__law_safe) {sp_faults_in : DSp} {dd_faults_in : List SV} (c_faults_in : CalD P w K mg base "faults_in" 9 sp_faults_in dd_faults_in) (f : Addr) (cdv : Value) (A : Around) (outer : List Env) (s : Shared) (H : Hp) (E : XK) (hgd : A.guards = some []) (hr : Room 9 (A.deeper (envOfC "_law_right" (defScope s__law_right) s.heap.objs.size f cdv))) :
    PSs (cxOf CX0 P w K mg base N__law_right "_law_right" (defScope s__law_right) f cdv A outer s H E).nox ((defBody s__law_right).drop 1) (ls 99 (T__law_right sp__law_guild dd__law_guild sp__law_motor dd__law_motor sp__law_safes dd__law_safes sp__law_odds dd__law_odds sp_first_fault dd_first_fault sp_is_as_one dd_is_as_one sp_faults_of dd_faults_of sp_all_odds dd_all_odds sp__law_same dd__law_same sp__law_are_falls_right dd__law_are_falls_right sp__law_own_right dd__law_own_right sp__law_in_fall dd__law_in_fall sp__law_subsets dd__law_subsets sp__law_any dd__law_any sp__law_safe dd__law_safe sp_faults_in dd_faults_in)) :=
  dss_cons (ds_set 2 sc__law_right.nd (de_c c__law_guild hr (by rfl) (da_feed 1 (da_cons (de_int) (da_nil))))) (dss_cons (ds_asg (de_c c__law_motor hr (by rfl) (da_feed 1 (da_nil))) (dg_tup (dg_cons (dg_n 3 sc__law_right.nd) (dg_cons (dg_n 4 sc__law_right.nd) (dg_nil))))) (dss_cons (ds_par3 5 6 7 sc__law_right.nd (da_cons (de_repr hgd hr (by rfl) (c.free 19) (de_n 2)) (da_cons (de_c c__law_safes hr (by rfl) (da_cons (de_n 2) (da_nil))) (da_cons (de_tup (da_cons (de_n 3) (da_cons (de_n 2) (da_cons (de_tup (da_nil)) (da_cons (de_tup (da_nil)) (da_cons (de_tup (da_nil)) (da_nil))))))) (da_nil))))) (dss_cons (ds_set 8 sc__law_right.nd (de_c c__law_odds hr (by rfl) (da_cons (de_n 2) (da_cons (de_n 6) (da_nil))))) (dss_cons (ds_set 9 sc__law_right.nd (de_ty r_tuple call_tuple_of (by rfl) (c.free 8) (by rfl) (de_lc sc__law_right.nd (di_seq (de_n 8)) (blkOk_by (own := [("_law_one", 10), ("_law_other", 11)]) (by kernel_rfl)) (fun _ _ _ _ _ => dg_tup (dg_cons (dg_n 10 sc__law_right.nd) (dg_cons (dg_n 11 sc__law_right.nd) (dg_nil)))) (fun _ _ _ _ _ => dts_nil) (fun _ _ _ _ _ => de_tup (da_cons (de_str) (da_cons (de_n 10) (da_cons (de_n 11) (da_nil)))))))) (dss_cons (ds_set 12 sc__law_right.nd (de_lst (da_cons (de_c c_all_odds hr (by rfl) (da_cons (de_n 2) (da_nil))) (da_cons (de_c c_faults_of hr (by rfl) (da_cons (de_n 7) (da_nil))) (da_cons (de_c c_is_as_one hr (by rfl) (da_cons (de_n 7) (da_nil))) (da_cons (de_cmp r_is op_isN (de_c c_first_fault hr (by rfl) (da_cons (de_n 7) (da_nil))) (de_non) rfl) (da_nil))))))) (dss_cons (ds_if (PW.pt (dw_or (dt_not (dt_val (de_cG hgd c__law_same hr (by rfl) (da_cons (de_n 12) (da_cons (de_lst (da_cons (de_n 8) (da_cons (de_n 9) (da_cons (de_cmp r_eq (op_eqD (Room.units hr)) (de_n 9) (de_tup (da_nil)) rfl) (da_cons (de_cmp r_eq (op_eqD (Room.units hr)) (de_n 9) (de_tup (da_nil)) rfl) (da_nil)))))) (da_nil)))))) (dw_or1 (dt_cmp r_ni (op_niS (Room.u65 hr)) (de_c c_first_fault hr (by rfl) (da_cons (de_n 7) (da_nil))) (de_op r_catT op_catA (de_n 9) (de_tup (da_cons (de_non) (da_nil)))) rfl)))) (dss_one (ds_ret (de_bl))) (dss_nil)) (dss_cons (ds_if (PW.pt (dw_or (dt_not (dt_val (de_cG hgd c__law_are_falls_right hr (by rfl) (da_feed 1 (da_cons (de_n 2) (da_cons (de_n 6) (da_cons (de_n 8) (da_nil)))))))) (dw_or1 (dt_not (dt_val (de_cG hgd c__law_own_right hr (by rfl) (da_cons (de_n 2) (da_cons (de_n 6) (da_cons (de_n 8) (da_nil)))))))))) (dss_one (ds_ret (de_bl))) (dss_nil)) (dss_cons (ds_set 13 sc__law_right.nd (de_lst (da_nil))) (dss_cons (ds_for rfl (di_seq (de_n 6)) (dg_tup (dg_cons (dg_n 14 sc__law_right.nd) (dg_cons (dg_n 15 sc__law_right.nd) (dg_nil)))) (dss_one (ds_set 13 sc__law_right.nd (de_op r_cat op_cat (de_n 13) (de_ty r_list call_list_of (by rfl) (c.free 21) (by rfl) (de_c c__law_in_fall hr (by rfl) (da_cons (de_n 2) (da_cons (de_n 14) (da_cons (de_n 15) (da_nil)))))))))) (dss_cons (ds_if (dt_cmp r_ne (op_neD (Room.units hr)) (de_ty r_tuple call_tuple_of (by rfl) (c.free 8) (by rfl) (de_sset hr (by rfl) (c.free 9) (by rfl) (c.free 10) (de_n 13))) (de_n 9) rfl) (dss_one (ds_ret (de_bl))) (dss_nil)) (dss_cons (ds_for rfl (di_rng (by rfl) (c.free 14) (de_int)) (dg_n 16 sc__law_right.nd) (dss_cons (ds_set 17 sc__law_right.nd (de_c c__law_any hr (by rfl) (da_feed 1 (da_cons (de_c c__law_subsets hr (by rfl) (da_cons (de_lc sc__law_right.nd (di_seq (de_n 2)) (blkOk_by (own := [("_law_one", 10)]) (by kernel_rfl)) (fun _ _ _ _ _ => dg_n 10 sc__law_right.nd) (fun _ _ _ _ _ => dts_nil) (fun _ _ _ _ _ => de_ix (de_n 10) (de_int))) (da_nil))) (da_nil))))) (dss_one (ds_if (dt_not (dt_val (de_cG hgd c__law_same hr (by rfl) (da_cons (de_c c_faults_in hr (by rfl) (da_cons (de_n 7) (da_cons (de_n 17) (da_nil)))) (da_cons (de_c c__law_in_fall hr (by rfl) (da_cons (de_n 2) (da_cons (de_n 17) (da_cons (de_c c__law_safe hr (by rfl) (da_cons (de_n 2) (da_cons (de_n 17) (da_nil)))) (da_nil))))) (da_nil)))))) (dss_one (ds_ret (de_bl))) (dss_nil))))) (dss_one (ds_ret (de_cmp r_eqS op_eq (de_repr hgd hr (by rfl) (c.free 19) (de_n 2)) (de_n 5) rfl))))))))))))))
end
end Ao
set_option Elab.async false
set_option autoImplicit false
set_option linter.all false
set_option maxRecDepth 100000
set_option maxHeartbeats 2000000
namespace Ao
open PySem PySem.Spec PyProof.Rows L2
/-! ### the readings opened -/
@[simp] theorem dN_eq {i : Nat} {ρ : SS} {P : D → Prop} : dN i ρ P = ∃ d, ρ[i]? = some (some (.d d)) ∧ P d := rfl
@[simp] theorem dC_eq {d : D} {ρ : SS} {P : D → Prop} : dC d ρ P = P d := rfl
@[simp] theorem dX_eq {ρ : SS} {P : D → Prop} : dX ρ P = False := rfl
@[simp] theorem d2_eq {f : F2} {T U : TD} {ρ : SS} {P : D → Prop} : d2 f T U ρ P = T ρ fun x => U ρ fun y => f x y P := rfl
@[simp] theorem dB_eq {f : F1} {T : TD} {ρ : SS} {P : D → Prop} : dB f T ρ P = T ρ fun x => f x P := rfl
@[simp] theorem tb_eq {T : TD} {ρ : SS} {P : Bool → Prop} : tb T ρ P = T ρ fun d => ∃ b, d = .bool b ∧ P b := rfl
@[simp] theorem aNil_eq {ρ : SS} {P : List SV → Prop} : aNil ρ P = P [] := rfl
@[simp] theorem aCons_eq {T : TD} {U : TL} {ρ : SS} {P : List SV → Prop} : aCons T U ρ P = T ρ fun d => U ρ fun ss => P (.d d :: ss) := rfl
@[simp] theorem aFeed_eq {i : Nat} {U : TL} {ρ : SS} {P : List SV → Prop} : aFeed i U ρ P = (ρ[i]? = some (some .feed) ∧ U ρ fun ss => P (.feed :: ss)) := rfl
@[simp] theorem aConsV_eq {T U : TL} {ρ : SS} {P : List SV → Prop} : aConsV T U ρ P = T ρ fun s => U ρ fun ss => ∃ x, s = [x] ∧ P (x :: ss) := rfl
@[simp] theorem aStar_eq {T : TD} {U : TL} {ρ : SS} {P : List SV → Prop} : aStar T U ρ P = T ρ fun d => ∃ ds, Seq d ds ∧ U ρ fun ss => P (ds.map .d ++ ss) := rfl
@[simp] theorem vD_eq {T : TD} {ρ : SS} {P : List SV → Prop} : vD T ρ P = T ρ fun d => P [.d d] := rfl
@[simp] theorem vDict_eq {T : TD} {ρ : SS} {P : List SV → Prop} : vDict T ρ P = T ρ fun d => ∃ kvs : List (Str × D), d = .list (kvs.map fun p => .tuple [.str p.1, p.2]) ∧ (kvs.map (·.1)).Nodup ∧ P [.dct kvs] := rfl
@[simp] theorem dTup_eq {U : TL} {ρ : SS} {P : D → Prop} : dTup U ρ P = U ρ fun ss => ∃ ds, allD ss = some ds ∧ ds.length ≤ 1000 ∧ P (.tuple ds) := rfl
@[simp] theorem dLst_eq {U : TL} {ρ : SS} {P : D → Prop} : dLst U ρ P = U ρ fun ss => ∃ ds, allD ss = some ds ∧ ds.length ≤ 1000 ∧ P (.list ds) := rfl
@[simp] theorem allD_nil : allD [] = some [] := rfl
@[simp] theorem allD_cons {d : D} {r : List SV} : allD (.d d :: r) = (allD r).map (d :: ·) := rfl
@[simp] theorem allD_map : ∀ {ds : List D}, allD (ds.map SV.d) = some ds
  | [] => rfl
  | d :: ds => by rw [List.map_cons, allD_cons, allD_map]; rfl
@[simp] theorem bAnd_eq {A B : TB} {ρ : SS} {P : Bool → Prop} : bAnd A B ρ P = A ρ fun b => if b = true then B ρ P else P false := rfl
@[simp] theorem bOr_eq {A B : TB} {ρ : SS} {P : Bool → Prop} : bOr A B ρ P = A ρ fun b => if b = true then P true else B ρ P := rfl
@[simp] theorem bNot_eq {A : TB} {ρ : SS} {P : Bool → Prop} : bNot A ρ P = A ρ fun b => P (!b) := rfl
@[simp] theorem bYes_eq {ρ : SS} {P : Bool → Prop} : bYes ρ P = P true := rfl
@[simp] theorem dAnd_eq {T U : TD} {ρ : SS} {P : D → Prop} : dAnd T U ρ P = T ρ fun x => ∃ b, x = .bool b ∧ if b = true then U ρ P else P (.bool false) := rfl
@[simp] theorem dOr_eq {T U : TD} {ρ : SS} {P : D → Prop} : dOr T U ρ P = T ρ fun x => ∃ b, x = .bool b ∧ if b = true then P (.bool true) else U ρ P := rfl
@[simp] theorem dNot_eq {T : TD} {ρ : SS} {P : D → Prop} : dNot T ρ P = T ρ fun x => ∃ b, x = .bool b ∧ P (.bool (!b)) := rfl
@[simp] theorem dIf_eq {A : TB} {T U : TD} {ρ : SS} {P : D → Prop} : dIf A T U ρ P = A ρ fun b => if b = true then T ρ P else U ρ P := rfl
@[simp] theorem dNeg_eq {T : TD} {ρ : SS} {P : D → Prop} : dNeg T ρ P = T ρ fun x => ∃ i, x = .int i ∧ P (.int (-i)) := rfl
@[simp] theorem dChain_eq {f g : F2} {T U W : TD} {ρ : SS} {P : D → Prop} : dChain f g T U W ρ P = T ρ fun x => U ρ fun y => f x y fun z => ∃ b, z = .bool b ∧ if b = true then W ρ fun u => g y u P else P (.bool false) := rfl
@[simp] theorem dCall_eq {sp : DSp} {dd : List SV} {U : TL} {ρ : SS} {P : D → Prop} : dCall sp dd U ρ P = U ρ fun ss => sp (ss ++ dd) P := rfl
@[simp] theorem dDct_eq {i : Nat} {T : TD} {ρ : SS} {P : D → Prop} : dDct i T ρ P = ∃ kvs : List (Str × D), ρ[i]? = some (some (.dct kvs)) ∧ T ρ fun y => ∃ k v, y = .str k ∧ kvs.lookup k = some v ∧ P v := rfl
@[simp] theorem iSeq_eq {T : TD} {ρ : SS} {P : List D → Prop} : iSeq T ρ P = T ρ fun d => ∃ ds, Seq d ds ∧ P ds := rfl
@[simp] theorem iTxt_eq {T : TD} {ρ : SS} {P : List D → Prop} : iTxt T ρ P = T ρ fun d => ∃ z : Str, d = .str z ∧ z.length ≤ 1000 ∧ P (z.cps.toList.map fun c => .str ⟨#[c]⟩) := rfl
@[simp] theorem iRng_eq {T : TD} {ρ : SS} {P : List D → Prop} : iRng T ρ P = T ρ fun d => ∃ n : Nat, d = .int n ∧ n ≤ 100000 ∧ P ((List.range n).map fun i => .int (i : Nat)) := rfl
@[simp] theorem iRg2_eq {T U : TD} {ρ : SS} {P : List D → Prop} : iRg2 T U ρ P = T ρ fun c => U ρ fun d => ∃ m n : Nat, c = .int m ∧ d = .int n ∧ m ≤ 100000 ∧ n ≤ 100000 ∧ P ((List.range (n - m)).map fun i => .int ((m + i : Nat) : Int)) := rfl
@[simp] theorem iZp_eq {T U : TD} {ρ : SS} {P : List D → Prop} : iZp T U ρ P = T ρ fun c => U ρ fun d => ∃ xs ys, ((c = .tuple xs ∧ d = .tuple ys) ∨ (c = .list xs ∧ d = .list ys)) ∧ P (List.zipWith (fun x y => .tuple [x, y]) xs ys) := rfl
@[simp] theorem iEnL_eq {T : TD} {ρ : SS} {P : List D → Prop} : iEnL T ρ P = T ρ fun c => ∃ ds, c = .list ds ∧ P (enums ds) := rfl
@[simp] theorem iEnT_eq {T : TD} {ρ : SS} {P : List D → Prop} : iEnT T ρ P = T ρ fun c => ∃ ds, c = .tuple ds ∧ P (enums ds) := rfl
@[simp] theorem gN_eq {i : Nat} {d : D} {ρ : SS} {P : SS → Prop} : gN i d ρ P = P (ρ.set i (some (.d d))) := rfl
theorem gNl_eq {ds : List D} {ρ : SS} {P : SS → Prop} : gNl ds ρ P = (ds = [] ∧ P ρ) := rfl
theorem gCs_eq {A : GD} {B : GDs} {ds : List D} {ρ : SS} {P : SS → Prop} : gCs A B ds ρ P = ∃ d r, ds = d :: r ∧ A d ρ fun ρ' => B r ρ' P := rfl
theorem gTp_eq {n : Nat} {B : GDs} {d : D} {ρ : SS} {P : SS → Prop} : gTp n B d ρ P = ∃ ds, d = .tuple ds ∧ ds.length = n ∧ B ds ρ P := rfl
@[simp] theorem gNl_nil {ρ : SS} {P : SS → Prop} : gNl [] ρ P ↔ P ρ := by simp [gNl]
@[simp] theorem gCs_cons {A : GD} {B : GDs} {a : D} {l : List D} {ρ : SS} {P : SS → Prop} : gCs A B (a :: l) ρ P ↔ A a ρ fun ρ' => B l ρ' P := ⟨fun ⟨_, _, e, h⟩ => by cases e; exact h, fun h => ⟨a, l, rfl, h⟩⟩
@[simp] theorem gTp_tup {n : Nat} {B : GDs} {ds : List D} {ρ : SS} {P : SS → Prop} : gTp n B (.tuple ds) ρ P ↔ ds.length = n ∧ B ds ρ P := ⟨fun ⟨_, e, h⟩ => by cases e; exact h, fun h => ⟨ds, rfl, h⟩⟩
@[simp ↓] theorem ex_1 {a : SV} {p : SV → Prop} : (∃ s, [a] = [s] ∧ p s) ↔ p a := ⟨fun ⟨_, e, h⟩ => by cases e; exact h, fun h => ⟨a, rfl, h⟩⟩
@[simp ↓] theorem ex_2 {a b : SV} {p : SV → SV → Prop} : (∃ s t, [a, b] = [s, t] ∧ p s t) ↔ p a b := ⟨fun ⟨_, _, e, h⟩ => by cases e; exact h, fun h => ⟨a, b, rfl, h⟩⟩
@[simp ↓] theorem ex_3 {a b c : SV} {p : SV → SV → SV → Prop} : (∃ s t u, [a, b, c] = [s, t, u] ∧ p s t u) ↔ p a b c := ⟨fun ⟨_, _, _, e, h⟩ => by cases e; exact h, fun h => ⟨a, b, c, rfl, h⟩⟩
@[simp ↓] theorem ex_acc {a : Addr} {l : List D} {p : Addr → List D → Prop} : (∃ b ds, (some (a, l) : Acc) = some (b, ds) ∧ p b ds) ↔ p a l := ⟨fun ⟨_, _, e, h⟩ => by cases e; exact h, fun h => ⟨a, l, rfl, h⟩⟩
@[simp] theorem wipeS_nil {ρ : SS} : wipeS ρ [] = ρ := rfl
@[simp] theorem wipeS_cons {ρ : SS} {v : Nat} {vs : List Nat} : wipeS ρ (v :: vs) = (wipeS ρ vs).set v none := rfl
@[simp] theorem dLc_eq {Ti : TIt} {Tg : GD} {Tt : TB} {Te : TD} {vs : List Nat} {ρ : SS} {P : D → Prop} : dLc Ti Tg Tt Te vs ρ P = Ti ρ fun ds => lcW Tg Tt Te ds [] (wipeS ρ vs) P := rfl
@[simp] theorem dLc2_eq {Ti Ti1 : TIt} {Tg Tg1 : GD} {Tt Tt1 : TB} {Te : TD} {vs vs1 : List Nat} {ρ : SS} {P : D → Prop} : dLc2 Ti Tg Tt Ti1 Tg1 Tt1 Te vs vs1 ρ P = Ti ρ fun ds => lcO Tg Tt Ti1 Tg1 Tt1 Te vs1 ds [] (wipeS ρ vs) P := rfl
@[simp] theorem dNx_eq {E : DEnds} {ρ : SS} {a : Acc} : dNx E ρ a = E.nx ρ a := rfl
@[simp] theorem dSq_eq {T U : DS} {E : DEnds} {ρ : SS} {a : Acc} : dSq T U E ρ a = T { E with nx := U E } ρ a := rfl
@[simp] theorem dIfS_eq {A : TB} {T U : DS} {E : DEnds} {ρ : SS} {a : Acc} : dIfS A T U E ρ a = A ρ fun b => if b = true then T E ρ a else U E ρ a := rfl
@[simp] theorem dRet_eq {k : Nat} {Te : TD} {E : DEnds} {ρ : SS} {a : Acc} : dRet k Te E ρ a = Te (withAcc k ρ a) E.rt := rfl
@[simp] theorem withAcc_none {k : Nat} {ρ : SS} : withAcc k ρ none = ρ := rfl
@[simp] theorem withAcc_some {k : Nat} {ρ : SS} {a : Addr} {ds : List D} : withAcc k ρ (some (a, ds)) = ρ.set k (some (.d (.list ds))) := rfl
@[simp] theorem dSet_eq {i : Nat} {Te : TD} {E : DEnds} {ρ : SS} {a : Acc} : dSet i Te E ρ a = Te ρ fun d => E.nx (ρ.set i (some (.d d))) a := rfl
@[simp] theorem dSetU_eq {i : Nat} {sp : List SV → Prop} {U : TL} {E : DEnds} {ρ : SS} {a : Acc} : dSetU i sp U E ρ a = U ρ fun ss => sp ss ∧ E.nx (ρ.set i none) a := rfl
@[simp] theorem dNew_eq {k : Nat} {E : DEnds} {ρ : SS} {a : Acc} : dNew k E ρ a = (a = none ∧ k < ρ.length ∧ ∀ a, E.nx (ρ.set k none) (some (a, []))) := rfl
@[simp] theorem dDo_eq {Te : TD} {E : DEnds} {ρ : SS} {a : Acc} : dDo Te E ρ a = Te ρ fun _ => E.nx ρ a := rfl
@[simp] theorem dNo_eq {E : DEnds} {ρ : SS} {a : Acc} : dNo E ρ a = False := rfl
@[simp] theorem dApp_eq {Te : TD} {E : DEnds} {ρ : SS} {acc : Acc} : dApp Te E ρ acc = ∃ a ds, acc = some (a, ds) ∧ ds.length < 100000 ∧ Te ρ fun d => E.nx ρ (some (a, ds ++ [d])) := rfl
@[simp] theorem dExt_eq {Te : TD} {E : DEnds} {ρ : SS} {acc : Acc} : dExt Te E ρ acc = ∃ a ds, acc = some (a, ds) ∧ Te ρ fun d => ∃ es, d = .list es ∧ ds.length + es.length ≤ 100000 ∧ E.nx ρ (some (a, ds ++ es)) := rfl
@[simp] theorem dAsg_eq {Te : TD} {Tg : GD} {E : DEnds} {ρ : SS} {a : Acc} : dAsg Te Tg E ρ a = Te ρ fun d => Tg d ρ fun ρ' => E.nx ρ' a := rfl
@[simp] theorem dPr_eq {i j : Nat} {U : TL} {E : DEnds} {ρ : SS} {a : Acc} : dPr i j U E ρ a = U ρ fun ss => ∃ s1 s2, ss = [s1, s2] ∧ E.nx ((ρ.set i (some s1)).set j (some s2)) a := rfl
@[simp] theorem dPrN_eq {k i : Nat} {U : TL} {E : DEnds} {ρ : SS} {acc : Acc} : dPrN k i U E ρ acc = (acc = none ∧ k < ρ.length ∧ U ρ fun ss => ∃ s1, ss = [s1] ∧ ∀ a, E.nx ((ρ.set i (some s1)).set k none) (some (a, []))) := rfl
@[simp] theorem dPr3_eq {i j l : Nat} {U : TL} {E : DEnds} {ρ : SS} {a : Acc} : dPr3 i j l U E ρ a = U ρ fun ss => ∃ s1 s2 s3, ss = [s1, s2, s3] ∧ E.nx (((ρ.set i (some s1)).set j (some s2)).set l (some s3)) a := rfl
@[simp] theorem dFor_eq {Ti : TIt} {Tg : GD} {Tb : DS} {E : DEnds} {ρ : SS} {a : Acc} : dFor Ti Tg Tb E ρ a = Ti ρ fun ds => forW Tg Tb E (a.map (·.1)) ds ρ a := rfl
@[simp] theorem start_eq {n : Nat} {ss : List SV} : startS n ss = ss.map some ++ List.replicate (n - ss.length) none := rfl
@[simp] theorem seq_lst {xs ds : List D} : Seq (.list xs) ds ↔ ds = xs := ⟨fun h => by rcases h with h | h <;> cases h; rfl, fun h => .inl (by rw [h])⟩
@[simp] theorem seq_tup {xs ds : List D} : Seq (.tuple xs) ds ↔ ds = xs := ⟨fun h => by rcases h with h | h <;> cases h; rfl, fun h => .inr (by rw [h])⟩
/-! ### the values' words -/
@[simp] theorem fLen_lst {xs : List D} {P : D → Prop} : fLen (.list xs) P ↔ P (.int xs.length) := by simp [fLen]
@[simp] theorem fLen_tup {xs : List D} {P : D → Prop} : fLen (.tuple xs) P ↔ P (.int xs.length) := by simp [fLen]
@[simp] theorem fTuple_lst {xs : List D} {P : D → Prop} : fTuple (.list xs) P ↔ P (.tuple xs) := by simp [fTuple]
@[simp] theorem fTuple_tup {xs : List D} {P : D → Prop} : fTuple (.tuple xs) P ↔ P (.tuple xs) := by simp [fTuple]
@[simp] theorem fList_tup {xs : List D} {P : D → Prop} : fList (.tuple xs) P ↔ P (.list xs) := by simp [fList]
@[simp] theorem fList_lst {xs : List D} {P : D → Prop} : fList (.list xs) P ↔ P (.list xs) := by simp [fList]
theorem bools_inj : ∀ {bs cs : List Bool}, bs.map PyData.bool = cs.map PyData.bool → bs = cs
  | [], [], _ => rfl
  | [], _ :: _, h => by simp at h
  | _ :: _, [], h => by simp at h
  | b :: bs, c :: cs, h => by
    simp only [List.map_cons, List.cons.injEq, PyData.bool.injEq] at h
    rw [h.1, bools_inj h.2]
theorem fAll_of {α : Type} {xs : List α} {p : α → Bool} {P : D → Prop} (h : P (.bool (xs.all p))) : fAll (.list (xs.map fun x => .bool (p x))) P := ⟨xs.map p, by simp, by simpa using h⟩
theorem fAny_of {α : Type} {xs : List α} {p : α → Bool} {P : D → Prop} (h : P (.bool (xs.any p))) : fAny (.list (xs.map fun x => .bool (p x))) P := ⟨xs.map p, by simp, by simpa using h⟩
@[simp] theorem fIx_lst {xs : List D} {i : Nat} {P : D → Prop} : fIx (.list xs) (.int (i : Nat)) P ↔ ∃ z, xs[i]? = some z ∧ P z := by simp [fIx, Int.ofNat_inj]
@[simp] theorem fIx_tup {xs : List D} {i : Nat} {P : D → Prop} : fIx (.tuple xs) (.int (i : Nat)) P ↔ ∃ z, xs[i]? = some z ∧ P z := by simp [fIx, Int.ofNat_inj]
@[simp] theorem fIx_0 {x : D} {xs : List D} {P : D → Prop} : fIx (.tuple (x :: xs)) (.int 0) P ↔ P x := by
  have := fIx_tup (xs := x :: xs) (i := 0) (P := P)
  simpa using this
@[simp] theorem fIx_1 {x y : D} {xs : List D} {P : D → Prop} : fIx (.tuple (x :: y :: xs)) (.int 1) P ↔ P y := by
  have := fIx_tup (xs := x :: y :: xs) (i := 1) (P := P)
  simpa using this
@[simp] theorem fIx_2 {x y z : D} {xs : List D} {P : D → Prop} : fIx (.tuple (x :: y :: z :: xs)) (.int 2) P ↔ P z := by
  have := fIx_tup (xs := x :: y :: z :: xs) (i := 2) (P := P)
  simpa using this
@[simp] theorem fIx_3 {x y z u : D} {xs : List D} {P : D → Prop} : fIx (.tuple (x :: y :: z :: u :: xs)) (.int 3) P ↔ P u := by
  have := fIx_tup (xs := x :: y :: z :: u :: xs) (i := 3) (P := P)
  simpa using this
@[simp] theorem fIx_4 {x y z u v : D} {xs : List D} {P : D → Prop} : fIx (.tuple (x :: y :: z :: u :: v :: xs)) (.int 4) P ↔ P v := by
  have := fIx_tup (xs := x :: y :: z :: u :: v :: xs) (i := 4) (P := P)
  simpa using this
@[simp] theorem fIx_l0 {x : D} {xs : List D} {P : D → Prop} : fIx (.list (x :: xs)) (.int 0) P ↔ P x := by
  have := fIx_lst (xs := x :: xs) (i := 0) (P := P)
  simpa using this
@[simp] theorem fIB_int {g : Int → Int → Bool} {i j : Int} {P : D → Prop} : fIB g (.int i) (.int j) P ↔ P (.bool (g i j)) := by simp [fIB]
@[simp] theorem fII_int {C : Int → Int → Prop} {g : Int → Int → Int} {i j : Int} {P : D → Prop} : fII C g (.int i) (.int j) P ↔ C i j ∧ P (.int (g i j)) := by simp [fII]
@[simp] theorem fIs_eq {x y : D} {P : D → Prop} : fIs x y P ↔ y = .none ∧ P (.bool (isN x)) := Iff.rfl
@[simp] theorem fNs_eq {x y : D} {P : D → Prop} : fNs x y P ↔ y = .none ∧ P (.bool (!isN x)) := Iff.rfl
@[simp] theorem isN_none : isN .none = true := rfl
@[simp] theorem isN_tup {xs : List D} : isN (.tuple xs) = false := rfl
@[simp] theorem dIsi_eq {T : TD} {t : String} {ρ : SS} {P : D → Prop} : dIsi T t ρ P = T ρ fun x => P (.bool (isIt x t)) := rfl
@[simp] theorem isIt_int {i : Int} : isIt (.int i) "int" = true := rfl
@[simp] theorem isIt_intb {i : Int} : isIt (.int i) "bool" = false := rfl
@[simp] theorem isIt_str {x : Str} : isIt (.str x) "str" = true := rfl
@[simp] theorem isIt_tup {xs : List D} : isIt (.tuple xs) "tuple" = true := rfl
@[simp] theorem fCat_lst {xs ys : List D} {P : D → Prop} : fCat (.list xs) (.list ys) P ↔ xs.length + ys.length ≤ 100000 ∧ P (.list (xs ++ ys)) := by simp [fCat]
@[simp] theorem fCatT_tup {xs ys : List D} {P : D → Prop} : fCatT (.tuple xs) (.tuple ys) P ↔ xs.length + ys.length ≤ 100000 ∧ P (.tuple (xs ++ ys)) := by simp [fCatT]
@[simp] theorem fFrom_lst {xs : List D} {n : Nat} {P : D → Prop} : fFrom (.list xs) (.int (n : Nat)) P ↔ P (.list (xs.drop n)) := by simp [fFrom, Int.ofNat_inj]
@[simp] theorem fFrom_tup {xs : List D} {n : Nat} {P : D → Prop} : fFrom (.tuple xs) (.int (n : Nat)) P ↔ P (.tuple (xs.drop n)) := by simp [fFrom, Int.ofNat_inj]
@[simp] theorem fTo_tup {xs : List D} {n : Nat} {P : D → Prop} : fTo (.tuple xs) (.int (n : Nat)) P ↔ P (.tuple (xs.take n)) := by simp [fTo, Int.ofNat_inj]
/-! ### comprehensions, loops -/
/-- one turn of a comprehension gives g x -/
theorem lc_of {α : Type} {Tg : GD} {Tt : TB} {Te : TD} (enc : α → D) (g : α → Option D) {ρ : SS} {P : D → Prop} : ∀ (xs : List α) (acc : List D), (∀ x ∈ xs, ∀ C : Option D → Prop, C (g x) → Tg (enc x) ρ fun ρ' => Tt ρ' fun b => if b = true then Te ρ' fun y => C (some y) else C none) →
    P (.list (acc ++ xs.filterMap g)) → lcW Tg Tt Te (xs.map enc) acc ρ P
  | [], acc, _, h => by simpa [lcW] using h
  | x :: xs, acc, hx, h => by
    have ih := fun acc' h' => lc_of (Tg := Tg) (Tt := Tt) (Te := Te) enc g (ρ := ρ) (P := P) xs acc' (fun y hy => hx y (List.mem_cons_of_mem _ hy)) h'
    have turn := hx x List.mem_cons_self (fun o => lcW Tg Tt Te (xs.map enc) (acc ++ o.toList) ρ P) (by
      cases e : g x with
      | none =>
        rw [List.filterMap_cons_none e] at h
        simpa using ih acc h
      | some y =>
        rw [List.filterMap_cons_some e] at h
        refine ih _ ?_
        simpa using h)
    simpa [lcW] using turn
theorem lc_map {α : Type} {Tg : GD} {Tt : TB} {Te : TD} (enc : α → D) (f : α → D) {ρ : SS} {P : D → Prop} (xs : List α) (hx : ∀ x ∈ xs, ∀ C : Option D → Prop, C (some (f x)) → Tg (enc x) ρ fun ρ' => Tt ρ' fun b => if b = true then Te ρ' fun y => C (some y) else C none) (h : P (.list (xs.map f))) : lcW Tg Tt Te (xs.map enc) [] ρ P := by
  refine lc_of enc (fun x => some (f x)) xs [] hx ?_
  simpa [List.filterMap_eq_map'] using h
theorem lc_fil {α : Type} {Tg : GD} {Tt : TB} {Te : TD} (enc f : α → D) (p : α → Bool) {ρ : SS} {P : D → Prop} (xs : List α) (hx : ∀ x ∈ xs, ∀ C : Option D → Prop, C (if p x = true then some (f x) else none) → Tg (enc x) ρ fun ρ' => Tt ρ' fun b => if b = true then Te ρ' fun y => C (some y) else C none) (h : P (.list ((xs.filter p).map f))) : lcW Tg Tt Te (xs.map enc) [] ρ P := by
  refine lc_of enc (fun x => if p x = true then some (f x) else none) xs [] hx ?_
  have e : ∀ xs : List α, xs.filterMap (fun x => if p x = true then some (f x) else none) = (xs.filter p).map f := fun xs => by
    induction xs with
    | nil => rfl
    | cons x xs ih =>
      by_cases hp : p x = true
      · simp [hp] at ih ⊢; exact ih
      · simp [hp] at ih ⊢; exact ih
  rw [e]
  simpa using h
end Ao
set_option Elab.async false
set_option autoImplicit false
set_option linter.all false
set_option maxRecDepth 100000
set_option maxHeartbeats 2000000
namespace Ao
open PySem PySem.Spec PyProof.Rows L2
/-! ### plain data -/
mutual
def plainD : D → Bool
  | .none => true
  | .int _ => true
  | .str x => PyData.strOk x
  | .list xs => plainDs xs
  | .tuple xs => plainDs xs
  | .bool _ => false
  | .dict _ => false
def plainDs : List D → Bool
  | [] => true
  | x :: xs => plainD x && plainDs xs
end
theorem plainDs_iff : ∀ {xs : List D}, plainDs xs = true ↔ ∀ x ∈ xs, plainD x = true
  | [] => by simp [plainDs]
  | x :: xs => by simp [plainDs, plainDs_iff (xs := xs)]
mutual
theorem eqv_plain : ∀ (d e : D), plainD d = true → plainD e = true → (PyData.eqv d e = true ↔ d = e)
  | .none, e, _, h => by cases e <;> simp [PyData.eqv] at *
  | .int i, e, _, h => by cases e <;> simp [PyData.eqv, plainD] at *
  | .str x, e, _, h => by cases e <;> simp [PyData.eqv, plainD] at *
  | .list xs, e, h0, h => by
    cases e with
    | list ys => simp only [PyData.eqv, PyData.list.injEq]; exact eqvs_plain xs ys h0 h
    | _ => simp [PyData.eqv]
  | .tuple xs, e, h0, h => by
    cases e with
    | tuple ys => simp only [PyData.eqv, PyData.tuple.injEq]; exact eqvs_plain xs ys h0 h
    | _ => simp [PyData.eqv]
  | .bool _, _, h, _ => by cases h
  | .dict _, _, h, _ => by cases h
theorem eqvs_plain : ∀ (xs ys : List D), plainDs xs = true → plainDs ys = true → (PyData.eqvAll xs ys = true ↔ xs = ys)
  | [], [], _, _ => by simp [PyData.eqvAll]
  | [], _ :: _, _, _ => by simp [PyData.eqvAll]
  | _ :: _, [], _, _ => by simp [PyData.eqvAll]
  | x :: xs, y :: ys, h0, h => by
    simp only [plainDs, Bool.and_eq_true] at h0 h
    simp only [PyData.eqvAll, Bool.and_eq_true, List.cons.injEq, eqv_plain x y h0.1 h.1, eqvs_plain xs ys h0.2 h.2]
end
mutual
theorem lay_plain : ∀ d : D, plainD d = true → PyData.canLay0 d = true
  | .none, _ => rfl
  | .int _, _ => rfl
  | .str x, h => h
  | .list xs, h => lays_plain xs h
  | .tuple xs, h => lays_plain xs h
  | .bool _, h => by cases h
  | .dict _, h => by cases h
theorem lays_plain : ∀ xs : List D, plainDs xs = true → PyData.canLayAll0 xs = true
  | [], _ => rfl
  | x :: xs, h => by
    simp only [plainDs, Bool.and_eq_true] at h
    simp only [PyData.canLayAll0, Bool.and_eq_true]
    exact ⟨lay_plain x h.1, lays_plain xs h.2⟩
end
/-- plain, of a depth -/
def Shp (n : Nat) (d : D) : Prop := plainD d = true ∧ d.depth ≤ n
theorem depthAll_le {n : Nat} : ∀ {xs : List D}, (∀ x ∈ xs, x.depth ≤ n) → PyData.depthAll xs ≤ n
  | [], _ => Nat.zero_le _
  | x :: xs, h => Nat.max_le.mpr ⟨h x List.mem_cons_self, depthAll_le fun y hy => h y (List.mem_cons_of_mem _ hy)⟩
theorem Shp.tup {n : Nat} {xs : List D} (h : ∀ x ∈ xs, Shp n x) : Shp (n + 1) (.tuple xs) := ⟨plainDs_iff.mpr fun x hx => (h x hx).1, Nat.succ_le_succ (depthAll_le fun x hx => (h x hx).2)⟩
theorem Shp.lst {n : Nat} {xs : List D} (h : ∀ x ∈ xs, Shp n x) : Shp (n + 1) (.list xs) := ⟨plainDs_iff.mpr fun x hx => (h x hx).1, Nat.succ_le_succ (depthAll_le fun x hx => (h x hx).2)⟩
theorem Shp.mono {n m : Nat} {d : D} (h : Shp n d) (k : n ≤ m) : Shp m d := ⟨h.1, Nat.le_trans h.2 k⟩
theorem Shp.non {n : Nat} : Shp n .none := ⟨rfl, Nat.zero_le _⟩
theorem Shp.int {n : Nat} {i : Int} : Shp n (.int i) := ⟨rfl, Nat.zero_le _⟩
theorem Shp.str {n : Nat} {x : Str} (h : PyData.strOk x = true) : Shp n (.str x) := ⟨h, Nat.zero_le _⟩
theorem Shp.shaped {n : Nat} {d : D} (h : Shp n d) (k : n ≤ 64) : SeqAt.shaped d = true := by
  unfold SeqAt.shaped
  rw [lay_plain d h.1, decide_eq_true (Nat.le_trans h.2 k)]
  rfl
theorem Shp.map {α : Type} {n : Nat} {e : α → D} {l : List α} (h : ∀ x, Shp n (e x)) : ∀ y ∈ l.map e, Shp n y := fun y hy => by
  obtain ⟨x, _, e⟩ := List.mem_map.mp hy
  rw [← e]; exact h x
theorem any_enc {α : Type} [BEq α] [LawfulBEq α] {e : α → D} (inj : ∀ x y, e x = e y → x = y) {n : Nat} (h : ∀ x, Shp n (e x)) (x : α) : ∀ l : List α, (l.map e).any (fun z => PyData.eqv z (e x)) = l.contains x
  | [] => rfl
  | y :: l => by
    rw [List.map_cons, List.any_cons, any_enc inj h x l, List.contains_cons]
    congr 1
    rw [Bool.eq_iff_iff, eqv_plain _ _ (h y).1 (h x).1, beq_iff_eq]
    exact ⟨fun q => (inj _ _ q).symm, fun q => by rw [q]⟩
theorem eqv_enc {α : Type} [BEq α] [LawfulBEq α] {e : α → D} (inj : ∀ x y, e x = e y → x = y) {n : Nat} (h : ∀ x, Shp n (e x)) (x y : α) : PyData.eqv (e x) (e y) = (x == y) := by
  rw [Bool.eq_iff_iff, eqv_plain _ _ (h x).1 (h y).1, beq_iff_eq]
  exact ⟨inj _ _, fun q => by rw [q]⟩
section
variable {α : Type} [BEq α] [LawfulBEq α] {e : α → D} {n : Nat} {P : D → Prop}
theorem fIn_enc (inj : ∀ x y, e x = e y → x = y) (h : ∀ x, Shp n (e x)) (k : n ≤ 63) {x : α} {l : List α} {y : D} (hy : y = .list (l.map e) ∨ y = .tuple (l.map e)) : fIn (e x) y P ↔ P (.bool (l.contains x)) := by
  have hs : Seq y (l.map e) := hy
  have h1 := (h x).shaped (Nat.le_trans k (by decide))
  have h2 : SeqAt.shaped (.list (l.map e)) = true := (Shp.lst (Shp.map h)).shaped (Nat.succ_le_succ k)
  constructor
  · rintro ⟨ds, hd, _, _, p⟩
    have : ds = l.map e := by rcases hy with r | r <;> subst r <;> simpa using hd
    rw [this, any_enc inj h] at p
    exact p
  · intro p
    exact ⟨_, hs, h1, h2, by rw [any_enc inj h]; exact p⟩
theorem fNi_enc (inj : ∀ x y, e x = e y → x = y) (h : ∀ x, Shp n (e x)) (k : n ≤ 63) {x : α} {l : List α} {y : D} (hy : y = .list (l.map e) ∨ y = .tuple (l.map e)) : fNi (e x) y P ↔ P (.bool (!l.contains x)) := by
  have hs : Seq y (l.map e) := hy
  have h1 := (h x).shaped (Nat.le_trans k (by decide))
  have h2 : SeqAt.shaped (.list (l.map e)) = true := (Shp.lst (Shp.map h)).shaped (Nat.succ_le_succ k)
  constructor
  · rintro ⟨ds, hd, _, _, p⟩
    have : ds = l.map e := by rcases hy with r | r <;> subst r <;> simpa using hd
    rw [this, any_enc inj h] at p
    exact p
  · intro p
    exact ⟨_, hs, h1, h2, by rw [any_enc inj h]; exact p⟩
theorem fEq_enc (inj : ∀ x y, e x = e y → x = y) (h : ∀ x, Shp n (e x)) (k : n ≤ 64) {x y : α} : fEq (e x) (e y) P ↔ P (.bool (x == y)) := by
  unfold fEq
  rw [eqv_enc inj h]
  exact ⟨fun q => q.2.2, fun q => ⟨(h x).shaped k, (h y).shaped k, q⟩⟩
theorem fNe_enc (inj : ∀ x y, e x = e y → x = y) (h : ∀ x, Shp n (e x)) (k : n ≤ 64) {x y : α} : fNe (e x) (e y) P ↔ P (.bool (x != y)) := by
  unfold fNe
  rw [eqv_enc inj h]
  exact ⟨fun q => q.2.2, fun q => ⟨(h x).shaped k, (h y).shaped k, q⟩⟩
end
/-! ### the names -/
abbrev Nm := Fin 12
def sTab : List String := ["a", "ada", "b", "bo", "c", "cy", "d", "di", "east", "n", "west", "zz"]
def sN (n : Nm) : Str := Str.ofString (sTab.getD n.val "")
theorem sN_inj : ∀ a b : Nm, sN a = sN b → a = b := by decide +kernel
theorem sN_ok : ∀ a : Nm, PyData.strOk (sN a) = true := by decide +kernel
theorem sN_len : ∀ a : Nm, 1 ≤ (sN a).length ∧ (sN a).length ≤ 8 := by decide +kernel
theorem sN_lt : ∀ a b : Nm, decide ((sN a).cps.toList < (sN b).cps.toList) = decide (a < b) := by decide +kernel
abbrev NS := List Nm
def eN (n : Nm) : D := .str (sN n)
def nm (l : NS) : D := .tuple (l.map eN)
def nmL (l : NS) : D := .list (l.map eN)
def nmS (l : List NS) : D := .tuple (l.map nm)
def nmSL (l : List NS) : D := .list (l.map nm)
abbrev House := Nm × List NS × List NS
def tri (h : House) : D := .tuple [eN h.1, nmS h.2.1, nmS h.2.2]
abbrev Guild := List House
def gd (g : Guild) : D := .tuple (g.map tri)
abbrev Pr := Nm × Nat
def pr (p : Pr) : D := .tuple [eN p.1, .int (p.2 : Nat)]
def od (q : Pr × Pr) : D := .tuple [pr q.1, pr q.2]
def flt (q : Pr × Pr) : D := .tuple [.str "odds", pr q.1, pr q.2]
theorem eN_inj : ∀ x y : Nm, eN x = eN y → x = y := fun x y h => sN_inj x y (PyData.str.inj h)
theorem map_inj {α : Type} {e : α → D} (inj : ∀ x y, e x = e y → x = y) : ∀ (l m : List α), l.map e = m.map e → l = m
  | [], [], _ => rfl
  | [], _ :: _, h => by simp at h
  | _ :: _, [], h => by simp at h
  | x :: l, y :: m, h => by
    simp only [List.map_cons, List.cons.injEq] at h
    rw [inj _ _ h.1, map_inj inj l m h.2]
theorem nm_inj : ∀ x y : NS, nm x = nm y → x = y := fun x y h => map_inj eN_inj _ _ (PyData.tuple.inj h)
theorem nmS_inj : ∀ x y : List NS, nmS x = nmS y → x = y := fun x y h => map_inj nm_inj _ _ (PyData.tuple.inj h)
theorem pr_inj : ∀ x y : Pr, pr x = pr y → x = y := fun x y h => by
  have := PyData.tuple.inj h
  simp only [List.cons.injEq, PyData.int.injEq, and_true] at this
  exact Prod.ext (eN_inj _ _ this.1) (Int.ofNat_inj.mp this.2)
theorem od_inj : ∀ x y : Pr × Pr, od x = od y → x = y := fun x y h => by
  have := PyData.tuple.inj h
  simp only [List.cons.injEq, and_true] at this
  exact Prod.ext (pr_inj _ _ this.1) (pr_inj _ _ this.2)
theorem flt_inj : ∀ x y : Pr × Pr, flt x = flt y → x = y := fun x y h => by
  have := PyData.tuple.inj h
  simp only [List.cons.injEq, and_true, true_and] at this
  exact Prod.ext (pr_inj _ _ this.1) (pr_inj _ _ this.2)
theorem eN_shp (n : Nm) : Shp 0 (eN n) := .str (sN_ok n)
theorem nm_shp (l : NS) : Shp 1 (nm l) := .tup (Shp.map eN_shp)
theorem nmL_shp (l : NS) : Shp 1 (nmL l) := .lst (Shp.map eN_shp)
theorem nmS_shp (l : List NS) : Shp 2 (nmS l) := .tup (Shp.map nm_shp)
theorem pr_shp (p : Pr) : Shp 1 (pr p) := .tup fun x hx => by
  rcases List.mem_cons.mp hx with e | hx
  · rw [e]; exact eN_shp _
  · rw [List.mem_singleton.mp hx]; exact .int
theorem od_shp (q : Pr × Pr) : Shp 2 (od q) := .tup fun x hx => by
  rcases List.mem_cons.mp hx with e | hx
  · rw [e]; exact pr_shp _
  · rw [List.mem_singleton.mp hx]; exact pr_shp _
theorem odds_ok : PyData.strOk (Str.ofString "odds") = true := by decide +kernel
theorem flt_shp (q : Pr × Pr) : Shp 2 (flt q) := .tup fun x hx => by
  rcases List.mem_cons.mp hx with e | hx
  · rw [e]; exact .str odds_ok
  · rcases List.mem_cons.mp hx with e | hx
    · rw [e]; exact pr_shp _
    · rw [List.mem_singleton.mp hx]; exact pr_shp _
theorem tri_shp (h : House) : Shp 3 (tri h) := .tup fun x hx => by
  rcases List.mem_cons.mp hx with e | hx
  · rw [e]; exact (eN_shp _).mono (by decide)
  · rcases List.mem_cons.mp hx with e | hx
    · rw [e]; exact nmS_shp _
    · rw [List.mem_singleton.mp hx]; exact nmS_shp _
section
variable {P : D → Prop} {a b : Nm} {l m : NS} {L : List NS} {p q : Pr} {o : Pr × Pr} {O : List (Pr × Pr)}
@[simp] theorem fIn_nm : fIn (eN a) (nm l) P ↔ P (.bool (l.contains a)) := fIn_enc eN_inj eN_shp (by decide) (.inr rfl)
@[simp] theorem fIn_nmL : fIn (eN a) (nmL l) P ↔ P (.bool (l.contains a)) := fIn_enc eN_inj eN_shp (by decide) (.inl rfl)
@[simp] theorem fNi_nm : fNi (eN a) (nm l) P ↔ P (.bool (!l.contains a)) := fNi_enc eN_inj eN_shp (by decide) (.inr rfl)
@[simp] theorem fNi_nmL : fNi (eN a) (nmL l) P ↔ P (.bool (!l.contains a)) := fNi_enc eN_inj eN_shp (by decide) (.inl rfl)
@[simp] theorem fIn_nmS : fIn (nm l) (nmS L) P ↔ P (.bool (L.contains l)) := fIn_enc nm_inj nm_shp (by decide) (.inr rfl)
@[simp] theorem fEq_eN : fEq (eN a) (eN b) P ↔ P (.bool (a == b)) := fEq_enc eN_inj eN_shp (by decide)
@[simp] theorem fNe_eN : fNe (eN a) (eN b) P ↔ P (.bool (a != b)) := fNe_enc eN_inj eN_shp (by decide)
@[simp] theorem fNe_nm : fNe (nm l) (nm m) P ↔ P (.bool (l != m)) := fNe_enc nm_inj nm_shp (by decide)
end
end Ao
set_option Elab.async false
set_option autoImplicit false
set_option linter.all false
set_option maxRecDepth 100000
set_option maxHeartbeats 2000000
namespace Ao
open PySem PySem.Spec PyProof.Rows L2
@[simp] theorem seq_nm {l : NS} {ds : List D} : Seq (nm l) ds ↔ ds = l.map eN := seq_tup
@[simp] theorem seq_nmL {l : NS} {ds : List D} : Seq (nmL l) ds ↔ ds = l.map eN := seq_lst
@[simp] theorem seq_nmS {l : List NS} {ds : List D} : Seq (nmS l) ds ↔ ds = l.map nm := seq_tup
@[simp] theorem seq_nmSL {l : List NS} {ds : List D} : Seq (nmSL l) ds ↔ ds = l.map nm := seq_lst
@[simp] theorem seq_gd {g : Guild} {ds : List D} : Seq (gd g) ds ↔ ds = g.map tri := seq_tup
@[simp] theorem fLen_nm {l : NS} {P : D → Prop} : fLen (nm l) P ↔ P (.int l.length) := by simp [nm]
@[simp] theorem fLen_nmS {l : List NS} {P : D → Prop} : fLen (nmS l) P ↔ P (.int l.length) := by simp [nmS]
abbrev EE (Q : D → Prop) : DEnds := { nx := fun _ _ => Q .none, rt := Q }
/-- a loop by an invariant of what is left -/
theorem for_inv {α : Type} {Tg : GD} {Tb : DS} {E : DEnds} {a0 : Option Addr} (enc : α → D) (I : List α → SS → Acc → Prop) (step : ∀ x rest ρ acc, I (x :: rest) ρ acc → ∀ N : SS → Acc → Prop, (∀ ρ2 acc2, acc2.map (·.1) = a0 → I rest ρ2 acc2 → N ρ2 acc2) → Tg (enc x) ρ fun ρ' => Tb { nx := N, rt := E.rt, bk := E.nx, ct := N } ρ' acc) (done : ∀ ρ acc, I [] ρ acc → E.nx ρ acc) :
    ∀ (xs : List α) (ρ : SS) (acc : Acc), I xs ρ acc → forW Tg Tb E a0 (xs.map enc) ρ acc
  | [], ρ, acc, h => done ρ acc h
  | x :: xs, ρ, acc, h => step x xs ρ acc h _ fun ρ2 acc2 e i => ⟨e, for_inv enc I step done xs ρ2 acc2 i⟩

/-! ### the words of the two -/
def subB (a b : NS) : Bool := a.all (b.contains ·)
def joint (a b : NS) : NS := a.filter (b.contains ·)
def lessN (a b : NS) : NS := a.filter (!b.contains ·)
def names (g : Guild) : NS := g.map (·.1)
def lotsOf (g : Guild) (h : Nm) : List NS := ((g.find? fun r => r.1 == h).map (·.2.1)).getD []
def fearsOf (g : Guild) (h : Nm) : List NS := ((g.find? fun r => r.1 == h).map (·.2.2)).getD []
def pairs (g : Guild) : List Pr := g.flatMap fun r => (List.range r.2.1.length).map fun k => (r.1, k)
def lotAt (g : Guild) (p : Pr) : NS := (lotsOf g p.1).getD p.2 []
def Jn (g : Guild) (h h' : Nm) : List NS := if h = h' then fearsOf g h else (fearsOf g h).flatMap fun a => (fearsOf g h').map fun b => joint a b
def atOdds (g : Guild) (p q : Pr) : Bool := (Jn g p.1 q.1).any fun x => subB (joint (lotAt g p) (lotAt g q)) x
def oddsFrom (g : Guild) : List Pr → List (Pr × Pr)
  | [] => []
  | p :: r => ((p :: r).filter (atOdds g p)).map (fun q => (p, q)) ++ oddsFrom g r
def allOdds (g : Guild) : List (Pr × Pr) := oddsFrom g (pairs g)
def safeB (g : Guild) (h : Nm) (fall : NS) : Bool := !fall.contains h && (fearsOf g h).any (subB fall ·)
def subs (l : NS) : List NS := l.foldl (fun f n => f ++ f.map (· ++ [n])) [[]]
def IsMax (S : NS → Prop) (x : NS) : Prop := S x ∧ ∀ y, S y → y ≠ x → subB x y = false
def IsMin (S : NS → Prop) (x : NS) : Prop := S x ∧ ∀ y, S y → y ≠ x → subB y x = false
def needs (g : Guild) (h : Nm) (x : NS) : Prop := ∃ p ∈ pairs g, p.1 ≠ h ∧ ∃ f, IsMax (· ∈ Jn g h p.1) f ∧ x = lessN (lotAt g p) f
def ltNS (a b : NS) : Prop := PySem.W.dataLt (nm a) (nm b) = true
def pools : List NS := [[0, 2, 4, 6], [8, 9, 10, 11], [1, 3, 5, 7]]
structure Good (g : Guild) : Prop where
  pool : ∃ p ∈ pools, (names g).Sublist p
  up : (names g).Pairwise (· < ·)
  two : 2 ≤ g.length
  four : g.length ≤ 4
  lots : ∀ r ∈ g, r.2.1 ≠ [] ∧ r.2.1.Pairwise ltNS ∧ ∀ x ∈ r.2.1, x ≠ [] ∧ x.Sublist (names g)
  fears : ∀ r ∈ g, r.2.2 ≠ [] ∧ r.2.2.Pairwise ltNS ∧ ∀ x ∈ r.2.2, x.Sublist ((names g).filter (· != r.1))
  many : (∀ r ∈ g, r.2.1.length ≤ 2) ∨ (g.length ≤ 3 ∧ ∀ r ∈ g, r.2.1.length ≤ 3) ∨ (∀ r ∈ g, r.2.1.length ≤ 4 ∧ (∀ x ∈ r.2.1, 3 ≤ x.length) ∧ ∀ x ∈ r.2.2, x.length ≤ 1)
section
variable {g : Guild}
theorem Good.nd (G : Good g) : (names g).Nodup := G.up.imp fun h e => by rw [e] at h; exact absurd h (Nat.lt_irrefl _)
theorem find_row (nd : (names g).Nodup) {r : House} (hr : r ∈ g) : g.find? (fun s => s.1 == r.1) = some r := by
  induction g with
  | nil => cases hr
  | cons s g ih =>
    have nd' : s.1 ∉ names g ∧ (names g).Nodup := List.nodup_cons.mp nd
    rcases List.mem_cons.mp hr with e | hr
    · subst e; simp
    · have hne : s.1 ≠ r.1 := fun e => nd'.1 (by rw [e]; exact List.mem_map.mpr ⟨r, hr, rfl⟩)
      rw [List.find?_cons_of_neg (by simpa using hne)]
      exact ih nd'.2 hr
theorem filter_row (nd : (names g).Nodup) {r : House} (hr : r ∈ g) : g.filter (fun s => s.1 == r.1) = [r] := by
  induction g with
  | nil => cases hr
  | cons s g ih =>
    have nd' : s.1 ∉ names g ∧ (names g).Nodup := List.nodup_cons.mp nd
    rcases List.mem_cons.mp hr with e | hr
    · subst e
      rw [List.filter_cons_of_pos (by simp)]
      congr 1
      refine List.filter_eq_nil_iff.mpr fun x hx => ?_
      have : x.1 ≠ r.1 := fun e => nd'.1 (by rw [← e]; exact List.mem_map.mpr ⟨x, hx, rfl⟩)
      simpa using this
    · have hne : s.1 ≠ r.1 := fun e => nd'.1 (by rw [e]; exact List.mem_map.mpr ⟨r, hr, rfl⟩)
      rw [List.filter_cons_of_neg (by simpa using hne)]
      exact ih nd'.2 hr
theorem lots_row (nd : (names g).Nodup) {r : House} (hr : r ∈ g) : lotsOf g r.1 = r.2.1 := by
  unfold lotsOf; rw [find_row nd hr]; rfl
theorem fears_row (nd : (names g).Nodup) {r : House} (hr : r ∈ g) : fearsOf g r.1 = r.2.2 := by
  unfold fearsOf; rw [find_row nd hr]; rfl
theorem mem_names {h : Nm} : h ∈ names g ↔ ∃ r ∈ g, r.1 = h := List.mem_map
theorem mem_pairs {p : Pr} : p ∈ pairs g ↔ ∃ r ∈ g, r.1 = p.1 ∧ p.2 < r.2.1.length := by
  unfold pairs
  rw [List.mem_flatMap]
  constructor
  · rintro ⟨r, hr, hp⟩
    obtain ⟨k, hk, e⟩ := List.mem_map.mp hp
    rw [← e]
    exact ⟨r, hr, rfl, List.mem_range.mp hk⟩
  · rintro ⟨r, hr, e, hk⟩
    exact ⟨r, hr, List.mem_map.mpr ⟨p.2, List.mem_range.mpr hk, by rw [e]⟩⟩
theorem pair_house {p : Pr} (h : p ∈ pairs g) : p.1 ∈ names g := by
  obtain ⟨r, hr, e, _⟩ := mem_pairs.mp h
  exact mem_names.mpr ⟨r, hr, e⟩
theorem pair_lot (nd : (names g).Nodup) {p : Pr} (h : p ∈ pairs g) : (lotsOf g p.1)[p.2]? = some (lotAt g p) := by
  obtain ⟨r, hr, e, hk⟩ := mem_pairs.mp h
  unfold lotAt
  rw [← e, lots_row nd hr, List.getD_eq_getElem?_getD, List.getElem?_eq_getElem hk]
  rfl
theorem subB_iff {a b : NS} : subB a b = true ↔ ∀ x ∈ a, x ∈ b := by simp [subB]
theorem mem_joint {a b : NS} {x : Nm} : x ∈ joint a b ↔ x ∈ a ∧ x ∈ b := by simp [joint]
theorem mem_lessN {a b : NS} {x : Nm} : x ∈ lessN a b ↔ x ∈ a ∧ x ∉ b := by simp [lessN]
theorem subs_mem : ∀ (l : NS) (f : List NS) (x : NS), x ∈ l.foldl (fun f n => f ++ f.map (· ++ [n])) f ↔ ∃ a ∈ f, ∃ b, b.Sublist l ∧ x = a ++ b
  | [], f, x => by
    constructor
    · intro h; exact ⟨x, h, [], List.Sublist.refl _, by simp⟩
    · rintro ⟨a, ha, b, hb, e⟩
      rw [List.sublist_nil.mp hb, List.append_nil] at e
      rw [e]; exact ha
  | n :: l, f, x => by
    rw [List.foldl_cons, subs_mem l]
    constructor
    · rintro ⟨a, ha, b, hb, e⟩
      rcases List.mem_append.mp ha with ha | ha
      · exact ⟨a, ha, b, hb.cons n, e⟩
      · obtain ⟨c, hc, ec⟩ := List.mem_map.mp ha
        exact ⟨c, hc, n :: b, hb.cons_cons n, by rw [e, ← ec]; simp⟩
    · rintro ⟨a, ha, b, hb, e⟩
      cases hb with
      | cons _ hb => exact ⟨a, List.mem_append_left _ ha, b, hb, e⟩
      | cons_cons _ hb => exact ⟨a ++ [n], List.mem_append_right _ (List.mem_map.mpr ⟨a, ha, rfl⟩), _, hb, by rw [e]; simp⟩
theorem mem_subs {l x : NS} : x ∈ subs l ↔ x.Sublist l := by
  unfold subs
  rw [subs_mem]
  constructor
  · rintro ⟨a, ha, b, hb, e⟩
    rw [List.mem_singleton.mp ha] at e
    rw [e]; exact hb
  · intro h; exact ⟨[], List.mem_singleton.mpr rfl, x, h, rfl⟩
theorem subs_len : ∀ (l : NS) (f : List NS), (l.foldl (fun f n => f ++ f.map (· ++ [n])) f).length = f.length * 2 ^ l.length
  | [], f => by simp
  | n :: l, f => by
    rw [List.foldl_cons, subs_len l]
    simp [Nat.pow_succ]
    rw [← Nat.two_mul, Nat.mul_comm (2 ^ l.length) 2, ← Nat.mul_assoc, Nat.mul_comm f.length 2]
theorem Good.subs16 (G : Good g) : (subs (names g)).length < 64 := by
  unfold subs
  rw [subs_len]
  have h1 : (names g).length ≤ 4 := by unfold names; rw [List.length_map]; exact G.four
  have h2 : 2 ^ (names g).length ≤ 2 ^ 4 := Nat.pow_le_pow_right (by decide) h1
  simp at h2 ⊢
  omega
theorem Good.fear_sub (G : Good g) {h : Nm} (hh : h ∈ names g) : ∀ x ∈ fearsOf g h, x.Sublist (names g) ∧ h ∉ x := fun x hx => by
  obtain ⟨r, hr, e⟩ := mem_names.mp hh
  rw [← e, fears_row G.nd hr] at hx
  have s := (G.fears r hr).2.2 x hx
  refine ⟨s.trans (List.filter_sublist), fun m => ?_⟩
  have := (List.mem_filter.mp (s.subset m)).2
  simp [e] at this
theorem Good.lot_sub (G : Good g) {p : Pr} (hp : p ∈ pairs g) : (lotAt g p).Sublist (names g) ∧ lotAt g p ≠ [] := by
  obtain ⟨r, hr, e, hk⟩ := mem_pairs.mp hp
  have hm : lotAt g p ∈ r.2.1 := by
    have := pair_lot G.nd hp
    rw [← e, lots_row G.nd hr] at this
    exact List.mem_of_getElem? this
  exact ⟨((G.lots r hr).2.2 _ hm).2, ((G.lots r hr).2.2 _ hm).1⟩
theorem Good.J_sub (G : Good g) {h h' : Nm} (hh : h ∈ names g) (hh' : h' ∈ names g) : ∀ x ∈ Jn g h h', x.Sublist (names g) := fun x hx => by
  unfold Jn at hx
  split at hx
  · exact (G.fear_sub hh x hx).1
  · obtain ⟨a, ha, hx⟩ := List.mem_flatMap.mp hx
    obtain ⟨b, hb, e⟩ := List.mem_map.mp hx
    rw [← e]
    exact List.filter_sublist.trans (G.fear_sub hh a ha).1
end
end Ao
set_option Elab.async false
set_option autoImplicit false
set_option linter.all false
set_option maxRecDepth 100000
set_option maxHeartbeats 2000000
namespace Ao
open PySem PySem.Spec PyProof.Rows L2
def sp_is_within : DSp := fun ss P => ∃ a b : NS, ss = [.d (nm a), .d (nm b)] ∧ P (.bool (subB a b))
theorem p_is_within (ss : List SV) (Q : D → Prop) (h : sp_is_within ss Q) : T_is_within (EE Q) (startS N_is_within.length ss) none := by
  obtain ⟨a, b, rfl, h⟩ := h
  simp [T_is_within, N_is_within]
  exact lc_map eN (fun n => .bool (b.contains n)) a (fun x hx C hC => by simpa using hC) (fAll_of h)
def sp_within_in : DSp := sp_is_within
theorem p_within_in (ss : List SV) (Q : D → Prop) (h : sp_within_in ss Q) : T_within_in (EE Q) (startS N_within_in.length ss) none := by
  obtain ⟨a, b, rfl, h⟩ := h
  simp [T_within_in, N_within_in]
  exact lc_map eN (fun n => .bool (b.contains n)) a (fun x hx C hC => by simpa using hC) (fAll_of h)
def sp_joint_in : DSp := fun ss P => ∃ a b : NS, ss = [.d (nm a), .d (nm b)] ∧ P (nm (joint a b))
theorem p_joint_in (ss : List SV) (Q : D → Prop) (h : sp_joint_in ss Q) : T_joint_in (EE Q) (startS N_joint_in.length ss) none := by
  obtain ⟨a, b, rfl, h⟩ := h
  simp [T_joint_in, N_joint_in]
  refine lc_fil eN eN (fun n => b.contains n) a (fun x hx C hC => ?_) (by simpa [joint, nm] using h)
  by_cases hb : x ∈ b <;> simp [hb] at hC ⊢ <;> exact hC
def sp_less_by : DSp := fun ss P => ∃ a b : NS, ss = [.d (nm a), .d (nm b)] ∧ P (nm (lessN a b))
theorem p_less_by (ss : List SV) (Q : D → Prop) (h : sp_less_by ss Q) : T_less_by (EE Q) (startS N_less_by.length ss) none := by
  obtain ⟨a, b, rfl, h⟩ := h
  simp [T_less_by, N_less_by]
  refine lc_fil eN eN (fun n => !b.contains n) a (fun x hx C hC => ?_) (by simpa [lessN, nm] using h)
  by_cases hb : x ∈ b <;> simp [hb] at hC ⊢ <;> exact hC
def sp_houses_in : DSp := fun ss P => ∃ g : Guild, ss = [.d (gd g)] ∧ P (nm (names g))
theorem p_houses_in (ss : List SV) (Q : D → Prop) (h : sp_houses_in ss Q) : T_houses_in (EE Q) (startS N_houses_in.length ss) none := by
  obtain ⟨g, rfl, h⟩ := h
  simp [T_houses_in, N_houses_in]
  exact lc_map tri (fun r => eN r.1) g (fun x hx C hC => by simpa [tri] using hC) (by simpa [names, nm, Function.comp_def] using h)
def sp_lots_of : DSp := fun ss P => ∃ (g : Guild) (h : Nm), ss = [.d (gd g), .d (eN h)] ∧ Good g ∧ h ∈ names g ∧ P (nmS (lotsOf g h))
theorem p_lots_of (ss : List SV) (Q : D → Prop) (h : sp_lots_of ss Q) : T_lots_of (EE Q) (startS N_lots_of.length ss) none := by
  obtain ⟨g, n, rfl, G, hn, h⟩ := h
  obtain ⟨r, hr, rfl⟩ := mem_names.mp hn
  rw [lots_row G.nd hr] at h
  simp [T_lots_of, N_lots_of]
  refine lc_fil tri tri (fun s => s.1 == r.1) g (fun x hx C hC => ?_) ?_
  · by_cases hb : x.1 = r.1 <;> simp [hb] at hC ⊢ <;> simpa [tri, hb] using hC
  · rw [filter_row G.nd hr]
    simpa [tri] using h
def sp_fears_of : DSp := fun ss P => ∃ (g : Guild) (h : Nm), ss = [.d (gd g), .d (eN h)] ∧ Good g ∧ h ∈ names g ∧ P (nmS (fearsOf g h))
theorem p_fears_of (ss : List SV) (Q : D → Prop) (h : sp_fears_of ss Q) : T_fears_of (EE Q) (startS N_fears_of.length ss) none := by
  obtain ⟨g, n, rfl, G, hn, h⟩ := h
  obtain ⟨r, hr, rfl⟩ := mem_names.mp hn
  rw [fears_row G.nd hr] at h
  simp [T_fears_of, N_fears_of]
  refine lc_fil tri tri (fun s => s.1 == r.1) g (fun x hx C hC => ?_) ?_
  · by_cases hb : x.1 = r.1 <;> simp [hb] at hC ⊢ <;> simpa [tri, hb] using hC
  · rw [filter_row G.nd hr]
    simpa [tri] using h
def sp_is_safe_by : DSp := fun ss P => ∃ (g : Guild) (h : Nm) (f : NS), ss = [.d (gd g), .d (eN h), .d (nm f)] ∧ Good g ∧ h ∈ names g ∧ P (.bool (safeB g h f))
theorem p_is_safe_by (ss : List SV) (Q : D → Prop) (h : sp_is_safe_by ss Q) : T_is_safe_by sp_fears_of [] sp_is_within [] (EE Q) (startS N_is_safe_by.length ss) none := by
  obtain ⟨g, n, f, rfl, G, hn, h⟩ := h
  simp [T_is_safe_by, N_is_safe_by]
  by_cases hb : n ∈ f
  · simpa [hb, safeB] using h
  · simp [hb]
    refine ⟨g, n, rfl, G, hn, ?_⟩
    simp
    refine lc_map nm (fun y => .bool (subB f y)) _ (fun x hx C hC => ?_) (fAny_of (by simpa [safeB, hb] using h))
    simp
    exact ⟨f, x, rfl, hC⟩
def sp_safe_by : DSp := fun ss P => ∃ (g : Guild) (f : NS), ss = [.d (gd g), .d (nm f)] ∧ Good g ∧ P (nm ((names g).filter fun h => safeB g h f))
theorem p_safe_by (ss : List SV) (Q : D → Prop) (h : sp_safe_by ss Q) : T_safe_by sp_houses_in [] sp_is_safe_by [] (EE Q) (startS N_safe_by.length ss) none := by
  obtain ⟨g, f, rfl, G, h⟩ := h
  simp [T_safe_by, N_safe_by]
  refine ⟨g, rfl, ?_⟩
  simp
  refine lc_fil eN eN (fun n => safeB g n f) _ (fun x hx C hC => ?_) (by simpa [nm] using h)
  simp
  refine ⟨g, x, f, rfl, G, hx, ?_⟩
  cases hb : safeB g x f <;> simp [hb] at hC ⊢ <;> exact hC
def sp_lot_at : DSp := fun ss P => ∃ (g : Guild) (p : Pr), ss = [.d (gd g), .d (pr p)] ∧ Good g ∧ p ∈ pairs g ∧ P (nm (lotAt g p))
theorem p_lot_at (ss : List SV) (Q : D → Prop) (h : sp_lot_at ss Q) : T_lot_at sp_lots_of [] (EE Q) (startS N_lot_at.length ss) none := by
  obtain ⟨g, p, rfl, G, hp, h⟩ := h
  simp [T_lot_at, N_lot_at, pr]
  refine ⟨g, p.1, rfl, G, pair_house hp, ?_⟩
  simp [nmS]
  exact ⟨nm (lotAt g p), ⟨lotAt g p, pair_lot G.nd hp, rfl⟩, h⟩
end Ao
set_option Elab.async false
set_option autoImplicit false
set_option linter.all false
set_option maxRecDepth 100000
set_option maxHeartbeats 2000000
namespace Ao
open PySem PySem.Spec PyProof.Rows L2
/-! ### two clauses without conditions -/
theorem lcI_map {β : Type} {Tg : GD} {Te : TD} (enc f : β → D) {ρ : SS} {C : List D → Prop} : ∀ (ys : List β) (acc : List D), acc.length + ys.length ≤ 100000 → (∀ y ∈ ys, ∀ K : D → Prop, K (f y) → Tg (enc y) ρ fun ρ' => Te ρ' K) → C (acc ++ ys.map f) → lcI Tg bYes Te (ys.map enc) acc ρ C
  | [], acc, _, _, h => by simpa [lcI] using h
  | y :: ys, acc, hz, hy, h => by
    simp only [List.length_cons] at hz
    have ih := lcI_map (Tg := Tg) (Te := Te) enc f (ρ := ρ) (C := C) ys (acc ++ [f y]) (by simp; omega) (fun z hz => hy z (List.mem_cons_of_mem _ hz)) (by simpa using h)
    have turn := hy y List.mem_cons_self (fun z => acc.length < 100000 ∧ lcI Tg bYes Te (ys.map enc) (acc ++ [z]) ρ C) ⟨by omega, ih⟩
    simpa [lcI] using turn
theorem lcO_map {α : Type} {Tg Tg1 : GD} {Ti1 : TIt} {Te : TD} {vs1 : List Nat} (enc : α → D) (f : α → List D) {ρ : SS} {P : D → Prop} : ∀ (xs : List α) (acc : List D), acc.length + (xs.flatMap f).length ≤ 100000 →
    (∀ x ∈ xs, ∀ (acc : List D) (C : List D → Prop), acc.length + (f x).length ≤ 100000 → C (acc ++ f x) → Tg (enc x) ρ fun ρ' => Ti1 ρ' fun es => lcI Tg1 bYes Te es acc (wipeS ρ' vs1) C) → P (.list (acc ++ xs.flatMap f)) → lcO Tg bYes Ti1 Tg1 bYes Te vs1 (xs.map enc) acc ρ P
  | [], acc, _, _, h => by simpa [lcO] using h
  | x :: xs, acc, hz, hx, h => by
    rw [List.flatMap_cons, List.length_append] at hz
    have ih := lcO_map (Tg := Tg) (Tg1 := Tg1) (Ti1 := Ti1) (Te := Te) (vs1 := vs1) enc f (ρ := ρ) (P := P) xs (acc ++ f x) (by rw [List.length_append]; omega) (fun y hy => hx y (List.mem_cons_of_mem _ hy)) (by simpa using h)
    have turn := hx x List.mem_cons_self acc (fun acc' => lcO Tg bYes Ti1 Tg1 bYes Te vs1 (xs.map enc) acc' ρ P) (by omega) ih
    simpa [lcO] using turn
/-! ### sorted(set(..)) of name sets -/
theorem nm_kOk (l : NS) : kOk (nm l) = true := by
  show kOks (l.map eN) = true
  induction l with
  | nil => rfl
  | cons x l ih => rw [List.map_cons, kOks, ih]; rfl
theorem nm_alike (a b : NS) : PySem.W.alike (nm a) (nm b) = true := by
  show PySem.W.alikeAll (a.map eN) (b.map eN) = true
  induction a generalizing b with
  | nil => simp [PySem.W.alikeAll]
  | cons x a ih =>
    cases b with
    | nil => simp [PySem.W.alikeAll]
    | cons y b =>
      rw [List.map_cons, List.map_cons, PySem.W.alikeAll, ih b]
      rfl
theorem nm_srt (S : List NS) : SrtOk (S.map nm) := by
  refine ⟨fun d hd => ?_, fun d hd e he => ?_⟩
  · obtain ⟨x, _, rfl⟩ := List.mem_map.mp hd
    exact ⟨⟨_, rfl⟩, nm_kOk x, Nat.le_trans (nm_shp x).2 (by decide)⟩
  · obtain ⟨x, _, rfl⟩ := List.mem_map.mp hd
    obtain ⟨y, _, rfl⟩ := List.mem_map.mp he
    exact nm_alike x y
theorem unmap {α : Type} {e : α → D} {S : List α} : ∀ {zs : List D}, (∀ d ∈ zs, d ∈ S.map e) → ∃ Z : List α, zs = Z.map e
  | [], _ => ⟨[], rfl⟩
  | z :: zs, h => by
    obtain ⟨Z, e1⟩ := unmap (zs := zs) fun d hd => h d (List.mem_cons_of_mem _ hd)
    obtain ⟨x, _, e2⟩ := List.mem_map.mp (h z List.mem_cons_self)
    exact ⟨x :: Z, by rw [List.map_cons, e1, e2]⟩
theorem mem_unmap {α : Type} {e : α → D} (inj : ∀ x y, e x = e y → x = y) {x : α} {l : List α} : e x ∈ l.map e ↔ x ∈ l := by
  constructor
  · intro h
    obtain ⟨y, hy, q⟩ := List.mem_map.mp h
    rw [← inj _ _ q]; exact hy
  · exact fun h => List.mem_map.mpr ⟨x, h, rfl⟩
def Few (S : List NS) : Prop := ∃ M : List NS, M.length < 64 ∧ ∀ x ∈ S, x ∈ M
theorem sset_nm {x : D} {S : List NS} {P : D → Prop} (hx : x = nmS S ∨ x = nmSL S) (few : Few S) (h : ∀ Z : List NS, Z.Nodup → (∀ y, y ∈ Z ↔ y ∈ S) → P (nmSL Z)) : fSset x P := by
  obtain ⟨M, hM, sub⟩ := few
  refine ⟨S.map nm, by rcases hx with e | e <;> subst e <;> simp, nm_srt S, ⟨M.map nm, by simpa using hM, fun d hd => ?_⟩, fun zs mem nd _ => ?_⟩
  · obtain ⟨y, hy, rfl⟩ := List.mem_map.mp hd
    exact List.mem_map.mpr ⟨y, sub y hy, rfl⟩
  · obtain ⟨Z, rfl⟩ := unmap (S := S) (e := nm) fun d hd => (mem d).mp hd
    exact h Z ((List.pairwise_map.mp nd).imp fun q e => q (by rw [e])) fun y => by
      have := mem (nm y)
      rwa [mem_unmap nm_inj, mem_unmap nm_inj] at this
theorem bools_any {α : Type} {l : List α} {p : α → Bool} : (!l.any p) = true ↔ ∀ y ∈ l, p y = false := by simp
def sp_greatest_of : DSp := fun ss P => ∃ (x : D) (S : List NS), ss = [.d x] ∧ (x = nmS S ∨ x = nmSL S) ∧ Few S ∧ ∀ R : List NS, R.Nodup → (∀ y, y ∈ R ↔ IsMax (· ∈ S) y) → P (nmS R)
theorem p_greatest_of (ss : List SV) (Q : D → Prop) (h : sp_greatest_of ss Q) : T_greatest_of sp_is_within [] (EE Q) (startS N_greatest_of.length ss) none := by
  obtain ⟨x, S, rfl, hx, few, h⟩ := h
  simp [T_greatest_of, N_greatest_of]
  refine sset_nm hx few fun Z ndZ hZ => ?_
  simp
  refine lc_fil nm nm (fun y => !Z.any fun z => z != y && subB y z) Z (fun y hy C hC => ?_) ?_
  · simp
    refine lc_map nm (fun z => .bool (z != y && subB y z)) Z (fun z hz C' hC' => ?_) (fAny_of (p := fun z => z != y && subB y z) ?_)
    · simp
      by_cases hb : z = y
      · simpa [hb] using hC'
      · have hne : (z != y) = true := by simpa using hb
        rw [hne, Bool.true_and] at hC'
        simp [hb]
        exact ⟨y, z, rfl, hC'⟩
    · cases hb : Z.any (fun z => z != y && subB y z) <;> simp [hb] at hC ⊢ <;> exact hC
  · simp
    refine h _ (ndZ.filter _) fun y => ?_
    rw [List.mem_filter, hZ, bools_any]
    refine and_congr_right fun _ => ⟨fun q z hz hne => ?_, fun q z hz => ?_⟩
    · have := q z ((hZ z).mpr hz)
      simpa [hne] using this
    · by_cases e : z = y
      · simp [e]
      · simp [e, q z ((hZ z).mp hz) e]
def sp_least_of : DSp := fun ss P => ∃ (x : D) (S : List NS), ss = [.d x] ∧ (x = nmS S ∨ x = nmSL S) ∧ Few S ∧ ∀ R : List NS, R.Nodup → (∀ y, y ∈ R ↔ IsMin (· ∈ S) y) → P (nmS R)
theorem p_least_of (ss : List SV) (Q : D → Prop) (h : sp_least_of ss Q) : T_least_of sp_is_within [] (EE Q) (startS N_least_of.length ss) none := by
  obtain ⟨x, S, rfl, hx, few, h⟩ := h
  simp [T_least_of, N_least_of]
  refine sset_nm hx few fun Z ndZ hZ => ?_
  simp
  refine lc_fil nm nm (fun y => !Z.any fun z => z != y && subB z y) Z (fun y hy C hC => ?_) ?_
  · simp
    refine lc_map nm (fun z => .bool (z != y && subB z y)) Z (fun z hz C' hC' => ?_) (fAny_of (p := fun z => z != y && subB z y) ?_)
    · simp
      by_cases hb : z = y
      · simpa [hb] using hC'
      · have hne : (z != y) = true := by simpa using hb
        rw [hne, Bool.true_and] at hC'
        simp [hb]
        exact ⟨z, y, rfl, hC'⟩
    · cases hb : Z.any (fun z => z != y && subB z y) <;> simp [hb] at hC ⊢ <;> exact hC
  · simp
    refine h _ (ndZ.filter _) fun y => ?_
    rw [List.mem_filter, hZ, bools_any]
    refine and_congr_right fun _ => ⟨fun q z hz hne => ?_, fun q z hz => ?_⟩
    · have := q z ((hZ z).mpr hz)
      simpa [hne] using this
    · by_cases e : z = y
      · simp [e]
      · simp [e, q z ((hZ z).mp hz) e]
end Ao
set_option Elab.async false
set_option autoImplicit false
set_option linter.all false
set_option maxRecDepth 100000
set_option maxHeartbeats 2000000
namespace Ao
open PySem PySem.Spec PyProof.Rows L2
section
variable {g : Guild}
theorem Good.lots4 (G : Good g) : ∀ r ∈ g, r.2.1.length ≤ 4 := fun r hr => by
  rcases G.many with h | ⟨_, h⟩ | h
  · have := h r hr; omega
  · have := h r hr; omega
  · exact (h r hr).1
theorem flat_len {α β : Type} {f : α → List β} {n : Nat} : ∀ {xs : List α}, (∀ x ∈ xs, (f x).length ≤ n) → (xs.flatMap f).length ≤ n * xs.length
  | [], _ => by simp
  | x :: xs, h => by
    have h1 := h x List.mem_cons_self
    have h2 := flat_len (xs := xs) fun y hy => h y (List.mem_cons_of_mem _ hy)
    rw [List.flatMap_cons, List.length_append, List.length_cons, Nat.mul_succ]
    omega
theorem Good.pairs16 (G : Good g) : (pairs g).length ≤ 16 := by
  have := flat_len (f := fun r : House => (List.range r.2.1.length).map fun k => (r.1, k)) (n := 4) (xs := g) fun r hr => by
    rw [List.length_map, List.length_range]; exact G.lots4 r hr
  have h4 := G.four
  unfold pairs
  omega
theorem lt_irr (a : NS) : ¬ ltNS a a := fun h => by
  have : PySem.W.dataLt (nm a) (nm a) = false := PyProof.Rows.lex_irrefl _
  rw [ltNS, this] at h; cases h
theorem Good.fears64 (G : Good g) {h : Nm} (hh : h ∈ names g) : (fearsOf g h).length < 64 := by
  obtain ⟨r, hr, e⟩ := mem_names.mp hh
  have f := G.fears r hr
  have := pigeon (fearsOf g h) (subs (names g)) (by
    rw [← e, fears_row G.nd hr]
    exact f.2.1.imp fun q z => by rw [z] at q; exact lt_irr _ q) fun x hx => mem_subs.mpr (G.fear_sub hh x hx).1
  have := G.subs16
  omega
theorem Good.few {S : List NS} (G : Good g) (h : ∀ x ∈ S, x.Sublist (names g)) : Few S := ⟨subs (names g), G.subs16, fun x hx => mem_subs.mpr (h x hx)⟩
end
def sp_pairs_in : DSp := fun ss P => ∃ g : Guild, ss = [.d (gd g)] ∧ Good g ∧ P (.list ((pairs g).map pr))
theorem p_pairs_in (ss : List SV) (Q : D → Prop) (h : sp_pairs_in ss Q) : T_pairs_in (EE Q) (startS N_pairs_in.length ss) none := by
  obtain ⟨g, rfl, G, h⟩ := h
  simp [T_pairs_in, N_pairs_in]
  have e : (g.flatMap fun r : House => (List.range r.2.1.length).map fun k => pr (r.1, k)) = (pairs g).map pr := by
    unfold pairs
    rw [List.map_flatMap]
    simp [Function.comp_def]
  refine lcO_map tri (fun r : House => (List.range r.2.1.length).map fun k => pr (r.1, k)) g [] ?_ (fun r hr acc C hz hC => ?_) ?_
  · have := G.pairs16
    rw [e, List.length_map, List.length_nil]
    omega
  · simp [tri]
    refine ⟨_, rfl, by have := G.lots4 r hr; omega, ?_⟩
    exact lcI_map (fun k : Nat => PyData.int (k : Nat)) (fun k => pr (r.1, k)) _ acc (by simpa using hz) (fun k hk K hK => by simpa [pr] using hK) hC
  · rw [e]
    simpa using h
def sp_falls_by : DSp := fun ss P => ∃ (g : Guild) (h h' : Nm), ss = [.d (gd g), .d (eN h), .d (eN h')] ∧ Good g ∧ h ∈ names g ∧ h' ∈ names g ∧ ∀ R : List NS, R.Nodup → (∀ y, y ∈ R ↔ IsMax (· ∈ Jn g h h') y) → P (nmS R)
theorem p_falls_by (ss : List SV) (Q : D → Prop) (h : sp_falls_by ss Q) : T_falls_by sp_fears_of [] sp_greatest_of [] sp_joint_in [] (EE Q) (startS N_falls_by.length ss) none := by
  obtain ⟨g, n, m, rfl, G, hn, hm, h⟩ := h
  have few := G.few (G.J_sub hn hm)
  simp [T_falls_by, N_falls_by]
  by_cases e : n = m
  · subst e
    simp
    refine ⟨g, n, rfl, G, hn, ?_⟩
    have eJ : Jn g n n = fearsOf g n := by unfold Jn; rw [if_pos rfl]
    rw [eJ] at h few
    exact ⟨_, _, rfl, .inl rfl, few, h⟩
  · simp [e]
    have eJ : Jn g n m = (fearsOf g n).flatMap fun a => (fearsOf g m).map fun b => joint a b := by unfold Jn; rw [if_neg e]
    refine ⟨g, n, rfl, G, hn, ?_⟩
    simp
    have e2 : ((fearsOf g n).flatMap fun a => (fearsOf g m).map fun b => nm (joint a b)) = (Jn g n m).map nm := by
      rw [eJ, List.map_flatMap]
      simp [Function.comp_def]
    refine lcO_map nm (fun a => (fearsOf g m).map fun b => nm (joint a b)) _ [] ?_ (fun a ha acc C hz hC => ?_) ?_
    · have h1 := flat_len (f := fun a : NS => (fearsOf g m).map fun b => nm (joint a b)) (n := 64) (xs := fearsOf g n) fun a _ => by
        rw [List.length_map]; exact Nat.le_of_lt (G.fears64 hm)
      have h2 := G.fears64 hn
      rw [List.length_nil]
      omega
    · simp
      refine ⟨g, m, rfl, G, hm, ?_⟩
      simp
      exact lcI_map nm (fun b => nm (joint a b)) _ acc (by simpa using hz) (fun b hb K hK => by
        simp
        exact ⟨a, b, rfl, hK⟩) hC
    · rw [e2]
      simp
      exact ⟨_, Jn g n m, rfl, .inr rfl, few, h⟩
def sp_odds_by : DSp := fun ss P => ∃ (g : Guild) (p q : Pr), ss = [.d (gd g), .d (pr p), .d (pr q)] ∧ Good g ∧ p ∈ pairs g ∧ q ∈ pairs g ∧ (atOdds g p q = false → P .none) ∧ (atOdds g p q = true → ∀ x, IsMax (· ∈ Jn g p.1 q.1) x → subB (joint (lotAt g p) (lotAt g q)) x = true → P (nm x))
/-- below a greatest one -/
theorem above {S : List NS} : ∀ (n : Nat) (x : NS), x ∈ S → (∀ y ∈ S, y.length ≤ n + x.length) → (∀ y ∈ S, y.Nodup) → (∀ a ∈ S, ∀ b ∈ S, subB a b = true → subB b a = true → a = b) → ∃ y, IsMax (· ∈ S) y ∧ subB x y = true
  | n, x, hx, hl, nd, anti => by
    by_cases c : ∃ y ∈ S, y ≠ x ∧ subB x y = true
    · obtain ⟨y, hy, ne, s⟩ := c
      have lt : x.length < y.length := by
        have h1 := pigeon x y (nd x hx) (subB_iff.mp s)
        rcases Nat.lt_or_ge x.length y.length with z | z
        · exact z
        · exfalso
          refine ne (anti y hy x hx ?_ s)
          -- the same number: the same members
          refine subB_iff.mpr fun v hv => ?_
          refine Classical.byContradiction fun nv => ?_
          have := pigeon (v :: x) y (List.nodup_cons.mpr ⟨nv, nd x hx⟩) fun u hu => by
            rcases List.mem_cons.mp hu with e | hu
            · rw [e]; exact hv
            · exact subB_iff.mp s u hu
          simp at this
          omega
      cases n with
      | zero => have := hl y hy; omega
      | succ n =>
        obtain ⟨z, m, sz⟩ := above n y hy (fun u hu => by have := hl u hu; omega) nd anti
        exact ⟨z, m, subB_iff.mpr fun v hv => subB_iff.mp sz v (subB_iff.mp s v hv)⟩
    · refine ⟨x, ⟨hx, fun y hy ne => ?_⟩, subB_iff.mpr fun v hv => hv⟩
      cases e : subB x y with
      | false => rfl
      | true => exact absurd ⟨y, hy, ne, e⟩ c
theorem sub_filter {c l : NS} (hc : c.Sublist l) : l.Nodup → c = l.filter (c.contains ·) := by
  induction hc with
  | slnil => intro _; rfl
  | @cons l1 l2 n h ih =>
    intro nd
    obtain ⟨n1, n2⟩ := List.nodup_cons.mp nd
    have : ¬ n ∈ l1 := fun m => n1 (h.subset m)
    rw [List.filter_cons_of_neg (by simpa using this)]
    exact ih n2
  | @cons_cons l1 l2 n h ih =>
    intro nd
    obtain ⟨n1, n2⟩ := List.nodup_cons.mp nd
    rw [List.filter_cons_of_pos (by simp)]
    congr 1
    have e := ih n2
    conv => lhs; rw [e]
    refine List.filter_congr fun x hx => ?_
    have : x ≠ n := fun z => n1 (z ▸ hx)
    simp [this]
theorem sub_anti {l : NS} (nd : l.Nodup) {a b : NS} (ha : a.Sublist l) (hb : b.Sublist l) (h1 : subB a b = true) (h2 : subB b a = true) : a = b := by
  rw [sub_filter ha nd, sub_filter hb nd]
  refine List.filter_congr fun x _ => ?_
  rw [Bool.eq_iff_iff]
  simp only [List.contains_iff_mem]
  exact ⟨subB_iff.mp h1 x, subB_iff.mp h2 x⟩
end Ao
set_option Elab.async false
set_option autoImplicit false
set_option linter.all false
set_option maxRecDepth 100000
set_option maxHeartbeats 2000000
namespace Ao
open PySem PySem.Spec PyProof.Rows L2
theorem subB_trans {a b c : NS} (h1 : subB a b = true) (h2 : subB b c = true) : subB a c = true := subB_iff.mpr fun x hx => subB_iff.mp h2 x (subB_iff.mp h1 x hx)
theorem Good.above {g : Guild} (G : Good g) {h h' : Nm} (hh : h ∈ names g) (hh' : h' ∈ names g) {x : NS} (hx : x ∈ Jn g h h') : ∃ y, IsMax (· ∈ Jn g h h') y ∧ subB x y = true := by
  have js := G.J_sub hh hh'
  refine Ao.above (names g).length x hx (fun y hy => ?_) (fun y hy => (js y hy).nodup G.nd) (fun a ha b hb => sub_anti G.nd (js a ha) (js b hb))
  have := (js y hy).length_le
  omega
theorem p_odds_by (ss : List SV) (Q : D → Prop) (h : sp_odds_by ss Q) : T_odds_by sp_lot_at [] sp_joint_in [] sp_falls_by [] sp_is_within [] (EE Q) (startS N_odds_by.length ss) none := by
  obtain ⟨g, p, q, rfl, G, hp, hq, h1, h2⟩ := h
  simp [T_odds_by, N_odds_by]
  refine ⟨g, p, rfl, G, hp, ?_⟩
  refine ⟨g, q, rfl, G, hq, ?_⟩
  refine ⟨_, _, rfl, ?_⟩
  simp [pr]
  refine ⟨g, p.1, q.1, rfl, G, pair_house hp, pair_house hq, fun R nd mem => ?_⟩
  simp
  generalize hc : joint (lotAt g p) (lotAt g q) = c at h1 h2 ⊢
  have key : atOdds g p q = (Jn g p.1 q.1).any fun x => subB c x := by unfold atOdds; rw [hc]
  refine for_inv nm (fun rest ρ acc => acc = none ∧ (∃ v, ρ = [some (.d (gd g)), some (.d (.tuple [eN p.1, .int (p.2 : Nat)])), some (.d (.tuple [eN q.1, .int (q.2 : Nat)])), some (.d (nm c)), v]) ∧ (∀ y ∈ rest, subB c y = true → Q (nm y)) ∧ ((∀ y ∈ rest, subB c y = false) → Q .none)) (fun x rest ρ acc hI N hN => ?_) (fun ρ acc hI => ?_) R _ _ ⟨rfl, ⟨_, rfl⟩, fun y hy s => ?_, fun hy => ?_⟩
  · obtain ⟨rfl, ⟨v, rfl⟩, i1, i2⟩ := hI
    simp
    refine ⟨c, x, rfl, ?_⟩
    cases hs : subB c x with
    | true => simpa using i1 x List.mem_cons_self hs
    | false =>
      simp
      exact hN _ _ rfl ⟨rfl, ⟨_, rfl⟩, fun y hy => i1 y (List.mem_cons_of_mem _ hy), fun hy => i2 fun y hm => by
        rcases List.mem_cons.mp hm with e | hm
        · rw [e]; exact hs
        · exact hy y hm⟩
  · obtain ⟨rfl, ⟨v, rfl⟩, i1, i2⟩ := hI
    simpa using i2 fun y hy => (nomatch hy)
  · have m := (mem y).mp hy
    exact h2 (by rw [key]; exact List.any_eq_true.mpr ⟨y, m.1, s⟩) y m s
  · refine h1 ?_
    rw [key, Bool.eq_false_iff]
    intro hA
    obtain ⟨x, hx, sx⟩ := List.any_eq_true.mp hA
    obtain ⟨y, my, sy⟩ := G.above (pair_house hp) (pair_house hq) hx
    have := hy y ((mem y).mpr my)
    rw [subB_trans sx sy] at this
    cases this
def sp_first_missed_by : DSp := fun ss P => ∃ (R : List NS) (l : NS), ss = [.d (nmS R), .d (nm l)] ∧ ((∀ n ∈ R, joint n l ≠ []) → P .none) ∧ ∀ n ∈ R, joint n l = [] → P (nm n)
theorem p_first_missed_by (ss : List SV) (Q : D → Prop) (h : sp_first_missed_by ss Q) : T_first_missed_by sp_joint_in [] (EE Q) (startS N_first_missed_by.length ss) none := by
  obtain ⟨R, l, rfl, h1, h2⟩ := h
  simp [T_first_missed_by, N_first_missed_by]
  refine for_inv nm (fun rest ρ acc => acc = none ∧ (∃ v, ρ = [some (.d (nmS R)), some (.d (nm l)), v]) ∧ ((∀ n ∈ rest, joint n l ≠ []) → Q .none) ∧ ∀ n ∈ rest, joint n l = [] → Q (nm n)) (fun x rest ρ acc hI N hN => ?_) (fun ρ acc hI => ?_) R _ _ ⟨rfl, ⟨_, rfl⟩, h1, h2⟩
  · obtain ⟨rfl, ⟨v, rfl⟩, i1, i2⟩ := hI
    simp
    refine ⟨x, l, rfl, ?_⟩
    simp [fEq, SeqAt.shaped, PyData.canLay0, PyData.depth, PyData.eqv]
    by_cases e : joint x l = []
    · simp [e]
      exact i2 x List.mem_cons_self e
    · simp [e]
      exact hN _ _ rfl ⟨rfl, ⟨_, rfl⟩, fun hy => i1 fun n hn => by
        rcases List.mem_cons.mp hn with z | hn
        · rw [z]; exact e
        · exact hy n hn, fun n hn => i2 n (List.mem_cons_of_mem _ hn)⟩
  · obtain ⟨rfl, ⟨v, rfl⟩, i1, i2⟩ := hI
    simpa using i1 fun y hy => (nomatch hy)
def metB (R : List NS) (l : NS) : Bool := R.all fun n => !(joint n l).isEmpty
def sp_is_met : DSp := fun ss P => ∃ (R : List NS) (l : NS), ss = [.d (nmS R), .d (nm l)] ∧ P (.bool (metB R l))
theorem p_is_met (ss : List SV) (Q : D → Prop) (h : sp_is_met ss Q) : T_is_met sp_first_missed_by [] (EE Q) (startS N_is_met.length ss) none := by
  obtain ⟨R, l, rfl, h⟩ := h
  simp [T_is_met, N_is_met]
  refine ⟨R, l, rfl, fun a => ?_, fun n hn e => ?_⟩
  · have : metB R l = true := by
      unfold metB
      rw [List.all_eq_true]
      intro n hn
      have := a n hn
      cases q : joint n l with
      | nil => exact absurd q this
      | cons _ _ => rfl
    simpa [this] using h
  · have : metB R l = false := by
      unfold metB
      rw [Bool.eq_false_iff]
      intro a
      have := List.all_eq_true.mp a n hn
      rw [e] at this
      cases this
    simpa [this, nm] using h
/-! ### all odds -/
theorem enums_map {α : Type} {e : α → D} {l : List α} : enums (l.map e) = l.zipIdx.map fun p => .tuple [.int (p.2 : Nat), e p.1] := by
  unfold enums
  rw [List.zipIdx_map, List.map_map]
  rfl
theorem oddsFrom_len {g : Guild} : ∀ l : List Pr, (oddsFrom g l).length ≤ l.length * l.length
  | [] => by simp [oddsFrom]
  | p :: r => by
    have h1 := oddsFrom_len (g := g) r
    have h2 := List.length_filter_le (atOdds g p) (p :: r)
    rw [oddsFrom, List.length_append, List.length_map]
    simp only [List.length_cons] at h2 ⊢
    rw [Nat.add_mul, Nat.mul_add]
    omega
def sp_all_odds_by : DSp := fun ss P => ∃ g : Guild, ss = [.d (gd g)] ∧ Good g ∧ P (.list ((allOdds g).map od))
theorem p_all_odds_by (ss : List SV) (Q : D → Prop) (h : sp_all_odds_by ss Q) : T_all_odds_by sp_pairs_in [] sp_odds_by [] (EE Q) (startS N_all_odds_by.length ss) none := by
  obtain ⟨g, rfl, G, h⟩ := h
  have big : (allOdds g).length ≤ 256 := by
    have h1 := oddsFrom_len (g := g) (pairs g)
    have h2 := G.pairs16
    have h3 : (pairs g).length * (pairs g).length ≤ 16 * 16 := Nat.mul_le_mul h2 h2
    unfold allOdds
    omega
  simp [T_all_odds_by, N_all_odds_by]
  refine ⟨g, rfl, G, ?_⟩
  simp
  intro a
  rw [enums_map]
  refine for_inv (fun p : Pr × Nat => .tuple [.int (p.2 : Nat), pr p.1]) (fun rest ρ acc => ∃ k done u v w, rest = ((pairs g).drop k).zipIdx k ∧ acc = some (a, done.map od) ∧ ρ = [some (.d (gd g)), some (.d (.list ((pairs g).map pr))), u, v, w, none] ∧ done ++ oddsFrom g ((pairs g).drop k) = allOdds g) (fun x rest ρ acc hI N hN => ?_) (fun ρ acc hI => ?_) _ _ _ ⟨0, [], none, none, none, by simp, by simp, rfl, by simp [allOdds]⟩
  · obtain ⟨k, done, u, v, w, e1, rfl, rfl, e4⟩ := hI
    have hk : k < (pairs g).length := by
      rcases Nat.lt_or_ge k (pairs g).length with z | z
      · exact z
      · rw [List.drop_of_length_le z] at e1; cases e1
    rw [List.drop_eq_getElem_cons hk, List.zipIdx_cons] at e1
    obtain ⟨rfl, rfl⟩ := List.cons.inj e1
    rw [List.drop_eq_getElem_cons hk, oddsFrom, ← List.drop_eq_getElem_cons hk] at e4
    have hm : (pairs g)[k] ∈ pairs g := List.getElem_mem hk
    generalize (pairs g)[k] = p at hm e4 ⊢
    simp
    rw [← List.map_drop]
    refine lc_fil pr (fun q => od (p, q)) (atOdds g p) ((pairs g).drop k) (fun q hq C hC => ?_) ?_
    · simp
      refine ⟨g, p, q, rfl, G, hm, List.mem_of_mem_drop hq, fun z => ?_, fun z x _ _ => ?_⟩
      · simpa [z] using hC
      · simpa [z, nm, od] using hC
    · have hlen : done.length + ((pairs g).drop k |>.filter (atOdds g p)).length ≤ 256 := by
        have := congrArg List.length e4
        rw [List.length_append, List.length_append, List.length_map] at this
        omega
      refine ⟨_, rfl, ?_, ?_⟩
      · simp only [List.length_map]; omega
      · refine hN _ _ rfl ⟨k + 1, done ++ ((pairs g).drop k |>.filter (atOdds g p)).map (fun q => (p, q)), _, _, _, rfl, by simp [Function.comp_def], rfl, ?_⟩
        rw [List.append_assoc]
        exact e4
  · obtain ⟨k, done, u, v, w, e1, rfl, rfl, e4⟩ := hI
    have hk : (pairs g).drop k = [] := by
      cases e : (pairs g).drop k with
      | nil => rfl
      | cons x r => rw [e, List.zipIdx_cons] at e1; cases e1
    rw [hk, oddsFrom, List.append_nil] at e4
    simpa [e4] using h
def sp_needs_by : DSp := fun ss P => ∃ (g : Guild) (h : Nm), ss = [.d (gd g), .d (eN h)] ∧ Good g ∧ h ∈ names g ∧ ∀ R : List NS, (∀ y, y ∈ R ↔ IsMin (needs g h) y) → P (nmS R)
theorem p_needs_by (ss : List SV) (Q : D → Prop) (h : sp_needs_by ss Q) : T_needs_by sp_pairs_in [] sp_falls_by [] sp_lot_at [] sp_less_by [] sp_least_of [] (EE Q) (startS N_needs_by.length ss) none := by
  obtain ⟨g, n, rfl, G, hn, h⟩ := h
  simp [T_needs_by, N_needs_by]
  intro a
  refine ⟨g, rfl, G, ?_⟩
  simp
  refine for_inv pr (fun rest ρ acc => ∃ before done u v, before ++ rest = pairs g ∧ acc = some (a, done.map nm) ∧ ρ = [some (.d (gd g)), some (.d (eN n)), none, u, v] ∧ done.length ≤ 64 * before.length ∧ ∀ x, x ∈ done ↔ ∃ p ∈ before, p.1 ≠ n ∧ ∃ f, IsMax (· ∈ Jn g n p.1) f ∧ x = lessN (lotAt g p) f) (fun p rest ρ acc hI N hN => ?_) (fun ρ acc hI => ?_) _ _ _ ⟨[], [], none, none, by simp, by simp, rfl, by simp, by simp⟩
  · obtain ⟨before, done, u, v, e1, rfl, rfl, e4, e5⟩ := hI
    have hp : p ∈ pairs g := by rw [← e1]; simp
    have e1' : (before ++ [p]) ++ rest = pairs g := by rw [← e1]; simp
    simp [pr]
    by_cases e : p.1 = n
    · simp [e]
      refine hN _ _ rfl ⟨before ++ [p], done, _, _, e1', rfl, rfl, by simp; omega, fun x => ?_⟩
      rw [e5]
      constructor
      · rintro ⟨q, hq, r⟩
        exact ⟨q, List.mem_append_left _ hq, r⟩
      · rintro ⟨q, hq, r1, r⟩
        rcases List.mem_append.mp hq with z | z
        · exact ⟨q, z, r1, r⟩
        · rw [List.mem_singleton.mp z] at r1
          exact absurd e r1
    · simp [e]
      refine ⟨g, n, p.1, rfl, G, hn, pair_house hp, fun R nd mem => ?_⟩
      simp
      have hR : R.length ≤ 64 := by
        have h1 := pigeon R (subs (names g)) nd fun x hx => mem_subs.mpr (G.J_sub hn (pair_house hp) x ((mem x).mp hx).1)
        have h2 := G.subs16
        omega
      refine lc_map nm (fun f => nm (lessN (lotAt g p) f)) R (fun f hf C hC => ?_) ?_
      · simp
        refine ⟨g, p, rfl, G, hp, ?_⟩
        exact ⟨lotAt g p, f, rfl, hC⟩
      · refine ⟨_, rfl, ?_, ?_⟩
        · have hb : before.length ≤ 16 := by
            have h1 := congrArg List.length e1
            have h2 := G.pairs16
            rw [List.length_append] at h1
            omega
          simp only [List.length_map]
          omega
        · refine hN _ _ rfl ⟨before ++ [p], done ++ R.map (lessN (lotAt g p)), _, _, e1', by simp [Function.comp_def], rfl, by simp; omega, fun x => ?_⟩
          rw [List.mem_append, e5, List.mem_map]
          constructor
          · rintro (⟨q, hq, r⟩ | ⟨f, hf, r⟩)
            · exact ⟨q, List.mem_append_left _ hq, r⟩
            · exact ⟨p, by simp, e, f, (mem f).mp hf, r.symm⟩
          · rintro ⟨q, hq, r1, f, r2, r3⟩
            rcases List.mem_append.mp hq with z | z
            · exact .inl ⟨q, z, r1, f, r2, r3⟩
            · rw [List.mem_singleton.mp z] at r2 r3
              exact .inr ⟨f, (mem f).mpr r2, r3.symm⟩
  · obtain ⟨before, done, u, v, e1, rfl, rfl, e4, e5⟩ := hI
    rw [List.append_nil] at e1
    subst e1
    simp
    have e6 : ∀ x, x ∈ done ↔ needs g n x := e5
    refine ⟨_, done, rfl, .inr rfl, G.few fun x hx => ?_, fun R nd mem => h R fun y => ?_⟩
    · obtain ⟨p, hp, _, f, _, r⟩ := (e6 x).mp hx
      rw [r]
      exact List.filter_sublist.trans (G.lot_sub hp).1
    · rw [mem]
      exact ⟨fun q => ⟨(e6 y).mp q.1, fun z hz => q.2 z ((e6 z).mpr hz)⟩, fun q => ⟨(e6 y).mpr q.1, fun z hz => q.2 z ((e6 z).mp hz)⟩⟩
end Ao
set_option Elab.async false
set_option autoImplicit false
set_option linter.all false
set_option maxRecDepth 100000
set_option maxHeartbeats 2000000
namespace Ao
open PySem PySem.Spec PyProof.Rows L2
theorem fAll_t {α : Type} {xs : List α} {P : D → Prop} (h : P (.bool true)) : fAll (.list (xs.map fun _ => .bool true)) P := by
  refine fAll_of (p := fun _ => true) ?_
  have e : xs.all (fun _ => true) = true := List.all_eq_true.mpr fun _ _ => rfl
  rw [e]; exact h
theorem fEq_int {i j : Int} {P : D → Prop} : fEq (.int i) (.int j) P ↔ P (.bool (i == j)) := by simp [fEq, SeqAt.shaped, PyData.canLay0, PyData.depth, PyData.eqv]
theorem fEq_str {x y : Str} {P : D → Prop} (hx : PyData.strOk x = true) (hy : PyData.strOk y = true) : fEq (.str x) (.str y) P ↔ P (.bool (x == y)) := by simp [fEq, SeqAt.shaped, PyData.canLay0, PyData.depth, PyData.eqv, hx, hy]
def sp_is_integer : DSp := fun ss P => ∃ i : Int, ss = [.d (.int i)] ∧ P (.bool true)
theorem p_is_integer (ss : List SV) (Q : D → Prop) (h : sp_is_integer ss Q) : T_is_integer (EE Q) (startS N_is_integer.length ss) none := by
  obtain ⟨i, rfl, h⟩ := h
  simpa [T_is_integer, N_is_integer] using h
def sp_is_number : DSp := fun ss P => ∃ i : Int, ss = [.d (.int i)] ∧ 0 ≤ i ∧ P (.bool true)
theorem p_is_number (ss : List SV) (Q : D → Prop) (h : sp_is_number ss Q) : T_is_number sp_is_integer [] (EE Q) (startS N_is_number.length ss) none := by
  obtain ⟨i, rfl, hi, h⟩ := h
  simp [T_is_number, N_is_number]
  exact ⟨i, rfl, by simpa [hi] using h⟩
def sp_is_index : DSp := fun ss P => ∃ i n : Int, ss = [.d (.int i), .d (.int n)] ∧ 0 ≤ i ∧ i < n ∧ P (.bool true)
theorem p_is_index (ss : List SV) (Q : D → Prop) (h : sp_is_index ss Q) : T_is_index sp_is_number [] (EE Q) (startS N_is_index.length ss) none := by
  obtain ⟨i, n, rfl, hi, hn, h⟩ := h
  simp [T_is_index, N_is_index]
  exact ⟨i, rfl, hi, by simpa [hn] using h⟩
theorem isIt_eN {a : Nm} : isIt (eN a) "str" = true := rfl
def sp_is_among : DSp := fun ss P => ∃ (a : Nm) (l : NS), ss = [.d (eN a), .d (nm l)] ∧ a ∈ l ∧ P (.bool true)
theorem p_is_among (ss : List SV) (Q : D → Prop) (h : sp_is_among ss Q) : T_is_among (EE Q) (startS N_is_among.length ss) none := by
  obtain ⟨a, l, rfl, hm, h⟩ := h
  simpa [T_is_among, N_is_among, isIt_eN, hm] using h
def alph : Str := Str.ofString "abcdefghijklmnopqrstuvwxyz"
def isNm (x : Str) : Bool := PyData.strOk x && (x != Str.ofString "any" && (decide (1 ≤ x.length) && (decide (x.length ≤ 8) && x.cps.toList.all fun c => decide (c ∈ alph.cps.toList))))
theorem any_ok : PyData.strOk (Str.ofString "any") = true := by decide +kernel
def sp_is_name : DSp := fun ss P => ∃ x : Str, ss = [.d (.str x)] ∧ isNm x = true ∧ P (.bool true)
theorem p_is_name (ss : List SV) (Q : D → Prop) (h : sp_is_name ss Q) : T_is_name (EE Q) (startS N_is_name.length ss) none := by
  obtain ⟨x, rfl, hx, h⟩ := h
  simp only [isNm, Bool.and_eq_true, decide_eq_true_eq, bne_iff_ne, List.all_eq_true] at hx
  obtain ⟨h1, h2, h3, h4, h5⟩ := hx
  have e1 : fLen (.str x) = fun P => P (.int x.length) := by
    funext P
    simp [fLen, Seq]
    intro _; omega
  simp [T_is_name, N_is_name]
  rw [fEq_str h1 any_ok]
  simp [h2, e1]
  have e2 : (1 : Int) ≤ x.length := by omega
  have e3 : (x.length : Int) ≤ 8 := by omega
  simp [e2, e3]
  refine .inr (.inr ⟨by omega, ?_⟩)
  refine lc_map (fun c : Nat => PyData.str ⟨#[c]⟩) (fun c => .bool true) x.cps.toList (fun c hc C hC => ?_) (fAll_t h)
  simp
  refine ⟨c, alph, rfl, rfl, ?_⟩
  have := h5 c hc
  simpa [this] using hC
theorem eN_name : ∀ a : Nm, isNm (sN a) = true := by decide +kernel
def sp_is_tuple_of : DSp := fun ss P => ∃ (xs : List D) (n : Int), ss = [.d (.tuple xs), .d (.int n)] ∧ n = xs.length ∧ P (.bool true)
theorem p_is_tuple_of (ss : List SV) (Q : D → Prop) (h : sp_is_tuple_of ss Q) : T_is_tuple_of (EE Q) (startS N_is_tuple_of.length ss) none := by
  obtain ⟨xs, n, rfl, hn, h⟩ := h
  subst hn
  simpa [T_is_tuple_of, N_is_tuple_of, fEq_int] using h
def sp_is_pair : DSp := fun ss P => ∃ x y : D, ss = [.d (.tuple [x, y])] ∧ P (.bool true)
theorem p_is_pair (ss : List SV) (Q : D → Prop) (h : sp_is_pair ss Q) : T_is_pair sp_is_tuple_of [] (EE Q) (startS N_is_pair.length ss) none := by
  obtain ⟨x, y, rfl, h⟩ := h
  simp [T_is_pair, N_is_pair]
  exact ⟨_, _, rfl, rfl, h⟩
/-- one behind another -/
inductive Chain (r : D → D → Prop) : List D → Prop
  | nil : Chain r []
  | one (x : D) : Chain r [x]
  | cons {x y : D} {l : List D} : r x y → Chain r (y :: l) → Chain r (x :: y :: l)
theorem Chain.of {r : D → D → Prop} : ∀ {l : List D}, l.Pairwise r → Chain r l
  | [], _ => .nil
  | [x], _ => .one x
  | x :: y :: l, h => .cons ((List.pairwise_cons.mp h).1 y List.mem_cons_self) (Chain.of (List.pairwise_cons.mp h).2)
theorem Chain.zip {r : D → D → Prop} : ∀ {l : List D}, Chain r l → ∀ p ∈ l.zip (l.drop 1), r p.1 p.2
  | _, .nil, p, h => by cases h
  | _, .one x, p, h => by cases h
  | x :: y :: l, .cons h1 h2, p, h => by
    rw [List.drop_one, List.tail_cons, List.zip_cons_cons] at h
    rcases List.mem_cons.mp h with e | h
    · rw [e]; exact h1
    · exact Chain.zip h2 p (by rw [List.drop_one, List.tail_cons]; exact h)
def Lt1 (x y : D) : Prop := PySem.W.alike x y = true ∧ x ≠ .none ∧ x.depth ≤ 60 ∧ PySem.W.dataLt x y = true
def sp_are_rising : DSp := fun ss P => ∃ ds : List D, ss = [.d (.tuple ds)] ∧ Chain Lt1 ds ∧ P (.bool true)
theorem p_are_rising (ss : List SV) (Q : D → Prop) (h : sp_are_rising ss Q) : T_are_rising (EE Q) (startS N_are_rising.length ss) none := by
  obtain ⟨ds, rfl, hc, h⟩ := h
  have e1 : ∀ P, fFrom (.tuple ds) (.int 1) P ↔ P (.tuple (ds.drop 1)) := fun P => fFrom_tup (n := 1)
  simp only [T_are_rising, N_are_rising, dRet_eq, dB_eq, dLc_eq, iZp_eq, dN_eq, d2_eq, dC_eq]
  simp [e1]
  refine ⟨ds, ds.drop 1, ⟨rfl, by simp⟩, ?_⟩
  have e2 : List.zipWith (fun x y => PyData.tuple [x, y]) ds (ds.drop 1) = (ds.zip (ds.drop 1)).map fun p => .tuple [p.1, p.2] := by
    rw [List.zip, List.map_zipWith]
  rw [e2]
  refine lc_map (fun p : D × D => PyData.tuple [p.1, p.2]) (fun p => .bool true) _ (fun p hp C hC => ?_) (fAll_t h)
  have := hc.zip p hp
  simp
  exact ⟨this.1, this.2.1, this.2.2.1, by rw [this.2.2.2]; exact hC⟩
theorem lt_eN {a b : Nm} (h : a < b) : Lt1 (eN a) (eN b) := by
  refine ⟨rfl, by simp [eN], Nat.zero_le _, ?_⟩
  show PySem.W.dataLt (.str _) (.str _) = true
  rw [PySem.W.dataLt_str]
  have := sN_lt a b
  rw [this]
  exact decide_eq_true h
theorem lt_nm {a b : NS} (h : ltNS a b) : Lt1 (nm a) (nm b) := ⟨nm_alike a b, by simp [nm], Nat.le_trans (nm_shp a).2 (by decide), h⟩
def sp_is_names : DSp := fun ss P => ∃ xs : List Str, ss = [.d (.tuple (xs.map .str))] ∧ (∀ x ∈ xs, isNm x = true) ∧ Chain Lt1 (xs.map .str) ∧ P (.bool true)
theorem p_is_names (ss : List SV) (Q : D → Prop) (h : sp_is_names ss Q) : T_is_names sp_is_name [] sp_are_rising [] (EE Q) (startS N_is_names.length ss) none := by
  obtain ⟨xs, rfl, hx, hc, h⟩ := h
  simp [T_is_names, N_is_names]
  refine lc_map PyData.str (fun c => .bool true) xs (fun x hm C hC => ?_) (fAll_t ?_)
  · simp
    exact ⟨x, rfl, hx x hm, hC⟩
  · simp
    exact ⟨_, rfl, hc, h⟩
def sp_is_names_among : DSp := fun ss P => ∃ (l m : NS) (y : D), ss = [.d (nm l), .d y] ∧ (y = nm m ∨ y = nmL m) ∧ l.Pairwise (· < ·) ∧ (∀ x ∈ l, x ∈ m) ∧ P (.bool true)
theorem p_is_names_among (ss : List SV) (Q : D → Prop) (h : sp_is_names_among ss Q) : T_is_names_among sp_is_names [] (EE Q) (startS N_is_names_among.length ss) none := by
  obtain ⟨l, m, y, rfl, hy, up, hm, h⟩ := h
  simp [T_is_names_among, N_is_names_among]
  refine ⟨l.map sN, by simp [nm, eN, Function.comp_def], fun x hx => ?_, ?_, ?_⟩
  · obtain ⟨a, _, rfl⟩ := List.mem_map.mp hx
    exact eN_name a
  · rw [List.map_map]
    exact Chain.of (List.pairwise_map.mpr (up.imp fun q => lt_eN q))
  · simp
    refine lc_map eN (fun c => .bool true) l (fun x hx C hC => ?_) (fAll_t h)
    rcases hy with e | e
    · subst e; simpa [hm x hx] using hC
    · subst e; simpa [hm x hx] using hC
def sp_are_sets_among : DSp := fun ss P => ∃ (L : List NS) (m : NS), ss = [.d (nmS L), .d (nmL m)] ∧ L ≠ [] ∧ L.Pairwise ltNS ∧ (∀ l ∈ L, l.Pairwise (· < ·) ∧ ∀ x ∈ l, x ∈ m) ∧ P (.bool true)
theorem isIt_nmS {L : List NS} : isIt (nmS L) "tuple" = true := rfl
theorem p_are_sets_among (ss : List SV) (Q : D → Prop) (h : sp_are_sets_among ss Q) : T_are_sets_among sp_is_names_among [] sp_are_rising [] (EE Q) (startS N_are_sets_among.length ss) none := by
  obtain ⟨L, m, rfl, ne, up, hm, h⟩ := h
  have hl : (L.length : Int) ≠ 0 := by
    have := List.length_pos_iff.mpr ne
    omega
  simp [T_are_sets_among, N_are_sets_among, isIt_nmS, fEq_int, ne]
  refine lc_map nm (fun c => .bool true) L (fun l hl C hC => ?_) (fAll_t ?_)
  · simp
    exact ⟨l, m, _, rfl, .inr rfl, (hm l hl).1, (hm l hl).2, hC⟩
  · simp
    exact ⟨L.map nm, rfl, Chain.of (List.pairwise_map.mpr (up.imp fun q => lt_nm q)), h⟩
def sp_are_indexes : DSp := fun ss P => ∃ (r : List Int) (n k : Int), ss = [.d (.tuple (r.map .int)), .d (.int n), .d (.int k)] ∧ n = r.length ∧ (∀ i ∈ r, 0 ≤ i ∧ i < k) ∧ P (.bool true)
theorem p_are_indexes (ss : List SV) (Q : D → Prop) (h : sp_are_indexes ss Q) : T_are_indexes sp_is_tuple_of [] sp_is_index [] (EE Q) (startS N_are_indexes.length ss) none := by
  obtain ⟨r, n, k, rfl, hn, hr, h⟩ := h
  simp [T_are_indexes, N_are_indexes]
  refine ⟨r.map .int, n, rfl, by simpa using hn, ?_⟩
  simp
  refine lc_map PyData.int (fun c => .bool true) r (fun i hi C hC => ?_) (fAll_t h)
  simp
  exact ⟨i, k, rfl, (hr i hi).1, (hr i hi).2, hC⟩
def sp_are_numbers : DSp := fun ss P => ∃ (r : List Int) (n : Int), ss = [.d (.tuple (r.map .int)), .d (.int n)] ∧ n = r.length ∧ (∀ i ∈ r, 0 ≤ i) ∧ P (.bool true)
theorem p_are_numbers (ss : List SV) (Q : D → Prop) (h : sp_are_numbers ss Q) : T_are_numbers sp_is_tuple_of [] sp_is_number [] (EE Q) (startS N_are_numbers.length ss) none := by
  obtain ⟨r, n, rfl, hn, hr, h⟩ := h
  simp [T_are_numbers, N_are_numbers]
  refine ⟨r.map .int, n, rfl, by simpa using hn, ?_⟩
  simp
  refine lc_map PyData.int (fun c => .bool true) r (fun i hi C hC => ?_) (fAll_t h)
  simp
  exact ⟨i, rfl, hr i hi, hC⟩
end Ao
set_option Elab.async false
set_option autoImplicit false
set_option linter.all false
set_option maxRecDepth 100000
set_option maxHeartbeats 2000000
namespace Ao
open PySem PySem.Spec PyProof.Rows L2
@[simp] theorem tuple_of_iff {xs : List D} {n : Int} {P : D → Prop} : sp_is_tuple_of [.d (.tuple xs), .d (.int n)] P ↔ n = xs.length ∧ P (.bool true) := ⟨fun ⟨_, _, e, h1, h2⟩ => by cases e; exact ⟨h1, h2⟩, fun ⟨h1, h2⟩ => ⟨_, _, rfl, h1, h2⟩⟩
/-! ### the machine -/
structure Mach where
  L : List Str
  K : List Str
  mv : List (List Int)
  an : List (List Int)
def rowI (r : List Int) : D := .tuple (r.map .int)
def mach (M : Mach) : D := .tuple [.tuple (M.L.map .str), .tuple (M.K.map .str), .tuple (M.mv.map rowI), .tuple (M.an.map rowI)]
structure MachOk (M : Mach) : Prop where
  l1 : ∀ x ∈ M.L, isNm x = true
  l2 : Chain Lt1 (M.L.map .str)
  l3 : 2 ≤ M.L.length
  k1 : ∀ x ∈ M.K, isNm x = true
  k2 : Chain Lt1 (M.K.map .str)
  k3 : 1 ≤ M.K.length
  m1 : 1 ≤ M.mv.length
  m2 : ∀ r ∈ M.mv, r.length = M.L.length ∧ ∀ i ∈ r, 0 ≤ i ∧ i < M.mv.length
  a1 : M.an.length = M.mv.length
  a2 : ∀ r ∈ M.an, r.length = M.K.length ∧ ∀ i ∈ r, 0 ≤ i
def sp_machine_fault : DSp := fun ss P => ∃ M, ss = [.d (mach M)] ∧ MachOk M ∧ P .none
theorem p_machine_fault (ss : List SV) (Q : D → Prop) (h : sp_machine_fault ss Q) : T_machine_fault sp_is_tuple_of [] sp_is_names [] sp_are_indexes [] sp_are_numbers [] (EE Q) (startS N_machine_fault.length ss) none := by
  obtain ⟨M, rfl, O, h⟩ := h
  have l3 : ¬ (M.L.length : Int) < 2 := by have := O.l3; omega
  have k3 : ¬ (M.K.length : Int) < 1 := by have := O.k3; omega
  have m1 : M.mv ≠ [] := fun e => by have := O.m1; rw [e] at this; simp at this
  have a1 := O.a1
  simp [T_machine_fault, N_machine_fault, mach]
  refine ⟨M.L, rfl, O.l1, O.l2, ?_⟩
  simp [l3]
  refine ⟨by have := O.l3; omega, M.K, rfl, O.k1, O.k2, ?_⟩
  simp [k3, fEq_int, m1]
  rw [enums_map]
  refine ⟨by have := O.k3; omega, ?_⟩
  refine for_inv (fun p : List Int × Nat => .tuple [.int (p.2 : Nat), rowI p.1]) (fun rest ρ acc => acc = none ∧ (∃ u v, ρ = [some (.d (.tuple [.tuple (M.L.map .str), .tuple (M.K.map .str), .tuple (M.mv.map rowI), .tuple (M.an.map rowI)])), some (.d (.tuple (M.L.map .str))), some (.d (.tuple (M.K.map .str))), some (.d (.tuple (M.mv.map rowI))), some (.d (.tuple (M.an.map rowI))), u, v, none]) ∧ ∀ p ∈ rest, p.1 ∈ M.mv) (fun x rest ρ acc hI N hN => ?_) (fun ρ acc hI => ?_) _ _ _ ⟨rfl, ⟨_, _, rfl⟩, fun p hp => (List.mem_zipIdx' hp).2 ▸ List.getElem_mem _⟩
  · obtain ⟨rfl, ⟨u, v, rfl⟩, hm⟩ := hI
    have o := O.m2 x.1 (hm x List.mem_cons_self)
    simp
    refine ⟨x.1, _, _, rfl, by omega, o.2, ?_⟩
    simp
    exact hN _ _ rfl ⟨rfl, ⟨_, _, rfl⟩, fun p hp => hm p (List.mem_cons_of_mem _ hp)⟩
  · obtain ⟨rfl, ⟨u, v, rfl⟩, _⟩ := hI
    simp [a1]
    rw [enums_map]
    refine for_inv (fun p : List Int × Nat => .tuple [.int (p.2 : Nat), rowI p.1]) (fun rest ρ acc => acc = none ∧ (∃ u v w, ρ = [some (.d (.tuple [.tuple (M.L.map .str), .tuple (M.K.map .str), .tuple (M.mv.map rowI), .tuple (M.an.map rowI)])), some (.d (.tuple (M.L.map .str))), some (.d (.tuple (M.K.map .str))), some (.d (.tuple (M.mv.map rowI))), some (.d (.tuple (M.an.map rowI))), u, v, w]) ∧ ∀ p ∈ rest, p.1 ∈ M.an) (fun x rest ρ acc hI N hN => ?_) (fun ρ acc hI => ?_) _ _ _ ⟨rfl, ⟨_, _, _, rfl⟩, fun p hp => (List.mem_zipIdx' hp).2 ▸ List.getElem_mem _⟩
    · obtain ⟨rfl, ⟨u, v, w, rfl⟩, hm⟩ := hI
      have o := O.a2 x.1 (hm x List.mem_cons_self)
      simp
      refine ⟨x.1, _, rfl, by omega, o.2, ?_⟩
      simp
      exact hN _ _ rfl ⟨rfl, ⟨_, _, _, rfl⟩, fun p hp => hm p (List.mem_cons_of_mem _ hp)⟩
    · obtain ⟨rfl, ⟨u, v, w, rfl⟩, _⟩ := hI
      simpa using h
/-! ### the trust -/
def sp_is_triple_from : DSp := fun ss P => ∃ r : House, ss = [.d (tri r)] ∧ P (.bool true)
theorem p_is_triple_from (ss : List SV) (Q : D → Prop) (h : sp_is_triple_from ss Q) : T_is_triple_from sp_is_tuple_of [] sp_is_name [] (EE Q) (startS N_is_triple_from.length ss) none := by
  obtain ⟨r, rfl, h⟩ := h
  simp [T_is_triple_from, N_is_triple_from, tri]
  exact ⟨sN r.1, rfl, eN_name r.1, h⟩
theorem isIt_gd {g : Guild} : isIt (gd g) "tuple" = true := rfl
theorem up_of {l m : NS} (h : l.Sublist m) (up : m.Pairwise (· < ·)) : l.Pairwise (· < ·) := up.sublist h
def sp_trust_fault : DSp := fun ss P => ∃ g : Guild, ss = [.d (gd g)] ∧ Good g ∧ P .none
theorem p_trust_fault (ss : List SV) (Q : D → Prop) (h : sp_trust_fault ss Q) : T_trust_fault sp_is_triple_from [] sp_are_sets_among [] (EE Q) (startS N_trust_fault.length ss) none := by
  obtain ⟨g, rfl, G, h⟩ := h
  have ne : g ≠ [] := fun e => by have := G.two; rw [e] at this; simp at this
  have fl : ∀ P, fLen (gd g) P ↔ P (.int g.length) := fun P => by simp [gd]
  simp [T_trust_fault, N_trust_fault, isIt_gd, fl, fEq_int, ne]
  simp only [gd, PyData.tuple.injEq, exists_eq_left', enums_map]
  refine for_inv (fun p : House × Nat => .tuple [.int (p.2 : Nat), tri p.1]) (fun rest ρ acc => acc = none ∧ (∃ u v, ρ = [some (.d (.tuple (g.map tri))), u, v, none, none, none, none, none]) ∧ ∃ k, rest = (g.drop k).zipIdx k) (fun x rest ρ acc hI N hN => ?_) (fun ρ acc hI => ?_) _ _ _ ⟨rfl, ⟨_, _, rfl⟩, 0, rfl⟩
  · obtain ⟨rfl, ⟨u, v, rfl⟩, k, e1⟩ := hI
    have hk : k < g.length := by
      rcases Nat.lt_or_ge k g.length with z | z
      · exact z
      · rw [List.drop_of_length_le z] at e1; cases e1
    rw [List.drop_eq_getElem_cons hk, List.zipIdx_cons] at e1
    obtain ⟨rfl, rfl⟩ := List.cons.inj e1
    simp
    refine ⟨_, rfl, ?_⟩
    simp
    rcases Nat.eq_zero_or_pos k with z | z
    · subst z
      simp
      exact hN _ _ rfl ⟨rfl, ⟨_, _, rfl⟩, 1, rfl⟩
    · have e3 : ((k : Int) - 1) = ((k - 1 : Nat) : Int) := by omega
      have hk1 : k - 1 < g.length := by omega
      have lt : g[k - 1].1 < g[k].1 := by
        have := List.pairwise_iff_getElem.mp G.up (k - 1) k (by simpa [names] using hk1) (by simpa [names] using hk) (by omega)
        simpa [names] using this
      simp [z, e3, tri, hk1, List.getElem?_eq_getElem]
      refine .inr ⟨sN g[k].1, sN g[k - 1].1, rfl, rfl, ?_⟩
      have := sN_lt g[k - 1].1 g[k].1
      simp only [lt, decide_true] at this
      simp [of_decide_eq_true this]
      exact hN _ _ rfl ⟨rfl, ⟨_, _, rfl⟩, k + 1, rfl⟩
  · obtain ⟨rfl, ⟨u, v, rfl⟩, _⟩ := hI
    simp
    refine lc_map tri (fun r => eN r.1) g (fun r hr C hC => by simpa [tri] using hC) ?_
    have eL : PyData.list (g.map fun r => eN r.1) = nmL (names g) := by simp [nmL, names, Function.comp_def]
    rw [eL]
    simp only [enums_map]
    refine for_inv (fun p : House × Nat => .tuple [.int (p.2 : Nat), tri p.1]) (fun rest ρ acc => acc = none ∧ (∃ u v w x y, ρ = [some (.d (.tuple (g.map tri))), u, v, some (.d (nmL (names g))), w, x, y, none]) ∧ ∀ p ∈ rest, p.1 ∈ g) (fun x rest ρ acc hI N hN => ?_) (fun ρ acc hI => ?_) _ _ _ ⟨rfl, ⟨_, _, _, _, _, rfl⟩, fun p hp => (List.mem_zipIdx' hp).2 ▸ List.getElem_mem _⟩
    · obtain ⟨rfl, ⟨u, v, w, x', y, rfl⟩, hm⟩ := hI
      have hr := hm x List.mem_cons_self
      have gl := G.lots x.1 hr
      have gf := G.fears x.1 hr
      simp [tri]
      refine ⟨x.1.2.1, names g, rfl, gl.1, gl.2.1, fun l hl => ⟨up_of (gl.2.2 l hl).2 G.up, (gl.2.2 l hl).2.subset⟩, ?_⟩
      have e0 : ([] : List D).map id = [] := rfl
      have nin : x.1.2.1.contains [] = false := by
        rw [Bool.eq_false_iff]
        intro c
        exact (gl.2.2 [] (List.contains_iff_mem.mp c)).1 rfl
      have fi : ∀ P, fIn (.tuple []) (nmS x.1.2.1) P ↔ P (.bool false) := fun P => by
        have := fIn_nmS (P := P) (l := []) (L := x.1.2.1)
        rw [nin] at this
        exact this
      simp [fi]
      refine lc_fil eN eN (fun n => n != x.1.1) (names g) (fun n hn C hC => ?_) ?_
      · simp
        by_cases hb : n = x.1.1 <;> simp [hb] at hC ⊢ <;> exact hC
      · refine ⟨x.1.2.2, (names g).filter (· != x.1.1), rfl, gf.1, gf.2.1, fun l hl => ⟨up_of (gf.2.2 l hl) (G.up.filter _), (gf.2.2 l hl).subset⟩, ?_⟩
        simp
        exact hN _ _ rfl ⟨rfl, ⟨_, _, _, _, _, rfl⟩, fun p hp => hm p (List.mem_cons_of_mem _ hp)⟩
    · obtain ⟨rfl, ⟨u, v, w, x', y, rfl⟩, hm⟩ := hI
      simpa using h
end Ao
set_option Elab.async false
set_option autoImplicit false
set_option linter.all false
set_option maxRecDepth 100000
set_option maxHeartbeats 2000000
namespace Ao
open PySem PySem.Spec PyProof.Rows L2
abbrev E0t : D := .tuple []
@[simp] theorem enums_nil : enums [] = [] := rfl
@[simp] theorem forW_nil {Tg : GD} {Tb : DS} {E : DEnds} {a0 : Option Addr} {ρ : SS} {acc : Acc} : forW Tg Tb E a0 [] ρ acc ↔ E.nx ρ acc := Iff.rfl
@[simp] theorem lcW_nil {Tg : GD} {Tt : TB} {Te : TD} {acc : List D} {ρ : SS} {P : D → Prop} : lcW Tg Tt Te [] acc ρ P ↔ P (.list acc) := Iff.rfl
def sp_order_fault : DSp := fun ss P => ∃ x : D, ss = [.d x, .d E0t] ∧ P .none
theorem p_order_fault (ss : List SV) (Q : D → Prop) (h : sp_order_fault ss Q) : T_order_fault (EE Q) (startS N_order_fault.length ss) none := by
  obtain ⟨x, rfl, h⟩ := h
  simpa [T_order_fault, N_order_fault] using h
def spU_gaps_by : List SV → Prop := fun ss => ss = [.d E0t]
def sp_triangle_fault : DSp := fun ss P => ss = [.d E0t] ∧ P .none
theorem p_triangle_fault (ss : List SV) (Q : D → Prop) (h : sp_triangle_fault ss Q) : T_triangle_fault spU_gaps_by (EE Q) (startS N_triangle_fault.length ss) none := by
  obtain ⟨rfl, h⟩ := h
  simp [T_triangle_fault, N_triangle_fault, spU_gaps_by]
  refine ⟨[], .inl rfl, ⟨fun d hd => (nomatch hd), fun d hd => (nomatch hd)⟩, ⟨[], by decide, fun d hd => (nomatch hd)⟩, fun zs mem _ _ => ?_⟩
  have : zs = [] := by
    cases zs with
    | nil => rfl
    | cons z r => have := (mem z).mp List.mem_cons_self; cases this
  subst this
  simpa using h
def sp_clocks_fault : DSp := fun ss P => ∃ x : D, ss = [.d x, .d E0t] ∧ P .none
theorem p_clocks_fault (ss : List SV) (Q : D → Prop) (h : sp_clocks_fault ss Q) : T_clocks_fault sp_order_fault [] sp_triangle_fault [] (EE Q) (startS N_clocks_fault.length ss) none := by
  obtain ⟨x, rfl, h⟩ := h
  simp [T_clocks_fault, N_clocks_fault]
  refine ⟨x, rfl, ?_⟩
  simp
  refine ⟨rfl, ?_⟩
  simpa using h
def sp_rules_fault : DSp := fun ss P => ∃ x y : D, ss = [.d x, .d y, .d E0t, .d E0t] ∧ P .none
theorem p_rules_fault (ss : List SV) (Q : D → Prop) (h : sp_rules_fault ss Q) : T_rules_fault (EE Q) (startS N_rules_fault.length ss) none := by
  obtain ⟨x, y, rfl, h⟩ := h
  simpa [T_rules_fault, N_rules_fault] using h
/-- a book without rules -/
def bk (M : Mach) (g : Guild) : D := .tuple [mach M, gd g, E0t, E0t, E0t]
def sp_parts_fault : DSp := fun ss P => ∃ M g, ss = [.d (bk M g)] ∧ MachOk M ∧ Good g ∧ P .none
theorem p_parts_fault (ss : List SV) (Q : D → Prop) (h : sp_parts_fault ss Q) : T_parts_fault sp_is_tuple_of [] sp_machine_fault [] sp_trust_fault [] sp_clocks_fault [] sp_rules_fault [] (EE Q) (startS N_parts_fault.length ss) none := by
  obtain ⟨M, g, rfl, O, G, h⟩ := h
  simp [T_parts_fault, N_parts_fault, bk]
  refine ⟨M, rfl, O, ?_⟩
  simp
  refine ⟨g, rfl, G, ?_⟩
  simp
  refine lc_map tri (fun r => eN r.1) g (fun r hr C hC => by simpa [tri] using hC) ?_
  refine ⟨_, rfl, ?_⟩
  simp
  exact ⟨_, _, rfl, h⟩
def sp_is_trust : DSp := fun ss P => ∃ g, ss = [.d (gd g)] ∧ Good g ∧ P (.bool true)
theorem p_is_trust (ss : List SV) (Q : D → Prop) (h : sp_is_trust ss Q) : T_is_trust sp_trust_fault [] (EE Q) (startS N_is_trust.length ss) none := by
  obtain ⟨g, rfl, G, h⟩ := h
  simp [T_is_trust, N_is_trust]
  exact ⟨g, rfl, G, by simpa using h⟩
def sp_is_book : DSp := fun ss P => ∃ M g, ss = [.d (bk M g)] ∧ MachOk M ∧ Good g ∧ P (.bool true)
theorem p_is_book (ss : List SV) (Q : D → Prop) (h : sp_is_book ss Q) : T_is_book sp_parts_fault [] (EE Q) (startS N_is_book.length ss) none := by
  obtain ⟨M, g, rfl, O, G, h⟩ := h
  simp [T_is_book, N_is_book]
  exact ⟨M, g, rfl, O, G, by simpa using h⟩
def sp_is_house_of : DSp := fun ss P => ∃ (g : Guild) (a : Nm), ss = [.d (gd g), .d (eN a)] ∧ a ∈ names g ∧ P (.bool true)
theorem p_is_house_of (ss : List SV) (Q : D → Prop) (h : sp_is_house_of ss Q) : T_is_house_of sp_houses_in [] sp_is_among [] (EE Q) (startS N_is_house_of.length ss) none := by
  obtain ⟨g, a, rfl, ha, h⟩ := h
  simp [T_is_house_of, N_is_house_of]
  exact ⟨g, rfl, a, names g, rfl, ha, h⟩
def sp_are_houses_of : DSp := fun ss P => ∃ (g : Guild) (l : NS), ss = [.d (gd g), .d (nm l)] ∧ l.Pairwise (· < ·) ∧ (∀ x ∈ l, x ∈ names g) ∧ P (.bool true)
theorem p_are_houses_of (ss : List SV) (Q : D → Prop) (h : sp_are_houses_of ss Q) : T_are_houses_of sp_houses_in [] sp_is_names_among [] (EE Q) (startS N_are_houses_of.length ss) none := by
  obtain ⟨g, l, rfl, up, hm, h⟩ := h
  simp [T_are_houses_of, N_are_houses_of]
  exact ⟨g, rfl, l, names g, _, rfl, .inl rfl, up, hm, h⟩
def sp_is_pair_of : DSp := fun ss P => ∃ (g : Guild) (p : Pr), ss = [.d (gd g), .d (pr p)] ∧ Good g ∧ p ∈ pairs g ∧ P (.bool true)
theorem p_is_pair_of (ss : List SV) (Q : D → Prop) (h : sp_is_pair_of ss Q) : T_is_pair_of sp_is_pair [] sp_is_house_of [] sp_lots_of [] sp_is_index [] (EE Q) (startS N_is_pair_of.length ss) none := by
  obtain ⟨g, p, rfl, G, hp, h⟩ := h
  have hl : p.2 < (lotsOf g p.1).length := (List.getElem?_eq_some_iff.mp (pair_lot G.nd hp)).1
  simp [T_is_pair_of, N_is_pair_of, pr]
  refine ⟨_, _, rfl, ?_⟩
  simp
  refine ⟨g, p.1, rfl, pair_house hp, ?_⟩
  simp
  refine ⟨g, p.1, rfl, G, pair_house hp, ?_⟩
  simp
  exact ⟨_, _, rfl, by omega, by omega, h⟩
def sp_want : DSp := fun ss P => ∃ x y, ss = [.d (.bool true), .d x, .d y] ∧ P .none
theorem p_want (ss : List SV) (Q : D → Prop) (h : sp_want ss Q) : T_want (EE Q) (startS N_want.length ss) none := by
  obtain ⟨x, y, rfl, h⟩ := h
  simpa [T_want, N_want] using h
abbrev dWant : List SV := [.d (.int (-1))]
def sp_want_book : DSp := fun ss P => ∃ M g x, ss = [.d (bk M g), .d x] ∧ MachOk M ∧ Good g ∧ P .none
theorem p_want_book (ss : List SV) (Q : D → Prop) (h : sp_want_book ss Q) : T_want_book sp_is_book [] sp_want dWant (EE Q) (startS N_want_book.length ss) none := by
  obtain ⟨M, g, x, rfl, O, G, h⟩ := h
  simp [T_want_book, N_want_book]
  exact ⟨M, g, rfl, O, G, _, _, rfl, h⟩
def sp_want_age : DSp := fun ss P => ∃ M g, ss = [.d (bk M g), .d (.int 0)] ∧ P .none
theorem p_want_age (ss : List SV) (Q : D → Prop) (h : sp_want_age ss Q) : T_want_age sp_is_number [] sp_want dWant (EE Q) (startS N_want_age.length ss) none := by
  obtain ⟨M, g, rfl, h⟩ := h
  simp [T_want_age, N_want_age]
  refine ⟨0, rfl, by decide, ?_⟩
  simp [fEq_int]
  exact ⟨_, _, rfl, h⟩
def sp_want_trust : DSp := fun ss P => ∃ g x, ss = [.d (gd g), .d x] ∧ Good g ∧ P .none
theorem p_want_trust (ss : List SV) (Q : D → Prop) (h : sp_want_trust ss Q) : T_want_trust sp_is_trust [] sp_want dWant (EE Q) (startS N_want_trust.length ss) none := by
  obtain ⟨g, x, rfl, G, h⟩ := h
  simp [T_want_trust, N_want_trust]
  exact ⟨g, rfl, G, _, _, rfl, h⟩
def sp_want_house : DSp := fun ss P => ∃ (g : Guild) (a : Nm) (x : D), ss = [.d (gd g), .d (eN a), .d x] ∧ a ∈ names g ∧ P .none
theorem p_want_house (ss : List SV) (Q : D → Prop) (h : sp_want_house ss Q) : T_want_house sp_is_house_of [] sp_want dWant (EE Q) (startS N_want_house.length ss) none := by
  obtain ⟨g, a, x, rfl, ha, h⟩ := h
  simp [T_want_house, N_want_house]
  exact ⟨g, a, rfl, ha, _, _, rfl, h⟩
def sp_want_lot : DSp := fun ss P => ∃ (g : Guild) (l : NS) (x : D), ss = [.d (gd g), .d (nm l), .d x] ∧ l.Pairwise (· < ·) ∧ (∀ x ∈ l, x ∈ names g) ∧ P .none
theorem p_want_lot (ss : List SV) (Q : D → Prop) (h : sp_want_lot ss Q) : T_want_lot sp_are_houses_of [] sp_want dWant (EE Q) (startS N_want_lot.length ss) none := by
  obtain ⟨g, l, x, rfl, up, hm, h⟩ := h
  simp [T_want_lot, N_want_lot]
  exact ⟨g, l, rfl, up, hm, _, _, rfl, h⟩
def sp_want_pair : DSp := fun ss P => ∃ (g : Guild) (p : Pr) (x : D), ss = [.d (gd g), .d (pr p), .d x] ∧ Good g ∧ p ∈ pairs g ∧ P .none
theorem p_want_pair (ss : List SV) (Q : D → Prop) (h : sp_want_pair ss Q) : T_want_pair sp_is_pair_of [] sp_want dWant (EE Q) (startS N_want_pair.length ss) none := by
  obtain ⟨g, p, x, rfl, G, hp, h⟩ := h
  simp [T_want_pair, N_want_pair]
  exact ⟨g, p, rfl, G, hp, _, _, rfl, h⟩
abbrev dStr (s : String) : List SV := [.d (.str (Str.ofString s))]
def sp_odds_fall : DSp := sp_odds_by
theorem p_odds_fall (ss : List SV) (Q : D → Prop) (h : sp_odds_fall ss Q) : T_odds_fall sp_want_trust (dStr "trust") sp_want_pair [] sp_odds_by [] (EE Q) (startS N_odds_fall.length ss) none := by
  obtain ⟨g, p, q, rfl, G, hp, hq, h1, h2⟩ := h
  simp [T_odds_fall, N_odds_fall]
  refine ⟨g, _, rfl, G, ⟨g, p, _, rfl, G, hp, ⟨g, q, _, rfl, G, hq, ?_⟩⟩⟩
  exact ⟨g, p, q, rfl, G, hp, hq, h1, h2⟩
def sp_all_odds : DSp := fun ss P => ∃ g : Guild, ss = [.d (gd g)] ∧ Good g ∧ P (.tuple ((allOdds g).map od))
theorem p_all_odds (ss : List SV) (Q : D → Prop) (h : sp_all_odds ss Q) : T_all_odds sp_want_trust (dStr "trust") sp_all_odds_by [] (EE Q) (startS N_all_odds.length ss) none := by
  obtain ⟨g, rfl, G, h⟩ := h
  simp [T_all_odds, N_all_odds]
  exact ⟨g, _, rfl, G, g, rfl, G, by simpa using h⟩
def sp_meets_needs : DSp := fun ss P => ∃ (g : Guild) (a : Nm) (l : NS), ss = [.d (gd g), .d (eN a), .d (nm l)] ∧ Good g ∧ a ∈ names g ∧ l.Sublist (names g) ∧ ∀ R : List NS, (∀ y, y ∈ R ↔ IsMin (needs g a) y) → P (.bool (metB R l))
theorem p_meets_needs (ss : List SV) (Q : D → Prop) (h : sp_meets_needs ss Q) : T_meets_needs sp_want_trust (dStr "trust") sp_want_house (dStr "house") sp_want_lot (dStr "lot") sp_needs_by [] sp_is_met [] (EE Q) (startS N_meets_needs.length ss) none := by
  obtain ⟨g, a, l, rfl, G, ha, hl, h⟩ := h
  simp [T_meets_needs, N_meets_needs]
  exact ⟨g, _, rfl, G, g, a, _, rfl, ha, g, l, _, rfl, up_of hl G.up, hl.subset, g, a, rfl, G, ha, fun R hR => ⟨R, l, rfl, h R hR⟩⟩
end Ao
set_option Elab.async false
set_option autoImplicit false
set_option linter.all false
set_option maxRecDepth 100000
set_option maxHeartbeats 2000000
namespace Ao
open PySem PySem.Spec PyProof.Rows L2
/-! ### the order of pairs -/
def ltPr (p q : Pr) : Prop := p.1 < q.1 ∨ (p.1 = q.1 ∧ p.2 < q.2)
def ltPP (x y : Pr × Pr) : Prop := ltPr x.1 y.1 ∨ (x.1 = y.1 ∧ ltPr x.2 y.2)
theorem ltPr_irr (p : Pr) : ¬ ltPr p p := fun h => by rcases h with h | ⟨_, h⟩ <;> exact absurd h (Nat.lt_irrefl _)
theorem ltPP_irr (p : Pr × Pr) : ¬ ltPP p p := fun h => by rcases h with h | ⟨_, h⟩ <;> exact ltPr_irr _ h
theorem pr_alike (p q : Pr) : PySem.W.alike (pr p) (pr q) = true := rfl
theorem flt_alike (x y : Pr × Pr) : PySem.W.alike (flt x) (flt y) = true := rfl
theorem eqv_eN (a b : Nm) : PyData.eqv (eN a) (eN b) = (a == b) := eqv_enc eN_inj eN_shp a b
theorem eqv_pr (p q : Pr) : PyData.eqv (pr p) (pr q) = (p == q) := eqv_enc pr_inj pr_shp p q
theorem lt_pr {p q : Pr} (h : ltPr p q) : PySem.W.dataLt (pr p) (pr q) = true := by
  unfold pr
  rw [PySem.W.dataLt_pair rfl rfl, eqv_eN]
  rcases h with h | ⟨e, h⟩
  · have ne : (p.1 == q.1) = false := by simpa using Fin.ne_of_lt h
    rw [ne, if_neg (by decide)]
    exact (lt_eN h).2.2.2
  · have ee : (p.1 == q.1) = true := by simpa using e
    have hne : PyData.eqv (.int (p.2 : Nat)) (.int (q.2 : Nat)) = false := by
      simp [PyData.eqv]; omega
    rw [ee, if_pos rfl, hne, if_neg (by decide), PySem.W.dataLt_int]
    exact decide_eq_true (by omega)
theorem lt_flt {x y : Pr × Pr} (h : ltPP x y) : PySem.W.dataLt (flt x) (flt y) = true := by
  unfold flt
  rw [PySem.W.dataLt_tuple, PySem.W.dataLt_cons rfl, PySem.W.dataLt_cons (pr_alike _ _), eqv_pr]
  have e0 : PyData.eqv (.str (Str.ofString "odds")) (.str (Str.ofString "odds")) = true := by simp [PyData.eqv]
  rw [e0, if_pos rfl]
  rcases h with h | ⟨e, h⟩
  · have ne : (x.1 == y.1) = false := by
      rw [beq_eq_false_iff_ne]
      intro z; rw [z] at h; exact ltPr_irr _ h
    rw [ne, if_neg (by decide)]
    exact lt_pr h
  · have ee : (x.1 == y.1) = true := by simpa using e
    rw [ee, if_pos rfl, PySem.W.dataLt_cons (pr_alike _ _), eqv_pr]
    have ne : (x.2 == y.2) = false := by
      rw [beq_eq_false_iff_ne]
      intro z; rw [z] at h; exact ltPr_irr _ h
    rw [ne, if_neg (by decide)]
    exact lt_pr h
theorem pairs_up {g : Guild} (G : Good g) : (pairs g).Pairwise ltPr := by
  have up : g.Pairwise fun r s => r.1 < s.1 := List.pairwise_map.mp G.up
  unfold pairs
  rw [List.pairwise_flatMap]
  refine ⟨fun r hr => ?_, up.imp fun {r s} h x hx y hy => ?_⟩
  · rw [List.pairwise_map]
    exact (List.pairwise_lt_range).imp fun h => .inr ⟨rfl, h⟩
  · obtain ⟨k, _, rfl⟩ := List.mem_map.mp hx
    obtain ⟨l, _, rfl⟩ := List.mem_map.mp hy
    exact .inl h
/-- pairs of pairs, i behind no j -/
def twoFrom (t : Pr → Pr → Bool) : List Pr → List (Pr × Pr)
  | [] => []
  | p :: r => ((p :: r).filter (t p)).map (fun q => (p, q)) ++ twoFrom t r
theorem oddsFrom_two {g : Guild} : ∀ l, oddsFrom g l = twoFrom (atOdds g) l
  | [] => rfl
  | p :: r => by rw [oddsFrom, twoFrom, oddsFrom_two r]
theorem mem_two {t : Pr → Pr → Bool} : ∀ {l : List Pr} {x : Pr × Pr}, x ∈ twoFrom t l → x.1 ∈ l ∧ x.2 ∈ l ∧ t x.1 x.2 = true
  | [], x, h => by cases h
  | p :: r, x, h => by
    rw [twoFrom] at h
    rcases List.mem_append.mp h with h | h
    · obtain ⟨q, hq, rfl⟩ := List.mem_map.mp h
      have := List.mem_filter.mp hq
      exact ⟨List.mem_cons_self, this.1, this.2⟩
    · have := mem_two h
      exact ⟨List.mem_cons_of_mem _ this.1, List.mem_cons_of_mem _ this.2.1, this.2.2⟩
theorem two_up {t : Pr → Pr → Bool} : ∀ {l : List Pr}, l.Pairwise ltPr → (twoFrom t l).Pairwise ltPP
  | [], _ => .nil
  | p :: r, h => by
    obtain ⟨h1, h2⟩ := List.pairwise_cons.mp h
    rw [twoFrom, List.pairwise_append]
    refine ⟨?_, two_up h2, fun x hx y hy => ?_⟩
    · rw [List.pairwise_map]
      exact (h.filter _).imp fun z => .inr ⟨rfl, z⟩
    · obtain ⟨q, _, rfl⟩ := List.mem_map.mp hx
      exact .inl (h1 _ (mem_two hy).1)
theorem sort_one {lt : D → D → Bool} : ∀ {ds zs : List D}, ds.Pairwise (fun x y => lt x y = true) → zs.Perm ds → zs.Pairwise (fun x y => lt y x = false) → zs = ds
  | [], zs, _, hp, _ => List.perm_nil.mp hp
  | d :: ds, zs, hd, hp, hz => by
    cases zs with
    | nil => exact absurd hp (List.not_perm_nil_cons _ _)
    | cons z zs =>
      obtain ⟨d1, d2⟩ := List.pairwise_cons.mp hd
      obtain ⟨z1, z2⟩ := List.pairwise_cons.mp hz
      have ez : z = d := by
        refine Classical.byContradiction fun ne => ?_
        have m1 : z ∈ ds := by
          rcases List.mem_cons.mp (hp.mem_iff.mp List.mem_cons_self) with e | e
          · exact absurd e ne
          · exact e
        have m2 : d ∈ zs := by
          rcases List.mem_cons.mp (hp.mem_iff.mpr List.mem_cons_self) with e | e
          · exact absurd e.symm ne
          · exact e
        have := z1 d m2
        rw [d1 z m1] at this
        cases this
      subst ez
      rw [sort_one d2 ((List.perm_cons z).mp hp) z2]
theorem flt_srt (l : List (Pr × Pr)) : SrtOk (l.map flt) := by
  refine ⟨fun d hd => ?_, fun d hd e he => ?_⟩
  · obtain ⟨x, _, rfl⟩ := List.mem_map.mp hd
    exact ⟨⟨_, rfl⟩, rfl, Nat.le_trans (flt_shp x).2 (by decide)⟩
  · obtain ⟨x, _, rfl⟩ := List.mem_map.mp hd
    obtain ⟨y, _, rfl⟩ := List.mem_map.mp he
    exact flt_alike x y
theorem sort_flt {l : List (Pr × Pr)} (up : l.Pairwise ltPP) {P : D → Prop} (h : P (.list (l.map flt))) : fSort (.list (l.map flt)) P :=
  ⟨_, rfl, flt_srt l, fun zs pm asc => by rw [sort_one (List.pairwise_map.mpr (up.imp fun z => lt_flt z)) pm asc]; exact h⟩
theorem sset_flt {e l : List (Pr × Pr)} (up : l.Pairwise ltPP) (few : l.length < 64) (mem : ∀ x, x ∈ e ↔ x ∈ l) {P : D → Prop} (h : P (.list (l.map flt))) : fSset (.list (e.map flt)) P := by
  refine ⟨_, .inl rfl, flt_srt e, ⟨l.map flt, by simpa using few, fun d hd => ?_⟩, fun zs mz nd asc => ?_⟩
  · obtain ⟨x, hx, rfl⟩ := List.mem_map.mp hd
    exact List.mem_map.mpr ⟨x, (mem x).mp hx, rfl⟩
  · have nl : (l.map flt).Nodup := List.pairwise_map.mpr (up.imp fun {x y} z q => by rw [flt_inj _ _ q] at z; exact ltPP_irr _ z)
    have pm : zs.Perm (l.map flt) := (List.perm_ext_iff_of_nodup nd nl).mpr fun d => by
      rw [mz]
      constructor
      · intro hd
        obtain ⟨x, hx, rfl⟩ := List.mem_map.mp hd
        exact List.mem_map.mpr ⟨x, (mem x).mp hx, rfl⟩
      · intro hd
        obtain ⟨x, hx, rfl⟩ := List.mem_map.mp hd
        exact List.mem_map.mpr ⟨x, (mem x).mpr hx, rfl⟩
    rw [sort_one (List.pairwise_map.mpr (up.imp fun z => lt_flt z)) pm asc]
    exact h
theorem allOdds_up {g : Guild} (G : Good g) : (allOdds g).Pairwise ltPP := by
  unfold allOdds
  rw [oddsFrom_two]
  exact two_up (pairs_up G)
theorem allOdds_len {g : Guild} (G : Good g) : (allOdds g).length ≤ 256 := by
  have h1 := oddsFrom_len (g := g) (pairs g)
  have h2 := G.pairs16
  have h3 : (pairs g).length * (pairs g).length ≤ 16 * 16 := Nat.mul_le_mul h2 h2
  unfold allOdds
  omega
/-! ### what fails -/
def sp_odds_faults : DSp := fun ss P => ∃ M g, ss = [.d (bk M g)] ∧ Good g ∧ P (.list ((allOdds g).map flt))
theorem p_odds_faults (ss : List SV) (Q : D → Prop) (h : sp_odds_faults ss Q) : T_odds_faults sp_all_odds_by [] (EE Q) (startS N_odds_faults.length ss) none := by
  obtain ⟨M, g, rfl, G, h⟩ := h
  simp [T_odds_faults, N_odds_faults, bk]
  refine ⟨g, rfl, G, ?_⟩
  simp
  exact lc_map od flt _ (fun x hx C hC => by simpa [od, flt] using hC) h
def sp_looking_faults : DSp := fun ss P => ∃ M g x, ss = [.d (bk M g), .d x] ∧ P (.list [])
theorem p_looking_faults (ss : List SV) (Q : D → Prop) (h : sp_looking_faults ss Q) : T_looking_faults (EE Q) (startS N_looking_faults.length ss) none := by
  obtain ⟨M, g, x, rfl, h⟩ := h
  simp [T_looking_faults, N_looking_faults, bk]
  exact ⟨0, rfl, by decide, by simpa using h⟩
def sp_waking_faults : DSp := fun ss P => ∃ M g, ss = [.d (bk M g)] ∧ P (.list [])
theorem p_waking_faults (ss : List SV) (Q : D → Prop) (h : sp_waking_faults ss Q) : T_waking_faults (EE Q) (startS N_waking_faults.length ss) none := by
  obtain ⟨M, g, rfl, h⟩ := h
  simp [T_waking_faults, N_waking_faults, bk]
  exact ⟨0, rfl, by decide, by simpa using h⟩
def sp_faults_by : DSp := fun ss P => ∃ M g x, ss = [.d (bk M g), .d x] ∧ Good g ∧ P (.list ((allOdds g).map flt))
theorem p_faults_by (ss : List SV) (Q : D → Prop) (h : sp_faults_by ss Q) : T_faults_by sp_waking_faults [] sp_looking_faults [] sp_odds_faults [] (EE Q) (startS N_faults_by.length ss) none := by
  obtain ⟨M, g, x, rfl, G, h⟩ := h
  have big := allOdds_len G
  simp [T_faults_by, N_faults_by]
  refine ⟨M, g, rfl, G, ?_⟩
  simp
  refine ⟨M, g, x, rfl, ?_⟩
  simp
  refine ⟨M, g, rfl, ?_⟩
  simp
  exact ⟨_, by rw [← List.map_map]; exact allD_map, by simp; omega, h⟩
def sp_is_as_one : DSp := fun ss P => ∃ M g, ss = [.d (bk M g), .d (.int 0)] ∧ MachOk M ∧ Good g ∧ P (.bool (allOdds g).isEmpty)
theorem p_is_as_one (ss : List SV) (Q : D → Prop) (h : sp_is_as_one ss Q) : T_is_as_one sp_want_book (dStr "book") sp_want_age [] sp_faults_by [] (EE Q) (startS N_is_as_one.length ss) none := by
  obtain ⟨M, g, rfl, O, G, h⟩ := h
  simp [T_is_as_one, N_is_as_one]
  refine ⟨M, g, _, rfl, O, G, M, g, rfl, M, g, _, rfl, G, ?_⟩
  simp [fEq_int]
  cases e : allOdds g with
  | nil => simpa [e] using h
  | cons x r =>
    have z : ((r.length : Int) + 1 == 0) = false := by rw [beq_eq_false_iff_ne]; omega
    simpa [e, z] using h
def sp_faults_of : DSp := fun ss P => ∃ M g, ss = [.d (bk M g), .d (.int 0)] ∧ MachOk M ∧ Good g ∧ P (.tuple ((allOdds g).map flt))
theorem p_faults_of (ss : List SV) (Q : D → Prop) (h : sp_faults_of ss Q) : T_faults_of sp_want_book (dStr "book") sp_want_age [] sp_faults_by [] (EE Q) (startS N_faults_of.length ss) none := by
  obtain ⟨M, g, rfl, O, G, h⟩ := h
  simp [T_faults_of, N_faults_of]
  refine ⟨M, g, _, rfl, O, G, M, g, rfl, M, g, _, rfl, G, ?_⟩
  exact sort_flt (allOdds_up G) (by simpa using h)
def headD : List (Pr × Pr) → D
  | [] => .none
  | x :: _ => flt x
def sp_first_fault : DSp := fun ss P => ∃ M g, ss = [.d (bk M g), .d (.int 0)] ∧ MachOk M ∧ Good g ∧ P (headD (allOdds g))
theorem p_first_fault (ss : List SV) (Q : D → Prop) (h : sp_first_fault ss Q) : T_first_fault sp_want_book (dStr "book") sp_want_age [] sp_faults_by [] (EE Q) (startS N_first_fault.length ss) none := by
  obtain ⟨M, g, rfl, O, G, h⟩ := h
  simp [T_first_fault, N_first_fault]
  refine ⟨M, g, _, rfl, O, G, M, g, rfl, M, g, _, rfl, G, ?_⟩
  simp
  cases e : allOdds g with
  | nil => rw [e] at h; simpa [headD] using h
  | cons x r =>
    rw [e] at h
    have : (0 : Int) < ((r.length : Int) + 1) := by omega
    simp [this]
    exact h
end Ao
set_option Elab.async false
set_option autoImplicit false
set_option linter.all false
set_option maxRecDepth 100000
set_option maxHeartbeats 2000000
namespace Ao
open PySem PySem.Spec PyProof.Rows L2
/-- what fails in a fall -/
def inB (g : Guild) (f : NS) (p q : Pr) : Bool := subB (joint (lotAt g p) (lotAt g q)) f
def inFall (g : Guild) (f : NS) : List (Pr × Pr) := twoFrom (inB g f) ((pairs g).filter fun p => safeB g p.1 f)
theorem two_len {t : Pr → Pr → Bool} : ∀ l : List Pr, (twoFrom t l).length ≤ l.length * l.length
  | [] => by simp [twoFrom]
  | p :: r => by
    have h1 := two_len (t := t) r
    have h2 := List.length_filter_le (t p) (p :: r)
    rw [twoFrom, List.length_append, List.length_map]
    simp only [List.length_cons] at h2 ⊢
    rw [Nat.add_mul, Nat.mul_add]
    omega
theorem inFall_len {g : Guild} (G : Good g) (f : NS) : (inFall g f).length ≤ 256 := by
  have h1 := two_len (t := inB g f) ((pairs g).filter fun p => safeB g p.1 f)
  have h2 := List.length_filter_le (fun p : Pr => safeB g p.1 f) (pairs g)
  have h4 := G.pairs16
  have h3 : ((pairs g).filter fun p => safeB g p.1 f).length * ((pairs g).filter fun p => safeB g p.1 f).length ≤ 16 * 16 := Nat.mul_le_mul (by omega) (by omega)
  unfold inFall
  omega
theorem inFall_up {g : Guild} (G : Good g) (f : NS) : (inFall g f).Pairwise ltPP := two_up ((pairs_up G).filter _)
def sp_odds_in_fall : DSp := fun ss P => ∃ M g f, ss = [.d (bk M g), .d (nm f)] ∧ Good g ∧ P (.list ((inFall g f).map flt))
theorem p_odds_in_fall (ss : List SV) (Q : D → Prop) (h : sp_odds_in_fall ss Q) : T_odds_in_fall sp_pairs_in [] sp_is_safe_by [] sp_lot_at [] sp_joint_in [] sp_within_in [] (EE Q) (startS N_odds_in_fall.length ss) none := by
  obtain ⟨M, g, f, rfl, G, h⟩ := h
  have big := inFall_len G f
  simp [T_odds_in_fall, N_odds_in_fall]
  have eb : ∀ P, fIx (bk M g) (.int 1) P ↔ P (gd g) := fun P => by simp [bk]
  simp [eb]
  refine ⟨g, rfl, G, ?_⟩
  simp
  refine lc_fil pr pr (fun p => safeB g p.1 f) (pairs g) (fun p hp C hC => ?_) ?_
  · simp [pr]
    refine ⟨g, p.1, f, rfl, G, pair_house hp, ?_⟩
    cases hb : safeB g p.1 f <;> simp [hb] at hC ⊢ <;> exact hC
  have sub : ∀ p ∈ (pairs g).filter (fun p => safeB g p.1 f), p ∈ pairs g := fun p hp => (List.mem_filter.mp hp).1
  unfold inFall at h big
  generalize (pairs g).filter (fun p => safeB g p.1 f) = ps at sub h big ⊢
  simp
  intro a
  rw [enums_map]
  refine for_inv (fun p : Pr × Nat => .tuple [.int (p.2 : Nat), pr p.1]) (fun rest ρ acc => ∃ k done u v w x, rest = (ps.drop k).zipIdx k ∧ acc = some (a, done.map flt) ∧ ρ = [some (.d (bk M g)), some (.d (nm f)), some (.d (gd g)), some (.d (.list (ps.map pr))), u, none, v, w, x] ∧ done ++ twoFrom (inB g f) (ps.drop k) = twoFrom (inB g f) ps) (fun x rest ρ acc hI N hN => ?_) (fun ρ acc hI => ?_) _ _ _ ⟨0, [], none, none, none, none, by simp, by simp, rfl, by simp⟩
  · obtain ⟨k, done, u, v, w, x', e1, rfl, rfl, e4⟩ := hI
    have hk : k < ps.length := by
      rcases Nat.lt_or_ge k ps.length with z | z
      · exact z
      · rw [List.drop_of_length_le z] at e1; cases e1
    rw [List.drop_eq_getElem_cons hk, List.zipIdx_cons] at e1
    obtain ⟨rfl, rfl⟩ := List.cons.inj e1
    rw [List.drop_eq_getElem_cons hk, twoFrom, ← List.drop_eq_getElem_cons hk] at e4
    have hm : ps[k] ∈ pairs g := sub _ (List.getElem_mem hk)
    generalize ps[k] = p at hm e4 ⊢
    simp
    rw [← List.map_drop]
    refine for_inv pr (fun rest ρ acc => ∃ dn x, acc = some (a, (done ++ dn).map flt) ∧ ρ = [some (.d (bk M g)), some (.d (nm f)), some (.d (gd g)), some (.d (.list (ps.map pr))), u, none, some (.d (.int (k : Nat))), some (.d (pr p)), x] ∧ (∀ q ∈ rest, q ∈ pairs g) ∧ dn ++ (rest.filter (inB g f p)).map (fun q => (p, q)) = ((ps.drop k).filter (inB g f p)).map (fun q => (p, q))) (fun q rest ρ acc hI N' hN' => ?_) (fun ρ acc hI => ?_) _ _ _ ⟨[], _, by simp, rfl, fun q hq => sub q (List.mem_of_mem_drop hq), by simp⟩
    · obtain ⟨dn, x, rfl, rfl, hs, e5⟩ := hI
      simp
      refine ⟨g, p, rfl, G, hm, g, q, rfl, G, hs q List.mem_cons_self, _, _, rfl, _, _, rfl, ?_⟩
      cases hb : subB (joint (lotAt g p) (lotAt g q)) f with
      | false =>
        have hb' : inB g f p q = false := hb
        rw [List.filter_cons_of_neg (by simp [hb'])] at e5
        simp
        exact hN' _ _ rfl ⟨dn, _, by simp, rfl, fun q hq => hs q (List.mem_cons_of_mem _ hq), e5⟩
      | true =>
        have hb' : inB g f p q = true := hb
        rw [List.filter_cons_of_pos hb'] at e5
        have hlen : done.length + dn.length < 100000 := by
          have h1 := congrArg List.length e4
          have h2 := congrArg List.length e5
          simp at h1 h2
          omega
        simp
        refine ⟨hlen, hN' _ _ rfl ⟨dn ++ [(p, q)], _, by simp [flt], rfl, fun q hq => hs q (List.mem_cons_of_mem _ hq), by simpa using e5⟩⟩
    · obtain ⟨dn, x, rfl, rfl, hs, e5⟩ := hI
      simp at e5
      refine hN _ _ rfl ⟨k + 1, done ++ dn, _, _, _, _, rfl, rfl, rfl, ?_⟩
      rw [List.append_assoc, e5]
      exact e4
  · obtain ⟨k, done, u, v, w, x', e1, rfl, rfl, e4⟩ := hI
    have hk : ps.drop k = [] := by
      cases e : ps.drop k with
      | nil => rfl
      | cons x r => rw [e, List.zipIdx_cons] at e1; cases e1
    rw [hk, twoFrom, List.append_nil] at e4
    simpa [e4] using h
def sp_faults_by_fall : DSp := fun ss P => ∃ M g f, ss = [.d (bk M g), .d (nm f)] ∧ Good g ∧ P (.list ((inFall g f).map flt))
theorem p_faults_by_fall (ss : List SV) (Q : D → Prop) (h : sp_faults_by_fall ss Q) : T_faults_by_fall sp_safe_by [] sp_waking_faults [] sp_odds_in_fall [] (EE Q) (startS N_faults_by_fall.length ss) none := by
  obtain ⟨M, g, f, rfl, G, h⟩ := h
  have big := inFall_len G f
  simp [T_faults_by_fall, N_faults_by_fall]
  have eb : ∀ P, fIx (bk M g) (.int 1) P ↔ P (gd g) := fun P => by simp [bk]
  have ec : ∀ P, fIx (bk M g) (.int 3) P ↔ P E0t := fun P => by simp [bk]
  simp [eb, ec]
  refine ⟨g, f, rfl, G, ?_⟩
  refine ⟨0, rfl, by decide, ?_⟩
  simp
  refine ⟨M, g, rfl, ?_⟩
  simp
  refine ⟨M, g, f, rfl, G, ?_⟩
  simp
  exact ⟨by omega, h⟩
def sp_faults_in : DSp := fun ss P => ∃ M g f, ss = [.d (bk M g), .d (nm f)] ∧ MachOk M ∧ Good g ∧ f.Sublist (names g) ∧ P (.tuple ((inFall g f).map flt))
theorem p_faults_in (ss : List SV) (Q : D → Prop) (h : sp_faults_in ss Q) : T_faults_in sp_want_book (dStr "book") sp_are_houses_of [] sp_want dWant sp_faults_by_fall [] (EE Q) (startS N_faults_in.length ss) none := by
  obtain ⟨M, g, f, rfl, O, G, hf, h⟩ := h
  simp [T_faults_in, N_faults_in]
  have eb : ∀ P, fIx (bk M g) (.int 1) P ↔ P (gd g) := fun P => by simp [bk]
  refine ⟨M, g, _, rfl, O, G, ?_⟩
  simp [eb]
  refine ⟨g, f, rfl, up_of hf G.up, hf.subset, _, _, rfl, M, g, f, rfl, G, ?_⟩
  exact sort_flt (inFall_up G f) (by simpa using h)
end Ao
set_option Elab.async false
set_option autoImplicit false
set_option linter.all false
set_option maxRecDepth 100000
set_option maxHeartbeats 2000000
namespace Ao
open PySem PySem.Spec PyProof.Rows L2
def safeL (g : Guild) (a : NS) : NS := (names g).filter fun h => safeB g h a
abbrev SF := NS × NS
def safes (g : Guild) : List SF := ((subs (names g)).map fun a => (a, safeL g a)).filter fun x => !x.2.isEmpty
theorem mem_safes {g : Guild} {x : SF} : x ∈ safes g ↔ x.1.Sublist (names g) ∧ x.2 = safeL g x.1 ∧ x.2 ≠ [] := by
  unfold safes
  rw [List.mem_filter, List.mem_map]
  constructor
  · rintro ⟨⟨a, ha, rfl⟩, h⟩
    exact ⟨mem_subs.mp ha, rfl, by simpa using h⟩
  · rintro ⟨h1, h2, h3⟩
    exact ⟨⟨x.1, mem_subs.mpr h1, by rw [← h2]⟩, by simpa using h3⟩
theorem mem_safeL {g : Guild} {a : NS} {h : Nm} : h ∈ safeL g a ↔ h ∈ names g ∧ safeB g h a = true := List.mem_filter
theorem safes_of {g : Guild} {a : NS} {h : Nm} (ha : a.Sublist (names g)) (hh : h ∈ names g) (s : safeB g h a = true) : (a, safeL g a) ∈ safes g := mem_safes.mpr ⟨ha, rfl, fun e => by
  have e' : safeL g a = [] := e
  have := mem_safeL.mpr ⟨hh, s⟩
  rw [e'] at this; cases this⟩
def needL (g : Guild) (h : Nm) (x : NS) : Prop := ∃ s ∈ safes g, h ∈ s.2 ∧ ∃ r ∈ g, r.1 ∈ s.2 ∧ r.1 ≠ h ∧ ∃ one ∈ r.2.1, x = lessN one s.1
section
variable {g : Guild}
theorem safe_iff {h : Nm} {a : NS} : safeB g h a = true ↔ h ∉ a ∧ ∃ f ∈ fearsOf g h, subB a f = true := by
  unfold safeB
  rw [Bool.and_eq_true, List.any_eq_true]
  simp
theorem subB_self (a : NS) : subB a a = true := subB_iff.mpr fun _ h => h
/-- a joint fall is right for both -/
theorem J_safe (G : Good g) {h h' : Nm} (hh : h ∈ names g) (hh' : h' ∈ names g) {x : NS} (hx : x ∈ Jn g h h') : safeB g h x = true ∧ safeB g h' x = true := by
  unfold Jn at hx
  split at hx
  · rename_i e
    subst e
    have := safe_iff.mpr ⟨(G.fear_sub hh x hx).2, x, hx, subB_self x⟩
    exact ⟨this, this⟩
  · obtain ⟨a, ha, hx⟩ := List.mem_flatMap.mp hx
    obtain ⟨b, hb, rfl⟩ := List.mem_map.mp hx
    exact ⟨safe_iff.mpr ⟨fun m => (G.fear_sub hh a ha).2 (mem_joint.mp m).1, a, ha, subB_iff.mpr fun y hy => (mem_joint.mp hy).1⟩,
      safe_iff.mpr ⟨fun m => (G.fear_sub hh' b hb).2 (mem_joint.mp m).2, b, hb, subB_iff.mpr fun y hy => (mem_joint.mp hy).2⟩⟩
theorem safe_J {h h' : Nm} {a : NS} (s : safeB g h a = true) (s' : safeB g h' a = true) : ∃ x ∈ Jn g h h', subB a x = true := by
  obtain ⟨_, f, hf, sf⟩ := safe_iff.mp s
  obtain ⟨_, f', hf', sf'⟩ := safe_iff.mp s'
  unfold Jn
  split
  · exact ⟨f, hf, sf⟩
  · exact ⟨joint f f', List.mem_flatMap.mpr ⟨f, hf, List.mem_map.mpr ⟨f', hf', rfl⟩⟩, subB_iff.mpr fun y hy => mem_joint.mpr ⟨subB_iff.mp sf y hy, subB_iff.mp sf' y hy⟩⟩
theorem odds_iff (G : Good g) {p q : Pr} (hp : p ∈ pairs g) (hq : q ∈ pairs g) : atOdds g p q = true ↔ ∃ a : NS, a.Sublist (names g) ∧ safeB g p.1 a = true ∧ safeB g q.1 a = true ∧ subB (joint (lotAt g p) (lotAt g q)) a = true := by
  unfold atOdds
  rw [List.any_eq_true]
  constructor
  · rintro ⟨x, hx, s⟩
    have := J_safe G (pair_house hp) (pair_house hq) hx
    exact ⟨x, G.J_sub (pair_house hp) (pair_house hq) x hx, this.1, this.2, s⟩
  · rintro ⟨a, _, s1, s2, s⟩
    obtain ⟨x, hx, sx⟩ := safe_J s1 s2
    exact ⟨x, hx, subB_trans s sx⟩
def lawAt (g : Guild) (p q : Pr) : Bool := (safes g).any fun s => s.2.contains p.1 && s.2.contains q.1 && subB (joint (lotAt g p) (lotAt g q)) s.1
theorem lawAt_eq (G : Good g) {p q : Pr} (hp : p ∈ pairs g) (hq : q ∈ pairs g) : lawAt g p q = atOdds g p q := by
  rw [Bool.eq_iff_iff, odds_iff G hp hq]
  unfold lawAt
  rw [List.any_eq_true]
  constructor
  · rintro ⟨s, hs, h⟩
    simp only [Bool.and_eq_true, List.contains_iff_mem] at h
    obtain ⟨m1, m2, m3⟩ := mem_safes.mp hs
    rw [m2] at h
    exact ⟨s.1, m1, (mem_safeL.mp h.1.1).2, (mem_safeL.mp h.1.2).2, h.2⟩
  · rintro ⟨a, ha, s1, s2, s⟩
    refine ⟨(a, safeL g a), safes_of ha (pair_house hp) s1, ?_⟩
    simp only [Bool.and_eq_true, List.contains_iff_mem]
    exact ⟨⟨mem_safeL.mpr ⟨pair_house hp, s1⟩, mem_safeL.mpr ⟨pair_house hq, s2⟩⟩, s⟩
theorem two_congr {t t' : Pr → Pr → Bool} : ∀ {l : List Pr}, (∀ p ∈ l, ∀ q ∈ l, t p q = t' p q) → twoFrom t l = twoFrom t' l
  | [], _ => rfl
  | p :: r, h => by
    rw [twoFrom, twoFrom, two_congr fun a ha b hb => h a (List.mem_cons_of_mem _ ha) b (List.mem_cons_of_mem _ hb)]
    congr 2
    exact List.filter_congr fun q hq => h p List.mem_cons_self q hq
theorem lawOdds_eq (G : Good g) : twoFrom (lawAt g) (pairs g) = allOdds g := by
  unfold allOdds
  rw [oddsFrom_two]
  exact two_congr fun p hp q hq => lawAt_eq G hp hq
theorem joint_comm (a b : NS) (x : Nm) : x ∈ joint a b ↔ x ∈ joint b a := by rw [mem_joint, mem_joint, and_comm]
theorem subB_comm (a b x : NS) : subB (joint a b) x = subB (joint b a) x := by
  rw [Bool.eq_iff_iff, subB_iff, subB_iff]
  exact ⟨fun h y hy => h y ((joint_comm a b y).mpr hy), fun h y hy => h y ((joint_comm a b y).mp hy)⟩
theorem odds_comm (G : Good g) {p q : Pr} (hp : p ∈ pairs g) (hq : q ∈ pairs g) : atOdds g p q = atOdds g q p := by
  rw [Bool.eq_iff_iff, odds_iff G hp hq, odds_iff G hq hp]
  constructor
  · rintro ⟨a, h1, h2, h3, h4⟩; exact ⟨a, h1, h3, h2, by rw [subB_comm]; exact h4⟩
  · rintro ⟨a, h1, h2, h3, h4⟩; exact ⟨a, h1, h3, h2, by rw [subB_comm]; exact h4⟩
theorem two_iff {t : Pr → Pr → Bool} : ∀ {l : List Pr}, l.Pairwise ltPr → ∀ {x : Pr × Pr}, x ∈ twoFrom t l ↔ x.1 ∈ l ∧ x.2 ∈ l ∧ (x.1 = x.2 ∨ ltPr x.1 x.2) ∧ t x.1 x.2 = true
  | [], _, x => by simp [twoFrom]
  | p :: r, h, x => by
    obtain ⟨h1, h2⟩ := List.pairwise_cons.mp h
    rw [twoFrom, List.mem_append, two_iff h2, List.mem_map]
    constructor
    · rintro (⟨q, hq, rfl⟩ | ⟨m1, m2, m3⟩)
      · have := List.mem_filter.mp hq
        refine ⟨List.mem_cons_self, this.1, ?_, this.2⟩
        rcases List.mem_cons.mp this.1 with e | e
        · exact .inl e.symm
        · exact .inr (h1 q e)
      · exact ⟨List.mem_cons_of_mem _ m1, List.mem_cons_of_mem _ m2, m3⟩
    · rintro ⟨m1, m2, m3, m4⟩
      rcases List.mem_cons.mp m1 with e | e
      · exact .inl ⟨x.2, List.mem_filter.mpr ⟨m2, by rw [← e]; exact m4⟩, by rw [← e]⟩
      · refine .inr ⟨e, ?_, m3, m4⟩
        rcases List.mem_cons.mp m2 with e2 | e2
        · exfalso
          have lt := h1 _ e
          rw [← e2] at lt
          rcases m3 with m3 | m3
          · rw [m3] at lt; exact ltPr_irr _ lt
          · rcases lt with a | ⟨a, b⟩ <;> rcases m3 with c | ⟨c, d⟩
            · exact absurd (Nat.lt_trans a c) (Nat.lt_irrefl _)
            · rw [c] at a; exact absurd a (Nat.lt_irrefl _)
            · rw [a] at c; exact absurd c (Nat.lt_irrefl _)
            · exact absurd (Nat.lt_trans b d) (Nat.lt_irrefl _)
        · exact e2
theorem two_total {l : List Pr} (up : l.Pairwise ltPr) : ∀ {p q : Pr}, p ∈ l → q ∈ l → p = q ∨ ltPr p q ∨ ltPr q p := by
  induction l with
  | nil => intro p q h; cases h
  | cons z r ih =>
    obtain ⟨h1, h2⟩ := List.pairwise_cons.mp up
    intro p q hp hq
    rcases List.mem_cons.mp hp with e | e
    · rcases List.mem_cons.mp hq with e2 | e2
      · exact .inl (e.trans e2.symm)
      · rw [e]; exact .inr (.inl (h1 q e2))
    · rcases List.mem_cons.mp hq with e2 | e2
      · rw [e2]; exact .inr (.inr (h1 p e))
      · exact ih h2 e e2
theorem mem_all (G : Good g) {x : Pr × Pr} : x ∈ allOdds g ↔ x.1 ∈ pairs g ∧ x.2 ∈ pairs g ∧ (x.1 = x.2 ∨ ltPr x.1 x.2) ∧ atOdds g x.1 x.2 = true := by
  unfold allOdds
  rw [oddsFrom_two]
  exact two_iff (pairs_up G)
theorem either_odds (G : Good g) {p q : Pr} (hp : p ∈ pairs g) (hq : q ∈ pairs g) : ((allOdds g).contains (p, q) || (allOdds g).contains (q, p)) = atOdds g p q := by
  rw [Bool.eq_iff_iff, Bool.or_eq_true, List.contains_iff_mem, List.contains_iff_mem, mem_all G, mem_all G]
  constructor
  · rintro (⟨_, _, _, h⟩ | ⟨_, _, _, h⟩)
    · exact h
    · rw [odds_comm G hp hq]; exact h
  · intro h
    rcases two_total (pairs_up G) hp hq with e | e | e
    · exact .inl ⟨hp, hq, .inl e, h⟩
    · exact .inl ⟨hp, hq, .inr e, h⟩
    · exact .inr ⟨hq, hp, .inr e, by show atOdds g q p = true; rw [← odds_comm G hp hq]; exact h⟩
theorem self_odds (G : Good g) {p : Pr} (hp : p ∈ pairs g) : (allOdds g).contains (p, p) = (fearsOf g p.1).any (subB (lotAt g p) ·) := by
  have e1 : (allOdds g).contains (p, p) = atOdds g p p := by
    rw [Bool.eq_iff_iff, List.contains_iff_mem, mem_all G]
    exact ⟨fun h => h.2.2.2, fun h => ⟨hp, hp, .inl rfl, h⟩⟩
  have e2 : joint (lotAt g p) (lotAt g p) = lotAt g p := List.filter_eq_self.mpr fun x hx => by simpa using hx
  rw [e1]
  unfold atOdds Jn
  rw [if_pos rfl, e2]
/-! ### needs -/
theorem below {S : NS → Prop} {l : NS} (nd : l.Nodup) (sub : ∀ x, S x → x.Sublist l) : ∀ (n : Nat) (x : NS), S x → x.length ≤ n → ∃ y, IsMin S y ∧ subB y x = true
  | n, x, hx, hl => by
    by_cases c : ∃ y, S y ∧ y ≠ x ∧ subB y x = true
    · obtain ⟨y, hy, ne, s⟩ := c
      have lt : y.length < x.length := by
        have h1 := pigeon y x ((sub y hy).nodup nd) (subB_iff.mp s)
        rcases Nat.lt_or_ge y.length x.length with z | z
        · exact z
        · exfalso
          refine ne (sub_anti nd (sub y hy) (sub x hx) s ?_)
          refine subB_iff.mpr fun v hv => ?_
          refine Classical.byContradiction fun nv => ?_
          have := pigeon (v :: y) x (List.nodup_cons.mpr ⟨nv, (sub y hy).nodup nd⟩) fun u hu => by
            rcases List.mem_cons.mp hu with e | hu
            · rw [e]; exact hv
            · exact subB_iff.mp s u hu
          simp at this
          omega
      cases n with
      | zero => omega
      | succ n =>
        obtain ⟨z, m, sz⟩ := below nd sub n y hy (by omega)
        exact ⟨z, m, subB_trans sz s⟩
    · refine ⟨x, ⟨hx, fun y hy ne => ?_⟩, subB_self x⟩
      cases e : subB y x with
      | false => rfl
      | true => exact absurd ⟨y, hy, ne, e⟩ c
theorem met_iff {S : NS → Prop} {l : NS} (nd : l.Nodup) (sub : ∀ x, S x → x.Sublist l) {R : List NS} (mem : ∀ y, y ∈ R ↔ IsMin S y) {lot : NS} : metB R lot = true ↔ ∀ x, S x → ∃ z ∈ x, z ∈ lot := by
  unfold metB
  rw [List.all_eq_true]
  have e : ∀ n : NS, (!(joint n lot).isEmpty) = true ↔ ∃ z ∈ n, z ∈ lot := fun n => by
    rw [Bool.not_eq_true', List.isEmpty_eq_false_iff_exists_mem]
    constructor
    · rintro ⟨z, hz⟩; exact ⟨z, (mem_joint.mp hz).1, (mem_joint.mp hz).2⟩
    · rintro ⟨z, h1, h2⟩; exact ⟨z, mem_joint.mpr ⟨h1, h2⟩⟩
  constructor
  · intro h x hx
    obtain ⟨y, my, sy⟩ := below nd sub x.length x hx (Nat.le_refl _)
    obtain ⟨z, h1, h2⟩ := (e y).mp (h y ((mem y).mpr my))
    exact ⟨z, subB_iff.mp sy z h1, h2⟩
  · intro h y hy
    exact (e y).mpr (h y ((mem y).mp hy).1)
theorem needs_sub (G : Good g) {h : Nm} {x : NS} (hx : needs g h x) : x.Sublist (names g) := by
  obtain ⟨p, hp, _, f, _, rfl⟩ := hx
  exact List.filter_sublist.trans (G.lot_sub hp).1
theorem needL_sub (G : Good g) {h : Nm} {x : NS} (hx : needL g h x) : x.Sublist (names g) := by
  obtain ⟨s, _, _, r, hr, _, _, one, ho, rfl⟩ := hx
  exact List.filter_sublist.trans ((G.lots r hr).2.2 one ho).2
/-- no pair of another house is at odds with the lot of p -/
def clear (g : Guild) (p : Pr) : Prop := ∀ q ∈ pairs g, q.1 ≠ p.1 → atOdds g p q = false
theorem meet_clear {lot lq f : NS} : (∃ z ∈ lessN lq f, z ∈ lot) ↔ subB (joint lot lq) f = false := by
  constructor
  · rintro ⟨z, h1, h2⟩
    rw [Bool.eq_false_iff]
    intro s
    exact (mem_lessN.mp h1).2 (subB_iff.mp s z (mem_joint.mpr ⟨h2, (mem_lessN.mp h1).1⟩))
  · intro h
    refine Classical.byContradiction fun c => ?_
    rw [Bool.eq_false_iff] at h
    refine h (subB_iff.mpr fun z hz => ?_)
    refine Classical.byContradiction fun nf => c ⟨z, mem_lessN.mpr ⟨(mem_joint.mp hz).2, nf⟩, (mem_joint.mp hz).1⟩
theorem met_needs (G : Good g) {p : Pr} (hp : p ∈ pairs g) {R : List NS} (mem : ∀ y, y ∈ R ↔ IsMin (needs g p.1) y) : metB R (lotAt g p) = true ↔ clear g p := by
  rw [met_iff G.nd (fun x => needs_sub G) mem]
  constructor
  · intro h q hq ne
    rw [Bool.eq_false_iff]
    intro a
    obtain ⟨x, hx, s⟩ := List.any_eq_true.mp (show (Jn g p.1 q.1).any _ = true from a)
    obtain ⟨f, mf, sf⟩ := G.above (pair_house hp) (pair_house hq) hx
    have := meet_clear.mp (h _ ⟨q, hq, ne, f, mf, rfl⟩)
    rw [subB_trans s sf] at this
    cases this
  · rintro h x ⟨q, hq, ne, f, mf, rfl⟩
    refine meet_clear.mpr ?_
    rw [Bool.eq_false_iff]
    intro s
    have := h q hq ne
    rw [Bool.eq_false_iff] at this
    exact this (List.any_eq_true.mpr ⟨f, mf.1, s⟩)
theorem met_law (G : Good g) {p : Pr} (hp : p ∈ pairs g) {R : List NS} (mem : ∀ y, y ∈ R ↔ IsMin (needL g p.1) y) : metB R (lotAt g p) = true ↔ clear g p := by
  rw [met_iff G.nd (fun x => needL_sub G) mem]
  constructor
  · intro h q hq ne
    rw [Bool.eq_false_iff]
    intro a
    obtain ⟨f, f1, f2, f3, f4⟩ := (odds_iff G hp hq).mp a
    obtain ⟨r, hr, e, hk⟩ := mem_pairs.mp hq
    have lq := pair_lot G.nd hq
    rw [← e, lots_row G.nd hr] at lq
    have := meet_clear.mp (h _ ⟨(f, safeL g f), safes_of f1 (pair_house hp) f2, mem_safeL.mpr ⟨pair_house hp, f2⟩, r, hr, by rw [e]; exact mem_safeL.mpr ⟨pair_house hq, f3⟩, by rw [e]; exact ne, lotAt g q, List.mem_of_getElem? lq, rfl⟩)
    rw [f4] at this
    cases this
  · rintro h x ⟨s, hs, m1, r, hr, m2, ne, one, ho, rfl⟩
    obtain ⟨k, hk, ek⟩ := List.getElem_of_mem ho
    have hq : (r.1, k) ∈ pairs g := mem_pairs.mpr ⟨r, hr, rfl, hk⟩
    have lq := pair_lot G.nd hq
    rw [lots_row G.nd hr, List.getElem?_eq_getElem hk, ek] at lq
    have el : lotAt g (r.1, k) = one := (Option.some.inj lq).symm
    refine meet_clear.mpr ?_
    rw [Bool.eq_false_iff]
    intro c
    obtain ⟨s1, s2, s3⟩ := mem_safes.mp hs
    rw [s2] at m1 m2
    have := h (r.1, k) hq ne
    rw [Bool.eq_false_iff] at this
    exact this ((odds_iff G hp hq).mpr ⟨s.1, s1, (mem_safeL.mp m1).2, (mem_safeL.mp m2).2, by rw [el]; exact c⟩)
/-! ### all falls together -/
theorem mem_inFall (G : Good g) {a : NS} {x : Pr × Pr} : x ∈ inFall g a ↔ x.1 ∈ pairs g ∧ x.2 ∈ pairs g ∧ safeB g x.1.1 a = true ∧ safeB g x.2.1 a = true ∧ (x.1 = x.2 ∨ ltPr x.1 x.2) ∧ inB g a x.1 x.2 = true := by
  unfold inFall
  rw [two_iff ((pairs_up G).filter _), List.mem_filter, List.mem_filter]
  exact ⟨fun ⟨h1, h2, h3, h4⟩ => ⟨h1.1, h2.1, h1.2, h2.2, h3, h4⟩, fun ⟨h1, h2, h3, h4, h5, h6⟩ => ⟨⟨h1, h3⟩, ⟨h2, h4⟩, h5, h6⟩⟩
theorem every_iff (G : Good g) {x : Pr × Pr} : x ∈ ((safes g).flatMap fun s => inFall g s.1) ↔ x ∈ allOdds g := by
  rw [List.mem_flatMap, mem_all G]
  constructor
  · rintro ⟨s, hs, h⟩
    obtain ⟨h1, h2, h3, h4, h5, h6⟩ := (mem_inFall G).mp h
    exact ⟨h1, h2, h5, (odds_iff G h1 h2).mpr ⟨s.1, (mem_safes.mp hs).1, h3, h4, h6⟩⟩
  · rintro ⟨h1, h2, h3, h4⟩
    obtain ⟨a, ha, s1, s2, s⟩ := (odds_iff G h1 h2).mp h4
    exact ⟨(a, safeL g a), safes_of ha (pair_house h1) s1, (mem_inFall G).mpr ⟨h1, h2, s1, s2, h3, s⟩⟩
/-- how many -/
theorem two_half {t : Pr → Pr → Bool} : ∀ l : List Pr, 2 * (twoFrom t l).length ≤ l.length * (l.length + 1)
  | [] => by simp [twoFrom]
  | p :: r => by
    have h1 := two_half (t := t) r
    have h2 := List.length_filter_le (t p) (p :: r)
    rw [twoFrom, List.length_append, List.length_map]
    simp only [List.length_cons] at h2 ⊢
    have e : (r.length + 1) * (r.length + 1 + 1) = r.length * (r.length + 1) + 2 * (r.length + 1) := by
      have h := Nat.mul_add (r.length + 1) r.length 2
      rw [Nat.mul_comm (r.length + 1) r.length, Nat.mul_comm (r.length + 1) 2] at h
      exact h
    omega
theorem flat_sum {n : Nat} (h : ∀ r ∈ g, r.2.1.length ≤ n) : (pairs g).length ≤ n * g.length := by
  unfold pairs
  exact flat_len fun r hr => by rw [List.length_map, List.length_range]; exact h r hr
theorem few_odds (G : Good g) : (allOdds g).length < 64 := by
  have big : ∀ n, (pairs g).length ≤ n → n ≤ 9 → (allOdds g).length < 64 := fun n h1 h2 => by
    have h3 := two_half (t := atOdds g) (pairs g)
    have h4 : (pairs g).length * ((pairs g).length + 1) ≤ 9 * 10 := Nat.mul_le_mul (by omega) (by omega)
    unfold allOdds
    rw [oddsFrom_two]
    omega
  rcases G.many with h | ⟨h3, h⟩ | h
  · have := flat_sum h
    have := G.four
    exact big 8 (by omega) (by omega)
  · have := flat_sum h
    exact big 9 (by omega) (by omega)
  · -- lots of three, fears of one at most
    rcases Nat.lt_or_ge g.length 4 with z | z
    · -- lots of three of at most three houses: one lot a house
      have one : ∀ r ∈ g, r.2.1.length ≤ 1 := fun r hr => by
        have gl := G.lots r hr
        have eq : ∀ x ∈ r.2.1, x = names g := fun x hx => by
          have hs := (gl.2.2 x hx).2
          refine hs.eq_of_length_le ?_
          have := (h r hr).2.1 x hx
          simp [names]
          omega
        match e : r.2.1, gl.2.1 with
        | [], _ => simp
        | [_], _ => simp
        | x :: y :: _, hp =>
          exfalso
          have l := (List.pairwise_cons.mp hp).1 y List.mem_cons_self
          rw [eq x (by rw [e]; simp), eq y (by rw [e]; simp)] at l
          exact lt_irr _ l
      have := flat_sum one
      exact big 3 (by omega) (by omega)
    · have none : allOdds g = [] := by
        cases e : allOdds g with
        | nil => rfl
        | cons x r =>
          exfalso
          have hx : x ∈ allOdds g := by rw [e]; exact List.mem_cons_self
          obtain ⟨hp, hq, _, ho⟩ := (mem_all G).mp hx
          obtain ⟨a, ha, s1, _, s⟩ := (odds_iff G hp hq).mp ho
          obtain ⟨_, f, hf, sf⟩ := safe_iff.mp s1
          obtain ⟨r1, hr1, e1⟩ := mem_names.mp (pair_house hp)
          rw [← e1, fears_row G.nd hr1] at hf
          have fl := (h r1 hr1).2.2 f hf
          have sub : subB (joint (lotAt g x.1) (lotAt g x.2)) f = true := subB_trans s sf
          have three : ∀ p ∈ pairs g, 3 ≤ (lotAt g p).length := fun p hp => by
            obtain ⟨r, hr, e, hk⟩ := mem_pairs.mp hp
            have lq := pair_lot G.nd hp
            rw [← e, lots_row G.nd hr] at lq
            exact (h r hr).2.1 _ (List.mem_of_getElem? lq)
          have nd1 := (G.lot_sub hp).1.nodup G.nd
          have nd2 := (G.lot_sub hq).1.nodup G.nd
          -- the union has at most four, so two are joint
          have u := pigeon (lotAt g x.1 ++ lessN (lotAt g x.2) (lotAt g x.1)) (names g) (by
            rw [List.nodup_append]
            exact ⟨nd1, nd2.filter _, fun y hy z hz q => (mem_lessN.mp hz).2 (q ▸ hy)⟩) fun y hy => by
            rcases List.mem_append.mp hy with z | z
            · exact (G.lot_sub hp).1.subset z
            · exact (G.lot_sub hq).1.subset (mem_lessN.mp z).1
          have l4 : (names g).length ≤ 4 := by simp [names]; exact G.four
          have part : (lessN (lotAt g x.2) (lotAt g x.1)).length + (joint (lotAt g x.2) (lotAt g x.1)).length = (lotAt g x.2).length := by
            unfold lessN joint
            generalize lotAt g x.2 = L
            induction L with
            | nil => rfl
            | cons y L ih =>
              by_cases c : y ∈ lotAt g x.1 <;> simp [c] at ih ⊢ <;> omega
          have j2 := pigeon (joint (lotAt g x.2) (lotAt g x.1)) f (nd2.filter _) fun y hy => subB_iff.mp sub y ((joint_comm _ _ y).mp hy)
          rw [List.length_append] at u
          have t1 := three _ hp
          have t2 := three _ hq
          omega
      rw [none]
      decide
end
end Ao
set_option Elab.async false
set_option autoImplicit false
set_option linter.all false
set_option maxRecDepth 100000
set_option maxHeartbeats 2000000
namespace Ao
open PySem PySem.Spec PyProof.Rows L2
theorem fEq_nil {α : Type} {e : α → D} {n : Nat} (h : ∀ x, Shp n (e x)) (k : n ≤ 63) {l : List α} {P : D → Prop} : fEq (.list (l.map e)) (.list []) P ↔ P (.bool l.isEmpty) := by
  have s1 : SeqAt.shaped (.list (l.map e)) = true := (Shp.lst (Shp.map h)).shaped (Nat.succ_le_succ k)
  have s2 : SeqAt.shaped (.list []) = true := rfl
  unfold fEq
  simp only [s1, s2, true_and]
  cases l <;> simp [PyData.eqv, PyData.eqvAll]
theorem fNe_nil {α : Type} {e : α → D} {n : Nat} (h : ∀ x, Shp n (e x)) (k : n ≤ 63) {l : List α} {P : D → Prop} : fNe (.list (l.map e)) (.list []) P ↔ P (.bool (!l.isEmpty)) := by
  have s1 : SeqAt.shaped (.list (l.map e)) = true := (Shp.lst (Shp.map h)).shaped (Nat.succ_le_succ k)
  have s2 : SeqAt.shaped (.list []) = true := rfl
  unfold fNe
  simp only [s1, s2, true_and]
  cases l <;> simp [PyData.eqv, PyData.eqvAll]
def sp__law_draw : DSp := fun ss P => ∃ n : Nat, ss = [.feed, .d (.int (n : Nat))] ∧ 1 ≤ n ∧ n ≤ 1000 ∧ ∀ k : Nat, k < n → P (.int (k : Nat))
def sp__law_any : DSp := fun ss P => ∃ (x : D) (ds : List D), ss = [.feed, .d x] ∧ Seq x ds ∧ ds ≠ [] ∧ ds.length ≤ 1000 ∧ ∀ d ∈ ds, P d
theorem p__law_any (ss : List SV) (Q : D → Prop) (h : sp__law_any ss Q) : T__law_any sp__law_draw [] (EE Q) (startS N__law_any.length ss) none := by
  obtain ⟨x, ds, rfl, hs, ne, few, h⟩ := h
  have hl : 1 ≤ ds.length := List.length_pos_iff.mpr ne
  rcases hs with e | e
  · subst e
    simp [T__law_any, N__law_any]
    refine ⟨ds.length, rfl, hl, few, fun k hk => ?_⟩
    simp
    exact ⟨ds[k], List.getElem?_eq_getElem hk, h _ (List.getElem_mem hk)⟩
  · subst e
    simp [T__law_any, N__law_any]
    refine ⟨ds.length, rfl, hl, few, fun k hk => ?_⟩
    simp
    exact ⟨ds[k], List.getElem?_eq_getElem hk, h _ (List.getElem_mem hk)⟩
theorem less_nil {a b : NS} : (a.filter (!b.contains ·)).isEmpty = subB a b := by
  rw [Bool.eq_iff_iff, List.isEmpty_iff, List.filter_eq_nil_iff, subB_iff]
  simp
def sp__law_within : DSp := fun ss P => ∃ (a b : NS) (x : D), ss = [.d x, .d (nm b)] ∧ (x = nm a ∨ x = nmL a) ∧ P (.bool (subB a b))
theorem p__law_within (ss : List SV) (Q : D → Prop) (h : sp__law_within ss Q) : T__law_within (EE Q) (startS N__law_within.length ss) none := by
  obtain ⟨a, b, x, rfl, hx, h⟩ := h
  have key : ∀ P : D → Prop, P (.bool (subB a b)) → lcW (gN 2) (tb (d2 fNi (dN 2) (dN 1))) (dN 2) (a.map eN) [] [some (.d x), some (.d (nm b)), none] fun z => fEq z (.list []) P := fun P hP => by
    refine lc_fil eN eN (fun n => !b.contains n) a (fun y hy C hC => ?_) ?_
    · by_cases hb : y ∈ b <;> simp [hb] at hC ⊢ <;> exact hC
    · rw [fEq_nil eN_shp (by decide), less_nil]
      exact hP
  rcases hx with e | e
  · subst e
    simp [T__law_within, N__law_within]
    exact key Q h
  · subst e
    simp [T__law_within, N__law_within]
    exact key Q h
def sp__law_less : DSp := fun ss P => ∃ a b : NS, ss = [.d (nm a), .d (nm b)] ∧ P (nm (lessN a b))
theorem p__law_less (ss : List SV) (Q : D → Prop) (h : sp__law_less ss Q) : T__law_less (EE Q) (startS N__law_less.length ss) none := by
  obtain ⟨a, b, rfl, h⟩ := h
  simp [T__law_less, N__law_less]
  refine lc_fil eN eN (fun n => !b.contains n) a (fun x hx C hC => ?_) (by simpa [lessN, nm] using h)
  by_cases hb : x ∈ b <;> simp [hb] at hC ⊢ <;> exact hC
def sp__law_subsets : DSp := fun ss P => ∃ (a : NS) (x : D), ss = [.d x] ∧ (x = nm a ∨ x = nmL a) ∧ a.length ≤ 4 ∧ P (nmSL (subs a))
theorem p__law_subsets (ss : List SV) (Q : D → Prop) (h : sp__law_subsets ss Q) : T__law_subsets (EE Q) (startS N__law_subsets.length ss) none := by
  obtain ⟨a, x, rfl, hx, hl, h⟩ := h
  have key : ∀ (E : DEnds), E.rt = Q → (∀ ρ acc, E.nx ρ acc ↔ dRet 99 (dN 1) (EE Q) ρ acc) → forW (gN 2) (dSet 1 (d2 fCat (dN 1) (dLc (iSeq (dN 1)) (gN 3) bYes (d2 fCatT (dN 3) (dTup (aCons (dN 2) aNil))) [3]))) E none (a.map eN) [some (.d x), some (.d (.list [.tuple []])), none, none] none := fun E e1 e2 => by
    refine for_inv eN (fun rest ρ acc => acc = none ∧ ∃ before u f, before ++ rest = a ∧ f = before.foldl (fun f n => f ++ f.map (· ++ [n])) [[]] ∧ ρ = [some (.d x), some (.d (nmSL f)), u, none]) (fun n rest ρ acc hI N hN => ?_) (fun ρ acc hI => ?_) a _ _ ⟨rfl, [], _, [[]], rfl, rfl, rfl⟩
    · obtain ⟨rfl, before, u, f, eb, ef, rfl⟩ := hI
      have hb : before.length ≤ 3 := by
        have := congrArg List.length eb
        simp at this
        omega
      have hf : f.length ≤ 8 ∧ ∀ y ∈ f, y.length ≤ 3 := by
        subst ef
        refine ⟨?_, fun y hy => ?_⟩
        · rw [subs_len]
          have : 2 ^ before.length ≤ 2 ^ 3 := Nat.pow_le_pow_right (by decide) hb
          simpa using this
        · have := (mem_subs (l := before) (x := y)).mp hy
          have := this.length_le
          omega
      simp [nmSL]
      refine lc_map nm (fun y => nm (y ++ [n])) f (fun y hy C hC => ?_) ?_
      · have := hf.2 y hy
        simp [nm] at hC ⊢
        exact ⟨by omega, hC⟩
      · simp
        refine ⟨by omega, ?_⟩
        refine hN _ _ rfl ⟨rfl, before ++ [n], some (.d (eN n)), f ++ f.map (· ++ [n]), by simpa using eb, by rw [List.foldl_append, ← ef]; rfl, ?_⟩
        simp [nmSL, Function.comp_def]
    · obtain ⟨rfl, before, u, f, eb, ef, rfl⟩ := hI
      rw [List.append_nil] at eb
      subst eb
      rw [e2]
      simp
      rw [ef]
      exact h
  rcases hx with e | e
  · subst e
    simp [T__law_subsets, N__law_subsets]
    exact key _ rfl fun _ _ => Iff.rfl
  · subst e
    simp [T__law_subsets, N__law_subsets]
    exact key _ rfl fun _ _ => Iff.rfl
theorem any_fil {α : Type} {p : α → Bool} {l : List α} : (!(l.filter p).isEmpty) = l.any p := by
  rw [Bool.eq_iff_iff]
  simp [List.any_eq_true]
def sp__law_safe : DSp := fun ss P => ∃ (g : Guild) (a : NS), ss = [.d (gd g), .d (nm a)] ∧ Good g ∧ P (nmL (safeL g a))
theorem p__law_safe (ss : List SV) (Q : D → Prop) (h : sp__law_safe ss Q) : T__law_safe sp__law_within [] (EE Q) (startS N__law_safe.length ss) none := by
  obtain ⟨g, a, rfl, G, h⟩ := h
  simp [T__law_safe, N__law_safe]
  intro ad
  refine for_inv tri (fun rest ρ acc => ∃ before done u v w, before ++ rest = g ∧ acc = some (ad, done.map eN) ∧ ρ = [some (.d (gd g)), some (.d (nm a)), none, u, v, w, none] ∧ done = (names before).filter fun h => safeB g h a) (fun r rest ρ acc hI N hN => ?_) (fun ρ acc hI => ?_) g _ _ ⟨[], [], none, none, none, rfl, rfl, rfl, rfl⟩
  · obtain ⟨before, done, u, v, w, eb, rfl, rfl, ed⟩ := hI
    have hr : r ∈ g := by rw [← eb]; simp
    have eb' : (before ++ [r]) ++ rest = g := by rw [← eb]; simp
    have en : names (before ++ [r]) = names before ++ [r.1] := by simp [names]
    have hlen : done.length < 100000 := by
      have h1 := congrArg List.length eb
      have h2 := G.four
      have h3 := List.length_filter_le (fun h => safeB g h a) (names before)
      have h4 : (names before).length = before.length := by simp [names]
      rw [ed]
      simp at h1
      omega
    have es : safeB g r.1 a = (!a.contains r.1 && r.2.2.any (subB a ·)) := by unfold safeB; rw [fears_row G.nd hr]
    simp [tri]
    by_cases hb : r.1 ∈ a
    · simp [hb]
      refine hN _ _ rfl ⟨before ++ [r], done, _, _, _, eb', rfl, rfl, ?_⟩
      rw [en, List.filter_append, ← ed]
      simp [es, hb]
    · simp [hb]
      refine lc_fil nm nm (fun y => subB a y) r.2.2 (fun y hy C hC => ?_) ?_
      · simp
        refine ⟨a, y, _, rfl, .inl rfl, ?_⟩
        cases hs : subB a y <;> simp [hs] at hC ⊢ <;> exact hC
      · rw [fNe_nil nm_shp (by decide), any_fil]
        cases hs : r.2.2.any (subB a ·) with
        | true =>
          simp
          refine ⟨hlen, hN _ _ rfl ⟨before ++ [r], done ++ [r.1], _, _, _, eb', by simp, rfl, ?_⟩⟩
          rw [en, List.filter_append, ← ed]
          simp [es, hb, hs]
        | false =>
          simp
          refine hN _ _ rfl ⟨before ++ [r], done, _, _, _, eb', rfl, rfl, ?_⟩
          rw [en, List.filter_append, ← ed]
          simp [es, hb, hs]
  · obtain ⟨before, done, u, v, w, eb, rfl, rfl, ed⟩ := hI
    rw [List.append_nil] at eb
    subst eb
    simp
    rw [ed]
    exact h
end Ao
set_option Elab.async false
set_option autoImplicit false
set_option linter.all false
set_option maxRecDepth 100000
set_option maxHeartbeats 2000000
namespace Ao
open PySem PySem.Spec PyProof.Rows L2
/-! ### the falls with those who are safe -/
def sf (x : SF) : D := .tuple [nm x.1, nmL x.2]
def sp__law_safes : DSp := fun ss P => ∃ g : Guild, ss = [.d (gd g)] ∧ Good g ∧ P (.list ((safes g).map sf))
theorem p__law_safes (ss : List SV) (Q : D → Prop) (h : sp__law_safes ss Q) : T__law_safes sp__law_subsets [] sp__law_safe [] (EE Q) (startS N__law_safes.length ss) none := by
  obtain ⟨g, rfl, G, h⟩ := h
  simp [T__law_safes, N__law_safes]
  refine lc_map tri (fun r => eN r.1) g (fun r hr C hC => by simpa [tri] using hC) ?_
  have eL : PyData.list (g.map fun r => eN r.1) = nmL (names g) := by simp [nmL, names, Function.comp_def]
  simp [eL]
  refine ⟨names g, _, rfl, .inr rfl, by simp [names]; exact G.four, ?_⟩
  simp
  refine lc_map nm (fun a => sf (a, safeL g a)) _ (fun a ha C hC => ?_) ?_
  · simp
    exact ⟨g, a, rfl, G, hC⟩
  · have e2 : (subs (names g)).map (fun a => sf (a, safeL g a)) = ((subs (names g)).map fun a => (a, safeL g a)).map sf := by simp [Function.comp_def]
    simp only [e2, seq_lst, exists_eq_left]
    refine lc_fil sf sf (fun x => !x.2.isEmpty) _ (fun x hx C hC => ?_) ?_
    · have := fNe_nil (e := eN) eN_shp (by decide) (l := x.2) (P := fun d => ∃ b, d = .bool b ∧ if b = true then C (some (.tuple [nm x.1, .list (x.2.map eN)])) else C none)
      simp [sf, nmL] at this ⊢
      rw [this]
      cases hb : x.2 <;> simp [hb, sf, nmL] at hC ⊢ <;> exact hC
    · exact h
def sp__law_minimal : DSp := fun ss P => ∃ S : List NS, ss = [.d (nmSL S)] ∧ Few S ∧ ∀ R : List NS, (∀ y, y ∈ R ↔ IsMin (· ∈ S) y) → P (nmS R)
theorem p__law_minimal (ss : List SV) (Q : D → Prop) (h : sp__law_minimal ss Q) : T__law_minimal sp__law_within [] (EE Q) (startS N__law_minimal.length ss) none := by
  obtain ⟨S, rfl, few, h⟩ := h
  simp [T__law_minimal, N__law_minimal]
  refine sset_nm (.inr rfl) few fun Z ndZ hZ => ?_
  simp
  refine lc_fil nm nm (fun y => (Z.filter fun z => z != y && subB z y).isEmpty) Z (fun y hy C hC => ?_) ?_
  · simp
    refine lc_fil nm nm (fun z => z != y && subB z y) Z (fun z hz C' hC' => ?_) ?_
    · simp
      by_cases hb : z = y
      · simpa [hb] using hC'
      · have hne : (z != y) = true := by simpa using hb
        rw [hne, Bool.true_and] at hC'
        simp [hb]
        refine ⟨z, y, _, rfl, .inl rfl, ?_⟩
        cases hs : subB z y <;> simp [hs] at hC' ⊢ <;> exact hC'
    · rw [fEq_nil nm_shp (by decide)]
      cases hb : (Z.filter fun z => z != y && subB z y).isEmpty <;> simp only [hb] at hC <;> simp at hC ⊢ <;> exact hC
  · simp
    refine h _ fun y => ?_
    rw [List.mem_filter, hZ, List.isEmpty_iff, List.filter_eq_nil_iff]
    refine and_congr_right fun _ => ⟨fun q z hz hne => ?_, fun q z hz => ?_⟩
    · have := q z ((hZ z).mpr hz)
      simpa [hne] using this
    · by_cases e : z = y
      · simp [e]
      · simp [e, q z ((hZ z).mp hz) e]
def sp__law_needs : DSp := fun ss P => ∃ (g : Guild) (h : Nm), ss = [.d (gd g), .d (.list ((safes g).map sf)), .d (eN h)] ∧ Good g ∧ ∀ R : List NS, (∀ y, y ∈ R ↔ IsMin (needL g h) y) → P (nmS R)
theorem safes_len {g : Guild} (G : Good g) : (safes g).length < 64 := by
  have h1 := G.subs16
  have h2 := List.length_filter_le (fun x : SF => !x.2.isEmpty) ((subs (names g)).map fun a => (a, safeL g a))
  rw [List.length_map] at h2
  unfold safes
  omega
theorem p__law_needs (ss : List SV) (Q : D → Prop) (h : sp__law_needs ss Q) : T__law_needs sp__law_less [] sp__law_minimal [] (EE Q) (startS N__law_needs.length ss) none := by
  obtain ⟨g, n, rfl, G, h⟩ := h
  simp [T__law_needs, N__law_needs]
  have sl := safes_len G
  refine for_inv sf (fun rest ρ acc => acc = none ∧ ∃ before done u v w x y z, before ++ rest = safes g ∧ ρ = [some (.d (gd g)), some (.d (.list ((safes g).map sf))), some (.d (eN n)), some (.d (nmSL done)), u, v, w, x, y, z] ∧ done.length ≤ 16 * before.length ∧ ∀ k, k ∈ done ↔ ∃ s ∈ before, n ∈ s.2 ∧ ∃ r ∈ g, r.1 ∈ s.2 ∧ r.1 ≠ n ∧ ∃ one ∈ r.2.1, k = lessN one s.1) (fun s rest ρ acc hI N hN => ?_) (fun ρ acc hI => ?_) _ _ _ ⟨rfl, [], [], none, none, none, none, none, none, rfl, rfl, by simp, by simp⟩
  · obtain ⟨rfl, before, done, u, v, w, x, y, z, eb, rfl, hl, hd⟩ := hI
    have hbl : before.length < 64 := by
      have := congrArg List.length eb
      simp at this
      omega
    have eb' : (before ++ [s]) ++ rest = safes g := by rw [← eb]; simp
    simp [sf]
    refine for_inv tri (fun rest' ρ acc => acc = none ∧ ∃ bf dn w x y z, bf ++ rest' = g ∧ ρ = [some (.d (gd g)), some (.d (.list ((safes g).map sf))), some (.d (eN n)), some (.d (nmSL (done ++ dn))), some (.d (nm s.1)), some (.d (nmL s.2)), w, x, y, z] ∧ dn.length ≤ 4 * bf.length ∧ ∀ k, k ∈ dn ↔ n ∈ s.2 ∧ ∃ r ∈ bf, r.1 ∈ s.2 ∧ r.1 ≠ n ∧ ∃ one ∈ r.2.1, k = lessN one s.1) (fun r rest' ρ acc hI' N' hN' => ?_) (fun ρ acc hI' => ?_) g _ _ ⟨rfl, [], [], _, _, _, _, rfl, by rw [List.append_nil], by simp, by simp⟩
    · obtain ⟨rfl, bf, dn, w, x, y, z, eb2, rfl, hl2, hd2⟩ := hI'
      have hr : r ∈ g := by rw [← eb2]; simp
      have eb3 : (bf ++ [r]) ++ rest' = g := by rw [← eb2]; simp
      have hbf : bf.length < 4 := by
        have h1 := congrArg List.length eb2
        have h2 := G.four
        simp at h1
        omega
      simp [tri]
      by_cases c : n ∈ s.2 ∧ r.1 ∈ s.2 ∧ r.1 ≠ n
      · obtain ⟨c1, c2, c3⟩ := c
        simp [c1, c2, c3]
        have hl4 := G.lots4 r hr
        simp only [nmSL]
        refine lc_map nm (fun one => nm (lessN one s.1)) r.2.1 (fun one ho C hC => ?_) ?_
        · simp
          exact ⟨one, s.1, rfl, hC⟩
        · simp
          refine ⟨by omega, hN' _ _ rfl ⟨rfl, bf ++ [r], dn ++ r.2.1.map (lessN · s.1), _, _, _, _, eb3, by simp [nmSL, Function.comp_def]; exact ⟨rfl, rfl, rfl, rfl⟩, by simp; omega, fun k => ?_⟩⟩
          rw [List.mem_append, hd2, List.mem_map]
          constructor
          · rintro (⟨q1, r', hr', q⟩ | ⟨one, ho, q⟩)
            · exact ⟨q1, r', List.mem_append_left _ hr', q⟩
            · exact ⟨c1, r, by simp, c2, c3, one, ho, q.symm⟩
          · rintro ⟨q1, r', hr', q2, q3, one, ho, q⟩
            rcases List.mem_append.mp hr' with z | z
            · exact .inl ⟨q1, r', z, q2, q3, one, ho, q⟩
            · rw [List.mem_singleton.mp z] at ho
              exact .inr ⟨one, ho, q.symm⟩
      · have go : N' [some (.d (gd g)), some (.d (.list ((safes g).map sf))), some (.d (eN n)), some (.d (nmSL (done ++ dn))), some (.d (nm s.1)), some (.d (nmL s.2)), some (.d (eN r.1)), some (.d (nmS r.2.1)), some (.d (nmS r.2.2)), z] none := by
          refine hN' _ _ rfl ⟨rfl, bf ++ [r], dn, _, _, _, _, eb3, rfl, by simp; omega, fun k => ?_⟩
          rw [hd2]
          constructor
          · rintro ⟨q1, r', hr', q⟩
            exact ⟨q1, r', List.mem_append_left _ hr', q⟩
          · rintro ⟨q1, r', hr', q2, q3, q⟩
            rcases List.mem_append.mp hr' with z | z
            · exact ⟨q1, r', z, q2, q3, q⟩
            · rw [List.mem_singleton.mp z] at q2 q3
              exact absurd ⟨q1, q2, q3⟩ c
        by_cases c1 : n ∈ s.2
        · by_cases c2 : r.1 ∈ s.2
          · have c3 : r.1 = n := by
              by_cases c3 : r.1 = n
              · exact c3
              · exact absurd ⟨c1, c2, c3⟩ c
            simp [c1, c2, c3] at go ⊢
            exact go
          · simp [c1, c2]
            exact go
        · simp [c1]
          exact go
    · obtain ⟨rfl, bf, dn, w, x, y, z, eb2, rfl, hl2, hd2⟩ := hI'
      rw [List.append_nil] at eb2
      subst eb2
      have g4 := G.four
      refine hN _ _ rfl ⟨rfl, before ++ [s], done ++ dn, _, _, _, _, _, _, eb', rfl, by simp; omega, fun k => ?_⟩
      rw [List.mem_append, hd, hd2]
      constructor
      · rintro (⟨s', hs', q⟩ | q)
        · exact ⟨s', List.mem_append_left _ hs', q⟩
        · exact ⟨s, by simp, q⟩
      · rintro ⟨s', hs', q⟩
        rcases List.mem_append.mp hs' with z | z
        · exact .inl ⟨s', z, q⟩
        · rw [List.mem_singleton.mp z] at q
          exact .inr q
  · obtain ⟨rfl, before, done, u, v, w, x, y, z, eb, rfl, hl, hd⟩ := hI
    rw [List.append_nil] at eb
    subst eb
    have hd' : ∀ k, k ∈ done ↔ needL g n k := hd
    simp
    refine ⟨done, rfl, G.few fun k hk => ?_, fun R mem => h R fun k => ?_⟩
    · obtain ⟨s, _, _, r, hr, _, _, one, ho, q⟩ := (hd' k).mp hk
      rw [q]
      exact List.filter_sublist.trans ((G.lots r hr).2.2 one ho).2
    · rw [mem]
      exact ⟨fun q => ⟨(hd' k).mp q.1, fun z hz => q.2 z ((hd' z).mpr hz)⟩, fun q => ⟨(hd' k).mpr q.1, fun z hz => q.2 z ((hd' z).mp hz)⟩⟩
def sp__law_meets : DSp := fun ss P => ∃ (R : List NS) (l : NS), ss = [.d (nmS R), .d (nm l)] ∧ P (.bool (metB R l))
theorem p__law_meets (ss : List SV) (Q : D → Prop) (h : sp__law_meets ss Q) : T__law_meets (EE Q) (startS N__law_meets.length ss) none := by
  obtain ⟨R, l, rfl, h⟩ := h
  simp [T__law_meets, N__law_meets]
  refine lc_fil nm nm (fun one => (joint one l).isEmpty) R (fun one ho C hC => ?_) ?_
  · simp
    refine lc_fil eN eN (fun n => l.contains n) one (fun n hn C' hC' => ?_) ?_
    · by_cases hb : n ∈ l <;> simp [hb] at hC' ⊢ <;> exact hC'
    · rw [fEq_nil eN_shp (by decide)]
      have e : (one.filter fun n => l.contains n) = joint one l := rfl
      rw [e]
      cases hb : (joint one l).isEmpty <;> simp only [hb] at hC <;> simp at hC ⊢ <;> exact hC
  · rw [fEq_nil nm_shp (by decide)]
    have e : (R.filter fun one => (joint one l).isEmpty).isEmpty = metB R l := by
      unfold metB
      rw [Bool.eq_iff_iff, List.isEmpty_iff, List.filter_eq_nil_iff, List.all_eq_true]
      simp
    rw [e]
    exact h
def sp__law_all_pairs : DSp := fun ss P => ∃ g : Guild, ss = [.d (gd g)] ∧ Good g ∧ P (.list ((pairs g).map pr))
theorem p__law_all_pairs (ss : List SV) (Q : D → Prop) (h : sp__law_all_pairs ss Q) : T__law_all_pairs (EE Q) (startS N__law_all_pairs.length ss) none := by
  obtain ⟨g, rfl, G, h⟩ := h
  simp [T__law_all_pairs, N__law_all_pairs]
  refine for_inv tri (fun rest ρ acc => acc = none ∧ ∃ before u v w, before ++ rest = g ∧ ρ = [some (.d (gd g)), some (.d (.list ((pairs before).map pr))), u, v, w, none]) (fun r rest ρ acc hI N hN => ?_) (fun ρ acc hI => ?_) g _ _ ⟨rfl, [], none, none, none, rfl, rfl⟩
  · obtain ⟨rfl, before, u, v, w, eb, rfl⟩ := hI
    have hr : r ∈ g := by rw [← eb]; simp
    have eb' : (before ++ [r]) ++ rest = g := by rw [← eb]; simp
    have hl := G.lots4 r hr
    have hb : (pairs before).length ≤ 16 := by
      have h1 := G.pairs16
      have h2 : pairs g = pairs before ++ pairs (r :: rest) := by rw [← eb]; unfold pairs; rw [List.flatMap_append]
      rw [h2, List.length_append] at h1
      omega
    simp [tri]
    refine ⟨_, rfl, by omega, ?_⟩
    refine lc_map (fun k : Nat => PyData.int (k : Nat)) (fun k => pr (r.1, k)) _ (fun k hk C hC => by simpa [pr] using hC) ?_
    simp
    have e : (pairs before).map pr ++ (List.range r.2.1.length).map (fun k => pr (r.1, k)) = (pairs (before ++ [r])).map pr := by
      unfold pairs
      rw [List.flatMap_append]
      simp [Function.comp_def]
    refine ⟨by omega, ?_⟩
    rw [e]
    exact hN _ _ rfl ⟨rfl, before ++ [r], _, _, _, eb', rfl⟩
  · obtain ⟨rfl, before, u, v, w, eb, rfl⟩ := hI
    rw [List.append_nil] at eb
    subst eb
    simpa using h
end Ao
set_option Elab.async false
set_option autoImplicit false
set_option linter.all false
set_option maxRecDepth 100000
set_option maxHeartbeats 2000000
namespace Ao
open PySem PySem.Spec PyProof.Rows L2
/-! ### the table of lots -/
def tab (g : Guild) : List (Str × D) := g.map fun r => (sN r.1, nmS r.2.1)
theorem tab_look {g : Guild} (nd : (names g).Nodup) {r : House} (hr : r ∈ g) : (tab g).lookup (sN r.1) = some (nmS r.2.1) := by
  induction g with
  | nil => cases hr
  | cons s g ih =>
    have nd' : s.1 ∉ names g ∧ (names g).Nodup := List.nodup_cons.mp nd
    show ((sN s.1, nmS s.2.1) :: tab g).lookup (sN r.1) = _
    rw [List.lookup_cons]
    rcases List.mem_cons.mp hr with e | hr
    · subst e; simp
    · have hne : (sN r.1 == sN s.1) = false := by
        rw [beq_eq_false_iff_ne]
        intro e
        exact nd'.1 (by rw [← sN_inj _ _ e]; exact List.mem_map.mpr ⟨r, hr, rfl⟩)
      rw [hne]
      exact ih nd'.2 hr
theorem tab_nd {g : Guild} (nd : (names g).Nodup) : ((tab g).map (·.1)).Nodup := by
  unfold tab
  rw [List.map_map]
  refine List.pairwise_map.mpr ((List.pairwise_map.mp nd).imp fun {a b} h e => h ?_)
  exact sN_inj _ _ e
def tabT (i j : Nat) : TD := d2 fIx (dDct i (d2 fIx (dN j) (dC (.int 0)))) (d2 fIx (dN j) (dC (.int 1)))
theorem tab_td {g : Guild} (G : Good g) {p : Pr} (hp : p ∈ pairs g) {i j : Nat} {ρ : SS} {P : D → Prop} (h1 : ρ[i]? = some (some (.dct (tab g)))) (h2 : ρ[j]? = some (some (.d (pr p)))) (h : P (nm (lotAt g p))) : tabT i j ρ P := by
  obtain ⟨r, hr, e, hk⟩ := mem_pairs.mp hp
  have lq := pair_lot G.nd hp
  rw [← e, lots_row G.nd hr] at lq
  refine ⟨tab g, h1, pr p, h2, ?_⟩
  show fIx (pr p) (.int 0) _
  unfold pr
  rw [fIx_0]
  refine ⟨sN p.1, nmS r.2.1, rfl, by rw [← e]; exact tab_look G.nd hr, pr p, h2, ?_⟩
  show fIx (pr p) (.int 1) _
  unfold pr
  rw [fIx_1]
  show fIx (.tuple (r.2.1.map nm)) (.int (p.2 : Nat)) P
  rw [fIx_tup]
  exact ⟨nm (lotAt g p), by rw [List.getElem?_map, lq]; rfl, h⟩
theorem set_at {ρ : SS} {n m : Nat} {x y : Option SV} (h : n ≠ m) : ((ρ.set n x).set n y)[m]? = ρ[m]? := by
  rw [List.getElem?_set_ne h, List.getElem?_set_ne h]
theorem both_td {g : Guild} (G : Good g) {p q : Pr} (hp : p ∈ pairs g) (hq : q ∈ pairs g) {i j k n : Nat} {ρ : SS} {P : D → Prop} (h1 : ρ[i]? = some (some (.dct (tab g)))) (h2 : ρ[j]? = some (some (.d (pr p)))) (h3 : ρ[k]? = some (some (.d (pr q)))) (ni : n ≠ i) (nk : n ≠ k) (hn : n < ρ.length)
    (h : P (nmL (joint (lotAt g p) (lotAt g q)))) : dLc (iSeq (tabT i j)) (gN n) (tb (d2 fIn (dN n) (tabT i k))) (dN n) [n] ρ P := by
  show tabT i j ρ _
  refine tab_td G hp h1 h2 ?_
  simp
  refine lc_fil eN eN (fun x => (lotAt g q).contains x) (lotAt g p) (fun x hx C hC => ?_) h
  simp [hn]
  refine tab_td G hq (by rw [List.getElem?_set_ne ni]; exact h1) (by rw [List.getElem?_set_ne nk]; exact h3) ?_
  by_cases hb : x ∈ lotAt g q <;> simp [hb, hn] at hC ⊢ <;> exact hC
theorem vtab {g : Guild} (G : Good g) {i0 n : Nat} {ρ : SS} {P : List SV → Prop} (h0 : ρ[i0]? = some (some (.d (gd g)))) (hn : n < ρ.length) (h : P [.dct (tab g)]) (z : n ≠ i0) : vDict (dLc (iSeq (dN i0)) (gN n) bYes (dTup (aCons (d2 fIx (dN n) (dC (.int 0))) (aCons (d2 fIx (dN n) (dC (.int 1))) aNil))) [n]) ρ P := by
  simp [h0]
  refine lc_map tri (fun r => .tuple [eN r.1, nmS r.2.1]) g (fun r hr C hC => ?_) ?_
  · simpa [hn, tri] using hC
  · refine ⟨tab g, by simp [tab, eN, Function.comp_def], ?_, h⟩
    have := tab_nd G.nd
    exact this
theorem range_rest {k n : Nat} {x : Nat} {rest : List Nat} (h : x :: rest = List.range' k (n - k)) : x = k ∧ k < n ∧ rest = List.range' (k + 1) (n - (k + 1)) := by
  have hk : k < n := by
    rcases Nat.lt_or_ge k n with z | z
    · exact z
    · have : n - k = 0 := by omega
      rw [this] at h; cases h
  have e : n - k = (n - (k + 1)) + 1 := by omega
  rw [e, List.range'_succ] at h
  injection h with h1 h2
  exact ⟨h1, hk, h2⟩
theorem range_end {k n : Nat} (h : [] = List.range' k (n - k)) : n ≤ k := by
  rcases Nat.lt_or_ge k n with z | z
  · have e : n - k = (n - (k + 1)) + 1 := by omega
    rw [e, List.range'_succ] at h; cases h
  · exact z
def sp__law_in_fall : DSp := fun ss P => ∃ (g : Guild) (a : NS), ss = [.d (gd g), .d (nm a), .d (nmL (safeL g a))] ∧ Good g ∧ P (.tuple ((inFall g a).map flt))
theorem p__law_in_fall (ss : List SV) (Q : D → Prop) (h : sp__law_in_fall ss Q) : T__law_in_fall sp__law_all_pairs [] sp__law_within [] (EE Q) (startS N__law_in_fall.length ss) none := by
  obtain ⟨g, a, rfl, G, h⟩ := h
  have big := inFall_len G a
  simp only [T__law_in_fall, dSq_eq, dPrN_eq]
  refine ⟨by simp, by simp [N__law_in_fall], ?_⟩
  refine vtab G (by simp [N__law_in_fall]) (by simp [N__law_in_fall]) ?_ (by decide)
  simp [N__law_in_fall]
  intro ad
  refine ⟨g, rfl, G, ?_⟩
  simp
  refine lc_fil pr pr (fun p => safeB g p.1 a) (pairs g) (fun p hp C hC => ?_) ?_
  · have hm : p.1 ∈ safeL g a ↔ safeB g p.1 a = true := by rw [mem_safeL]; exact ⟨fun q => q.2, fun q => ⟨pair_house hp, q⟩⟩
    simp [pr]
    cases hb : safeB g p.1 a with
    | true =>
      have := hm.mpr hb
      simp [this]
      simpa [hb, pr] using hC
    | false =>
      have : ¬ p.1 ∈ safeL g a := fun q => by rw [hm.mp q] at hb; cases hb
      simp [this]
      simpa [hb] using hC
  have sub : ∀ p ∈ (pairs g).filter (fun p => safeB g p.1 a), p ∈ pairs g := fun p hp => (List.mem_filter.mp hp).1
  have l16 : ((pairs g).filter (fun p => safeB g p.1 a)).length ≤ 16 := Nat.le_trans (List.length_filter_le _ _) G.pairs16
  unfold inFall at h big
  generalize (pairs g).filter (fun p => safeB g p.1 a) = ps at sub h big l16 ⊢
  simp
  refine ⟨ps.length, rfl, by omega, ?_⟩
  rw [List.range_eq_range']
  refine for_inv (fun i : Nat => PyData.int (i : Nat)) (fun rest ρ acc => ∃ k done v5 v7 v8 v9 v10, rest = List.range' k (ps.length - k) ∧ acc = some (ad, done.map flt) ∧ ρ = [some (.d (gd g)), some (.d (nm a)), some (.d (nmL (safeL g a))), some (.dct (tab g)), none, v5, some (.d (.list (ps.map pr))), v7, v8, v9, v10, none] ∧ done ++ twoFrom (inB g a) (ps.drop k) = twoFrom (inB g a) ps) (fun i rest ρ acc hI N hN => ?_) (fun ρ acc hI => ?_) _ _ _ ⟨0, [], none, none, none, none, none, rfl, rfl, rfl, by simp⟩
  · obtain ⟨k, done, v5, v7, v8, v9, v10, e1, rfl, rfl, e4⟩ := hI
    obtain ⟨rfl, hk, rfl⟩ := range_rest e1
    rw [List.drop_eq_getElem_cons hk, twoFrom, ← List.drop_eq_getElem_cons hk] at e4
    have hm : ps[i] ∈ pairs g := sub _ (List.getElem_mem hk)
    have hg : ps[i]? = some ps[i] := List.getElem?_eq_getElem hk
    generalize ps[i] = p at hm e4 hg ⊢
    simp
    refine ⟨i, rfl, ps.length, rfl, by omega, by omega, ?_⟩
    rw [List.range_eq_range']
    refine for_inv (fun j : Nat => PyData.int ((i + j : Nat) : Int)) (fun rest ρ acc => ∃ m dn v5 v8 v9 v10, rest = List.range' m (ps.length - i - m) ∧ acc = some (ad, (done ++ dn).map flt) ∧ ρ = [some (.d (gd g)), some (.d (nm a)), some (.d (nmL (safeL g a))), some (.dct (tab g)), none, v5, some (.d (.list (ps.map pr))), some (.d (.int (i : Nat))), v8, v9, v10, none] ∧ dn ++ ((ps.drop (i + m)).filter (inB g a p)).map (fun q => (p, q)) = ((ps.drop i).filter (inB g a p)).map (fun q => (p, q))) (fun j rest ρ acc hI N' hN' => ?_) (fun ρ acc hI => ?_) _ _ _ ⟨0, [], v5, v8, v9, v10, rfl, by simp, rfl, by simp⟩
    · obtain ⟨m, dn, v5, v8, v9, v10, f1, rfl, rfl, f4⟩ := hI
      obtain ⟨rfl, hj, rfl⟩ := range_rest f1
      have hk2 : i + j < ps.length := by omega
      rw [List.drop_eq_getElem_cons hk2] at f4
      have hm2 : ps[i + j] ∈ pairs g := sub _ (List.getElem_mem hk2)
      have hg2 : ps[i + j]? = some ps[i + j] := List.getElem?_eq_getElem hk2
      generalize ps[i + j] = q at hm2 f4 hg2 ⊢
      have ecast : PyData.int ((i + j : Nat) : Int) = .int (i + j : Nat) := rfl
      have gi : ∀ P, fIx (.list (ps.map pr)) (.int (i : Nat)) P ↔ P (pr p) := fun P => by rw [fIx_lst, List.getElem?_map, hg]; simp
      have gj : ∀ P, fIx (.list (ps.map pr)) (.int ((i + j : Nat) : Int)) P ↔ P (pr q) := fun P => by rw [fIx_lst, List.getElem?_map, hg2]; simp
      simp only [gN_eq, dSq_eq, dPr_eq, aCons_eq, aNil_eq, d2_eq, dN_eq]
      simp only [List.set_cons_succ, List.set_cons_zero, List.getElem?_cons_succ, List.getElem?_cons_zero, Option.some.injEq, SV.d.injEq, exists_eq_left', gi, gj, ex_2]
      simp only [dSet_eq]
      refine both_td (i := 3) (j := 5) (k := 9) (n := 11) G hm hm2 rfl rfl rfl (by decide) (by decide) (by simp) ?_
      simp
      refine ⟨_, a, _, rfl, .inr rfl, ?_⟩
      cases hb : subB (joint (lotAt g p) (lotAt g q)) a with
      | false =>
        have hb' : inB g a p q = false := hb
        rw [List.filter_cons_of_neg (by simp [hb'])] at f4
        simp
        exact hN' _ _ rfl ⟨j + 1, dn, _, _, _, _, rfl, by simp, rfl, f4⟩
      | true =>
        have hb' : inB g a p q = true := hb
        rw [List.filter_cons_of_pos hb'] at f4
        have hlen : done.length + dn.length < 100000 := by
          have h1 := congrArg List.length e4
          have h2 := congrArg List.length f4
          simp at h1 h2
          omega
        simp
        exact ⟨hlen, hN' _ _ rfl ⟨j + 1, dn ++ [(p, q)], _, _, _, _, rfl, by simp [flt], rfl, by simpa [Nat.add_assoc] using f4⟩⟩
    · obtain ⟨m, dn, v5, v8, v9, v10, f1, rfl, rfl, f4⟩ := hI
      have hm' := range_end f1
      have hd : ps.drop (i + m) = [] := List.drop_of_length_le (by omega)
      rw [hd] at f4
      simp at f4
      refine hN _ _ rfl ⟨i + 1, done ++ dn, _, _, _, _, _, rfl, rfl, rfl, ?_⟩
      rw [List.append_assoc, f4]
      exact e4
  · obtain ⟨k, done, v5, v7, v8, v9, v10, e1, rfl, rfl, e4⟩ := hI
    have hk : ps.drop k = [] := List.drop_of_length_le (range_end e1)
    rw [hk, twoFrom, List.append_nil] at e4
    simpa [e4] using h
def sp__law_odds : DSp := fun ss P => ∃ g : Guild, ss = [.d (gd g), .d (.list ((safes g).map sf))] ∧ Good g ∧ P (.tuple ((allOdds g).map od))
theorem p__law_odds (ss : List SV) (Q : D → Prop) (h : sp__law_odds ss Q) : T__law_odds sp__law_all_pairs [] sp__law_within [] (EE Q) (startS N__law_odds.length ss) none := by
  obtain ⟨g, rfl, G, h⟩ := h
  have big := allOdds_len G
  rw [← lawOdds_eq G] at h big
  simp only [T__law_odds, dSq_eq, dPrN_eq]
  refine ⟨by simp, by simp [N__law_odds], ?_⟩
  refine vtab G (by simp [N__law_odds]) (by simp [N__law_odds]) ?_ (by decide)
  simp [N__law_odds]
  intro ad
  refine ⟨g, rfl, G, ?_⟩
  have sub : ∀ p ∈ pairs g, p ∈ pairs g := fun p hp => hp
  have l16 := G.pairs16
  generalize hps : pairs g = ps at h big l16 ⊢
  have sub : ∀ p ∈ ps, p ∈ pairs g := fun p hp => by rw [hps]; exact hp
  simp
  refine ⟨ps.length, rfl, by omega, ?_⟩
  rw [List.range_eq_range']
  refine for_inv (fun i : Nat => PyData.int (i : Nat)) (fun rest ρ acc => ∃ k done v4 v6 v7 v8 v9 v11, rest = List.range' k (ps.length - k) ∧ acc = some (ad, done.map od) ∧ ρ = [some (.d (gd g)), some (.d (.list ((safes g).map sf))), some (.dct (tab g)), none, v4, some (.d (.list (ps.map pr))), v6, v7, v8, v9, none, v11, none, none] ∧ done ++ twoFrom (lawAt g) (ps.drop k) = twoFrom (lawAt g) ps) (fun i rest ρ acc hI N hN => ?_) (fun ρ acc hI => ?_) _ _ _ ⟨0, [], none, none, none, none, none, none, rfl, rfl, rfl, by simp⟩
  · obtain ⟨k, done, v4, v6, v7, v8, v9, v11, e1, rfl, rfl, e4⟩ := hI
    obtain ⟨rfl, hk, rfl⟩ := range_rest e1
    rw [List.drop_eq_getElem_cons hk, twoFrom, ← List.drop_eq_getElem_cons hk] at e4
    have hm : ps[i] ∈ pairs g := sub _ (List.getElem_mem hk)
    have hg : ps[i]? = some ps[i] := List.getElem?_eq_getElem hk
    generalize ps[i] = p at hm e4 hg ⊢
    simp
    refine ⟨i, rfl, ps.length, rfl, by omega, by omega, ?_⟩
    rw [List.range_eq_range']
    refine for_inv (fun j : Nat => PyData.int ((i + j : Nat) : Int)) (fun rest ρ acc => ∃ m dn v4 v7 v8 v9 v11, rest = List.range' m (ps.length - i - m) ∧ acc = some (ad, (done ++ dn).map od) ∧ ρ = [some (.d (gd g)), some (.d (.list ((safes g).map sf))), some (.dct (tab g)), none, v4, some (.d (.list (ps.map pr))), some (.d (.int (i : Nat))), v7, v8, v9, none, v11, none, none] ∧ dn ++ ((ps.drop (i + m)).filter (lawAt g p)).map (fun q => (p, q)) = ((ps.drop i).filter (lawAt g p)).map (fun q => (p, q))) (fun j rest ρ acc hI N' hN' => ?_) (fun ρ acc hI => ?_) _ _ _ ⟨0, [], v4, v7, v8, v9, v11, rfl, by simp, rfl, by simp⟩
    · obtain ⟨m, dn, v4, v7, v8, v9, v11, f1, rfl, rfl, f4⟩ := hI
      obtain ⟨rfl, hj, rfl⟩ := range_rest f1
      have hk2 : i + j < ps.length := by omega
      rw [List.drop_eq_getElem_cons hk2] at f4
      have hm2 : ps[i + j] ∈ pairs g := sub _ (List.getElem_mem hk2)
      have hg2 : ps[i + j]? = some ps[i + j] := List.getElem?_eq_getElem hk2
      generalize ps[i + j] = q at hm2 f4 hg2 ⊢
      have gi : ∀ P, fIx (.list (ps.map pr)) (.int (i : Nat)) P ↔ P (pr p) := fun P => by rw [fIx_lst, List.getElem?_map, hg]; simp
      have gj : ∀ P, fIx (.list (ps.map pr)) (.int ((i + j : Nat) : Int)) P ↔ P (pr q) := fun P => by rw [fIx_lst, List.getElem?_map, hg2]; simp
      simp only [gN_eq, dSq_eq, dPr_eq, aCons_eq, aNil_eq, d2_eq, dN_eq]
      simp only [List.set_cons_succ, List.set_cons_zero, List.getElem?_cons_succ, List.getElem?_cons_zero, Option.some.injEq, SV.d.injEq, exists_eq_left', gi, gj, ex_2]
      simp only [dSet_eq]
      refine both_td (i := 2) (j := 4) (k := 8) (n := 10) G hm hm2 rfl rfl rfl (by decide) (by decide) (by simp) ?_
      simp
      refine lc_fil sf (fun s => nm s.1) (fun s => s.2.contains p.1 && s.2.contains q.1) (safes g) (fun s hs C hC => ?_) ?_
      · simp [sf, pr]
        by_cases c1 : p.1 ∈ s.2
        · by_cases c2 : q.1 ∈ s.2
          · simp [c1, c2] at hC ⊢; exact hC
          · simp [c1, c2] at hC ⊢; exact hC
        · simp [c1] at hC ⊢; exact hC
      · simp
        refine lc_fil (fun s : SF => nm s.1) (fun s => nm s.1) (fun s => subB (joint (lotAt g p) (lotAt g q)) s.1) _ (fun s hs C hC => ?_) ?_
        · simp
          refine ⟨_, s.1, _, rfl, .inr rfl, ?_⟩
          cases hb : subB (joint (lotAt g p) (lotAt g q)) s.1 <;> simp [hb] at hC ⊢ <;> exact hC
        · rw [fNe_nil (fun s : SF => nm_shp s.1) (by decide), List.filter_filter]
          have key : (!((safes g).filter fun s => (s.2.contains p.1 && s.2.contains q.1) && subB (joint (lotAt g p) (lotAt g q)) s.1).isEmpty) = lawAt g p q := any_fil
          have key2 : (!((safes g).filter fun s => subB (joint (lotAt g p) (lotAt g q)) s.1 && (s.2.contains p.1 && s.2.contains q.1)).isEmpty) = lawAt g p q := by
            rw [← key]
            congr 2
            exact List.filter_congr fun s _ => Bool.and_comm _ _
          have key3 : (!((safes g).filter fun s => subB (joint (lotAt g p) (lotAt g q)) s.1 && (decide (p.1 ∈ s.2) && decide (q.1 ∈ s.2))).isEmpty) = lawAt g p q := by
            rw [← key2]
            congr 2
            exact List.filter_congr fun s _ => by rw [List.contains_eq_mem, List.contains_eq_mem]
          rw [key3]
          cases hb' : lawAt g p q with
          | false =>
            rw [List.filter_cons_of_neg (by simp [hb'])] at f4
            simp
            exact hN' _ _ rfl ⟨j + 1, dn, _, _, _, _, _, rfl, by simp, rfl, f4⟩
          | true =>
            rw [List.filter_cons_of_pos hb'] at f4
            have hlen : done.length + dn.length < 100000 := by
              have h1 := congrArg List.length e4
              have h2 := congrArg List.length f4
              simp at h1 h2
              omega
            simp
            exact ⟨hlen, hN' _ _ rfl ⟨j + 1, dn ++ [(p, q)], _, _, _, _, _, rfl, by simp [od], rfl, by simpa [Nat.add_assoc] using f4⟩⟩
    · obtain ⟨m, dn, v4, v7, v8, v9, v11, f1, rfl, rfl, f4⟩ := hI
      have hm' := range_end f1
      have hd : ps.drop (i + m) = [] := List.drop_of_length_le (by omega)
      rw [hd] at f4
      simp at f4
      refine hN _ _ rfl ⟨i + 1, done ++ dn, _, _, _, _, _, _, rfl, rfl, rfl, ?_⟩
      rw [List.append_assoc, f4]
      exact e4
  · obtain ⟨k, done, v4, v6, v7, v8, v9, v11, e1, rfl, rfl, e4⟩ := hI
    have hk : ps.drop k = [] := List.drop_of_length_le (range_end e1)
    rw [hk, twoFrom, List.append_nil] at e4
    simpa [e4] using h
end Ao
set_option Elab.async false
set_option autoImplicit false
set_option linter.all false
set_option maxRecDepth 100000
set_option maxHeartbeats 2000000
namespace Ao
open PySem PySem.Spec PyProof.Rows L2
/-! ### what repr can tell -/
def RpOk (d : D) : Prop := PyData.showable d = true ∧ PyData.hasDict d = false ∧ d.depth ≤ 60 ∧ (PyData.shown d).length ≤ 1000000
structure Rp (W n : Nat) (d : D) : Prop where
  s : PyData.showable d = true
  h : PyData.hasDict d = false
  l : PyData.leavesShort 13 d = true
  w : PyData.weight d ≤ W
  p : d.depth ≤ n
theorem Rp.ok {W n : Nat} {d : D} (r : Rp W n d) (hW : 15 * W + 13 ≤ 1000000) (hn : n ≤ 60) : RpOk d := by
  refine ⟨r.s, r.h, Nat.le_trans r.p hn, ?_⟩
  have h1 := PyData.shown_le 13 (by decide) d r.l
  have h2 : (13 + 2) * PyData.weight d ≤ 15 * W := Nat.mul_le_mul (by decide) r.w
  omega
theorem Rp.mono {W W' n n' : Nat} {d : D} (r : Rp W n d) (a : W ≤ W') (b : n ≤ n') : Rp W' n' d := ⟨r.s, r.h, r.l, Nat.le_trans r.w a, Nat.le_trans r.p b⟩
theorem all_parts {W n : Nat} : ∀ {xs : List D}, (∀ x ∈ xs, Rp W n x) → PyData.hasDictAll xs = false ∧ PyData.leavesShortAll 13 xs = true ∧ PyData.weightAll xs ≤ (W + 1) * xs.length ∧ PyData.showableAll xs = true
  | [], _ => ⟨rfl, rfl, Nat.zero_le _, rfl⟩
  | x :: xs, h => by
    have r := h x List.mem_cons_self
    obtain ⟨h1, h2, h3, h4⟩ := all_parts (xs := xs) fun y hy => h y (List.mem_cons_of_mem _ hy)
    refine ⟨?_, ?_, ?_, ?_⟩
    · rw [PyData.hasDictAll, r.h, h1]; rfl
    · rw [PyData.leavesShortAll, r.l, h2]; rfl
    · rw [PyData.weightAll, List.length_cons, Nat.mul_succ]
      have := r.w
      omega
    · rw [PyData.showableAll, r.s, h4]; rfl
theorem Rp.tup {W n m : Nat} {xs : List D} (h : ∀ x ∈ xs, Rp W n x) (hl : xs.length ≤ m) : Rp ((W + 1) * m) (n + 1) (.tuple xs) := by
  obtain ⟨h1, h2, h3, h4⟩ := all_parts h
  exact ⟨h4, h1, h2, Nat.le_trans h3 (Nat.mul_le_mul_left _ hl), Nat.succ_le_succ (depthAll_le fun x hx => (h x hx).p)⟩
theorem Rp.lst {W n m : Nat} {xs : List D} (h : ∀ x ∈ xs, Rp W n x) (hl : xs.length ≤ m) : Rp ((W + 1) * m) (n + 1) (.list xs) := by
  obtain ⟨h1, h2, h3, h4⟩ := all_parts h
  exact ⟨h4, h1, h2, Nat.le_trans h3 (Nat.mul_le_mul_left _ hl), Nat.succ_le_succ (depthAll_le fun x hx => (h x hx).p)⟩
theorem rp_name0 : ∀ a : Nm, PyData.leavesShort 13 (.str (sN a)) = true ∧ PyData.weight (.str (sN a)) ≤ 4 := by decide +kernel
theorem rp_name (a : Nm) : Rp 4 0 (eN a) := ⟨rfl, rfl, (rp_name0 a).1, (rp_name0 a).2, Nat.zero_le _⟩
theorem rp_int0 : ∀ k : Fin 16, PyData.leavesShort 13 (.int ((k.val : Nat) : Int)) = true ∧ PyData.weight (.int ((k.val : Nat) : Int)) ≤ 7 ∧ PyData.showable (.int ((k.val : Nat) : Int)) = true := by decide +kernel
theorem rp_int {k : Nat} (h : k < 16) : Rp 7 0 (.int (k : Nat)) := by
  have := rp_int0 ⟨k, h⟩
  exact ⟨this.2.2, rfl, this.1, this.2.1, Nat.zero_le _⟩
theorem rp_odds0 : PyData.leavesShort 13 (.str (Str.ofString "odds")) = true ∧ PyData.weight (.str (Str.ofString "odds")) ≤ 4 := by decide +kernel
theorem rp_bool (b : Bool) : Rp 0 0 (.bool b) := ⟨rfl, rfl, rfl, Nat.zero_le _, Nat.zero_le _⟩
theorem all_map {α : Type} {W n : Nat} {e : α → D} {l : List α} (h : ∀ x ∈ l, Rp W n (e x)) : ∀ y ∈ l.map e, Rp W n y := fun y hy => by
  obtain ⟨x, hx, q⟩ := List.mem_map.mp hy
  rw [← q]; exact h x hx
theorem Rp.tupM {α : Type} {W n m V k : Nat} {e : α → D} {l : List α} (h : ∀ x ∈ l, Rp W n (e x)) (hl : l.length ≤ m) (hV : (W + 1) * m ≤ V) (hk : n + 1 ≤ k) : Rp V k (.tuple (l.map e)) :=
  (Rp.tup (m := m) (all_map h) (by rw [List.length_map]; exact hl)).mono hV hk
theorem rp_nm {l : NS} (h : l.length ≤ 4) : Rp 20 1 (nm l) := Rp.tupM (W := 4) (m := 4) (fun x _ => rp_name x) h (by decide) (by decide)
theorem rp_nmS {L : List NS} (hl : L.length ≤ 64) (h : ∀ l ∈ L, l.length ≤ 4) : Rp 1344 2 (nmS L) := Rp.tupM (W := 20) (m := 64) (fun x hx => rp_nm (h x hx)) hl (by decide) (by decide)
section
variable {g : Guild}
theorem Good.n4 (G : Good g) : (names g).length ≤ 4 := by simp [names]; exact G.four
theorem rp_gd (G : Good g) : Rp 16144 4 (gd g) := by
  refine Rp.tupM (W := 4035) (n := 3) (m := 4) (fun r hr => ?_) G.four (by decide) (by decide)
  have l1 : ∀ x ∈ r.2.1, x.length ≤ 4 := fun x hx => Nat.le_trans ((G.lots r hr).2.2 x hx).2.length_le G.n4
  have l2 : ∀ x ∈ r.2.2, x.length ≤ 4 := fun x hx => Nat.le_trans (((G.fears r hr).2.2 x hx).trans List.filter_sublist).length_le G.n4
  have l3 := G.lots4 r hr
  have l4 : r.2.2.length < 64 := by
    have := G.fears64 (h := r.1) (mem_names.mpr ⟨r, hr, rfl⟩)
    rw [fears_row G.nd hr] at this
    exact this
  refine Rp.tup (W := 1344) (n := 2) (fun x hx => ?_) (m := 3) (by simp)
  rcases List.mem_cons.mp hx with e | hx
  · rw [e]; exact (rp_name _).mono (by decide) (by decide)
  · rcases List.mem_cons.mp hx with e | hx
    · rw [e]; exact rp_nmS (by omega) l1
    · rw [List.mem_singleton.mp hx]; exact rp_nmS (by omega) l2
theorem rp_pr (G : Good g) {p : Pr} (hp : p ∈ pairs g) : Rp 16 1 (pr p) := by
  obtain ⟨r, hr, _, hk⟩ := mem_pairs.mp hp
  have := G.lots4 r hr
  refine Rp.tup (W := 7) (n := 0) (fun x hx => ?_) (m := 2) (by simp)
  rcases List.mem_cons.mp hx with e | hx
  · rw [e]; exact (rp_name _).mono (by decide) (by decide)
  · rw [List.mem_singleton.mp hx]; exact rp_int (by omega)
theorem rp_od (G : Good g) {x : Pr × Pr} (h1 : x.1 ∈ pairs g) (h2 : x.2 ∈ pairs g) : Rp 34 2 (od x) := by
  refine Rp.tup (W := 16) (n := 1) (fun y hy => ?_) (m := 2) (by simp)
  rcases List.mem_cons.mp hy with e | hy
  · rw [e]; exact rp_pr G h1
  · rw [List.mem_singleton.mp hy]; exact rp_pr G h2
theorem rp_flt (G : Good g) {x : Pr × Pr} (h1 : x.1 ∈ pairs g) (h2 : x.2 ∈ pairs g) : Rp 51 2 (flt x) := by
  refine Rp.tup (W := 16) (n := 1) (fun y hy => ?_) (m := 3) (by simp)
  rcases List.mem_cons.mp hy with e | hy
  · rw [e]; exact ⟨rfl, rfl, rp_odds0.1, Nat.le_trans rp_odds0.2 (by decide), Nat.zero_le _⟩
  · rcases List.mem_cons.mp hy with e | hy
    · rw [e]; exact rp_pr G h1
    · rw [List.mem_singleton.mp hy]; exact rp_pr G h2
theorem rp_odds (G : Good g) : Rp 8960 3 (.tuple ((allOdds g).map od)) := Rp.tupM (W := 34) (n := 2) (m := 256) (fun x hx => rp_od G ((mem_all G).mp hx).1 ((mem_all G).mp hx).2.1) (allOdds_len G) (by decide) (by decide)
theorem rp_due (G : Good g) : Rp 13312 3 (.tuple ((allOdds g).map flt)) := Rp.tupM (W := 51) (n := 2) (m := 256) (fun x hx => rp_flt G ((mem_all G).mp hx).1 ((mem_all G).mp hx).2.1) (allOdds_len G) (by decide) (by decide)
theorem rp_inFall (G : Good g) (a : NS) : Rp 13312 3 (.tuple ((inFall g a).map flt)) := Rp.tupM (W := 51) (n := 2) (m := 256) (fun x hx => rp_flt G ((mem_inFall G).mp hx).1 ((mem_inFall G).mp hx).2.1) (inFall_len G a) (by decide) (by decide)
end
def sp__law_same : DSp := fun ss P => ∃ x : D, ss = [.d x, .d x] ∧ ((∃ b, x = .bool b) ∨ ((∃ ds, Seq x ds) ∧ RpOk x)) ∧ P (.bool true)
theorem fRepr_ok {x : D} {P : D → Prop} (h : (∃ b, x = .bool b) ∨ ((∃ ds, Seq x ds) ∧ RpOk x)) (p : P (.str (PyData.shown x))) : fRepr x P := by
  rcases h with ⟨b, e⟩ | ⟨hs, h1, h2, h3, h4⟩
  · exact .inl ⟨b, e, p⟩
  · exact .inr ⟨hs, h1, h2, h3, h4, p⟩
theorem p__law_same (ss : List SV) (Q : D → Prop) (h : sp__law_same ss Q) : T__law_same (EE Q) (startS N__law_same.length ss) none := by
  obtain ⟨x, rfl, hx, h⟩ := h
  simp [T__law_same, N__law_same]
  refine fRepr_ok hx (fRepr_ok hx ?_)
  have e : ∀ (r : F2) (a : Str), (r = fEqS ∨ r = fEq) → True := fun _ _ _ => trivial
  first
    | exact ⟨_, _, rfl, rfl, by simpa using h⟩
/-! ### repr tells sets apart -/
theorem shown0 : ((pools.flatMap fun p => (subs p).flatMap fun a => (subs p).map fun b => (a, b)).all fun x => x.1 == x.2 || !(PyData.shown (nm x.1) == PyData.shown (nm x.2))) = true := by decide +kernel
theorem shown_eq {g : Guild} (G : Good g) {a b : NS} (ha : a.Sublist (names g)) (hb : b.Sublist (names g)) : (PyData.shown (nm a) == PyData.shown (nm b)) = (a == b) := by
  obtain ⟨p, hp, hs⟩ := G.pool
  have := List.all_eq_true.mp shown0 (a, b) (List.mem_flatMap.mpr ⟨p, hp, List.mem_flatMap.mpr ⟨a, mem_subs.mpr (ha.trans hs), List.mem_map.mpr ⟨b, mem_subs.mpr (hb.trans hs), rfl⟩⟩⟩)
  rw [Bool.or_eq_true] at this
  rcases this with e | e
  · have e' : a = b := by simpa using e
    subst e'
    simp
  · have ne : (PyData.shown (nm a) == PyData.shown (nm b)) = false := by simpa using e
    rw [ne]
    symm
    rw [beq_eq_false_iff_ne]
    intro z
    rw [z] at ne
    simp at ne
/-! ### the machines -/
def m1 : Mach := ⟨[Str.ofString "off", Str.ofString "on"], [Str.ofString "lit"], [[0, 1], [0, 1]], [[0], [1]]⟩
def m2 : Mach := ⟨[Str.ofString "hold", Str.ofString "turn"], [Str.ofString "lit"], [[0, 1], [1, 0]], [[0], [1]]⟩
def m3 : Mach := ⟨[Str.ofString "no", Str.ofString "yes"], [Str.ofString "new", Str.ofString "still"], [[0, 1], [0, 1]], [[0, 5], [1, 5]]⟩
theorem lt_str {x y : Str} (h : decide (x.cps.toList < y.cps.toList) = true) : Lt1 (.str x) (.str y) := ⟨rfl, by simp, Nat.zero_le _, by rw [PySem.W.dataLt_str]; exact h⟩
theorem m1_ok : MachOk m1 := ⟨by decide +kernel, .cons (lt_str (by decide +kernel)) (.one _), by decide, by decide +kernel, .one _, by decide, by decide, by decide, by decide, by decide⟩
theorem m2_ok : MachOk m2 := ⟨by decide +kernel, .cons (lt_str (by decide +kernel)) (.one _), by decide, by decide +kernel, .one _, by decide, by decide, by decide, by decide, by decide⟩
theorem m3_ok : MachOk m3 := ⟨by decide +kernel, .cons (lt_str (by decide +kernel)) (.one _), by decide, by decide +kernel, .cons (lt_str (by decide +kernel)) (.one _), by decide, by decide, by decide, by decide, by decide⟩
def sp__law_motor : DSp := fun ss P => ss = [.feed] ∧ ∀ M, MachOk M → ∀ x, P (.tuple [mach M, x])
theorem p__law_motor (ss : List SV) (Q : D → Prop) (h : sp__law_motor ss Q) : T__law_motor sp__law_any [] (EE Q) (startS N__law_motor.length ss) none := by
  obtain ⟨rfl, h⟩ := h
  simp [T__law_motor, N__law_motor]
  refine ⟨_, _, rfl, .inl rfl, by simp, by simp, fun d hd => ?_⟩
  rcases List.mem_cons.mp hd with e | hd
  · rw [e]; exact h m1 m1_ok _
  · rcases List.mem_cons.mp hd with e | hd
    · rw [e]; exact h m2 m2_ok _
    · rw [List.mem_singleton.mp hd]; exact h m3 m3_ok _
end Ao
set_option Elab.async false
set_option autoImplicit false
set_option linter.all false
set_option maxRecDepth 100000
set_option maxHeartbeats 2000000
namespace Ao
open PySem PySem.Spec PyProof.Rows L2
theorem fNe_bool {a b : Bool} {P : D → Prop} : fNe (.bool a) (.bool b) P ↔ P (.bool (a != b)) := by
  unfold fNe
  have e : PyData.eqv (.bool a) (.bool b) = (a == b) := rfl
  rw [e]
  exact ⟨fun q => q.2.2, fun q => ⟨rfl, rfl, q⟩⟩
theorem fEq_bool {a b : Bool} {P : D → Prop} : fEq (.bool a) (.bool b) P ↔ P (.bool (a == b)) := by
  unfold fEq
  have e : PyData.eqv (.bool a) (.bool b) = (a == b) := rfl
  rw [e]
  exact ⟨fun q => q.2.2, fun q => ⟨rfl, rfl, q⟩⟩
theorem fIn_od {x : Pr × Pr} {l : List (Pr × Pr)} {P : D → Prop} : fIn (.tuple [pr x.1, pr x.2]) (.tuple (l.map od)) P ↔ P (.bool (l.contains x)) := fIn_enc od_inj od_shp (by decide) (.inr rfl)
theorem fNe_tnil {l : List (Pr × Pr)} {P : D → Prop} : fNe (.tuple (l.map od)) (.tuple []) P ↔ P (.bool (!l.isEmpty)) := by
  have s1 : SeqAt.shaped (.tuple (l.map od)) = true := (Shp.tup (Shp.map od_shp)).shaped (by decide)
  have s2 : SeqAt.shaped (.tuple []) = true := rfl
  unfold fNe
  simp only [s1, s2, true_and]
  cases l <;> simp [PyData.eqv, PyData.eqvAll]
def sp__law_are_falls_right : DSp := fun ss P => ∃ g : Guild, ss = [.feed, .d (gd g), .d (.list ((safes g).map sf)), .d (.tuple ((allOdds g).map od))] ∧ Good g ∧ P (.bool true)
theorem p__law_are_falls_right (ss : List SV) (Q : D → Prop) (h : sp__law_are_falls_right ss Q) : T__law_are_falls_right sp__law_all_pairs [] sp__law_any [] sp_odds_fall [] sp__law_within [] (EE Q) (startS N__law_are_falls_right.length ss) none := by
  obtain ⟨g, rfl, G, h⟩ := h
  have pne : pairs g ≠ [] := by
    have := G.two
    cases e : g with
    | nil => rw [e] at this; simp at this
    | cons r t =>
      have hr : r ∈ g := by rw [e]; exact List.mem_cons_self
      have hl := List.length_pos_iff.mpr (G.lots r hr).1
      intro z
      have : (r.1, 0) ∈ pairs g := mem_pairs.mpr ⟨r, hr, rfl, hl⟩
      rw [e, z] at this; cases this
  simp only [T__law_are_falls_right, dSq_eq, dPr_eq, aCons_eq, aConsV_eq, dCall_eq, aNil_eq]
  simp [N__law_are_falls_right]
  refine ⟨g, rfl, G, ?_⟩
  refine lc_map tri (fun r => .tuple [eN r.1, nmS r.2.1]) g (fun r hr C hC => by simpa [tri] using hC) ?_
  refine ⟨tab g, by simp [tab, eN, Function.comp_def], tab_nd G.nd, ?_⟩
  refine ⟨3, rfl, by decide, ?_⟩
  refine for_inv (fun i : Nat => PyData.int (i : Nat)) (fun rest ρ acc => acc = none ∧ ∃ v6 v7 v8 v9 v10 v12, ρ = [some .feed, some (.d (gd g)), some (.d (.list ((safes g).map sf))), some (.d (.tuple ((allOdds g).map od))), some (.d (.list ((pairs g).map pr))), some (.dct (tab g)), v6, v7, v8, v9, v10, none, v12, none]) (fun i rest ρ acc hI N hN => ?_) (fun ρ acc hI => ?_) _ _ _ ⟨rfl, none, none, none, none, none, none, rfl⟩
  · obtain ⟨rfl, v6, v7, v8, v9, v10, v12, rfl⟩ := hI
    -- with a pair of pairs
    have turn : ∀ p ∈ pairs g, ∀ q ∈ pairs g, dSet 9 (dCall sp_odds_fall [] (aCons (dN 1) (aCons (dN 6) (aCons (dN 8) aNil))))
        { nx := dSq (dIfS (tb (d2 fNe (dOr (d2 fIn (dTup (aCons (dN 6) (aCons (dN 8) aNil))) (dN 3)) (d2 fIn (dTup (aCons (dN 8) (aCons (dN 6) aNil))) (dN 3))) (d2 fNs (dN 9) (dC .none)))) (dRet 99 (dC (.bool false))) dNx)
            (dIfS (tb (d2 fNs (dN 9) (dC .none))) (dSq (dSet 10 (dLc (iSeq (d2 fIx (dDct 5 (d2 fIx (dN 6) (dC (.int 0)))) (d2 fIx (dN 6) (dC (.int 1))))) (gN 11) (tb (d2 fIn (dN 11) (d2 fIx (dDct 5 (d2 fIx (dN 8) (dC (.int 0)))) (d2 fIx (dN 8) (dC (.int 1)))))) (dN 11) [11]))
              (dSq (dSet 12 (dLc (iSeq (dN 2)) (gN 13) (tb (d2 fEqS (dB fRepr (d2 fIx (dN 13) (dC (.int 0)))) (dB fRepr (dN 9)))) (d2 fIx (dN 13) (dC (.int 1))) [13]))
                (dIfS (bOr (tb (d2 fEq (dN 12) (dLst aNil))) (bOr (tb (d2 fNi (d2 fIx (dN 6) (dC (.int 0))) (d2 fIx (dN 12) (dC (.int 0))))) (bOr (tb (d2 fNi (d2 fIx (dN 8) (dC (.int 0))) (d2 fIx (dN 12) (dC (.int 0))))) (bNot (tb (dCall sp__law_within [] (aCons (dN 10) (aCons (dN 9) aNil)))))))) (dRet 99 (dC (.bool false))) dNx))) dNx)
            { nx := N, rt := Q, bk := dRet 99 (dC (.bool true)) (EE Q), ct := N }, rt := Q, bk := dRet 99 (dC (.bool true)) (EE Q), ct := N }
        [some .feed, some (.d (gd g)), some (.d (.list ((safes g).map sf))), some (.d (.tuple ((allOdds g).map od))), some (.d (.list ((pairs g).map pr))), some (.dct (tab g)), some (.d (pr p)), some (.d (.int (i : Nat))), some (.d (pr q)), v9, v10, none, v12, none] none := fun p hp q hq => by
      have eo := either_odds G hp hq
      simp
      refine ⟨g, p, q, rfl, G, hp, hq, fun z => ?_, fun z x mx sx => ?_⟩
      · rw [z, Bool.or_eq_false_iff] at eo
        have i1 := fun P => (fIn_od (x := (p, q)) (l := allOdds g) (P := P))
        have i2 := fun P => (fIn_od (x := (q, p)) (l := allOdds g) (P := P))
        simp only [] at i1 i2
        simp only [eo.1, eo.2] at i1 i2
        simp [i1, i2, fNe_bool]
        exact hN _ _ rfl ⟨rfl, _, _, _, _, _, _, rfl⟩
      · rw [z] at eo
        have i1 := fun P => (fIn_od (x := (p, q)) (l := allOdds g) (P := P))
        have i2 := fun P => (fIn_od (x := (q, p)) (l := allOdds g) (P := P))
        simp only [] at i1 i2
        have nn : isN (nm x) = false := rfl
        have go : ∀ b : Bool, b = (allOdds g).contains (p, q) → (b = true ∨ (allOdds g).contains (q, p) = true) := fun b hb => by
          rw [hb]
          cases c : (allOdds g).contains (p, q) with
          | true => exact .inl rfl
          | false => rw [c] at eo; exact .inr (by simpa using eo)
        have xs := G.J_sub (pair_house hp) (pair_house hq) x mx.1
        have js := J_safe G (pair_house hp) (pair_house hq) mx.1
        -- the rest, once the first test is passed
        have rest : dSet 10 (dLc (iSeq (d2 fIx (dDct 5 (d2 fIx (dN 6) (dC (.int 0)))) (d2 fIx (dN 6) (dC (.int 1))))) (gN 11) (tb (d2 fIn (dN 11) (d2 fIx (dDct 5 (d2 fIx (dN 8) (dC (.int 0)))) (d2 fIx (dN 8) (dC (.int 1)))))) (dN 11) [11])
            { nx := dSq (dSet 12 (dLc (iSeq (dN 2)) (gN 13) (tb (d2 fEqS (dB fRepr (d2 fIx (dN 13) (dC (.int 0)))) (dB fRepr (dN 9)))) (d2 fIx (dN 13) (dC (.int 1))) [13]))
                (dIfS (bOr (tb (d2 fEq (dN 12) (dLst aNil))) (bOr (tb (d2 fNi (d2 fIx (dN 6) (dC (.int 0))) (d2 fIx (dN 12) (dC (.int 0))))) (bOr (tb (d2 fNi (d2 fIx (dN 8) (dC (.int 0))) (d2 fIx (dN 12) (dC (.int 0))))) (bNot (tb (dCall sp__law_within [] (aCons (dN 10) (aCons (dN 9) aNil)))))))) (dRet 99 (dC (.bool false))) dNx)
                { nx := N, rt := Q, bk := dRet 99 (dC (.bool true)) (EE Q), ct := N }, rt := Q, bk := dRet 99 (dC (.bool true)) (EE Q), ct := N }
            [some .feed, some (.d (gd g)), some (.d (.list ((safes g).map sf))), some (.d (.tuple ((allOdds g).map od))), some (.d (.list ((pairs g).map pr))), some (.dct (tab g)), some (.d (pr p)), some (.d (.int (i : Nat))), some (.d (pr q)), some (.d (nm x)), v10, none, v12, none] none := by
          rw [dSet_eq]
          refine both_td (i := 5) (j := 6) (k := 8) (n := 11) G hp hq rfl rfl rfl (by decide) (by decide) (by simp) ?_
          simp
          have rx : (∃ b, nm x = .bool b) ∨ ((∃ ds, Seq (nm x) ds) ∧ RpOk (nm x)) := .inr ⟨⟨_, .inr rfl⟩, (rp_nm (Nat.le_trans xs.length_le G.n4)).ok (by decide) (by decide)⟩
          refine lc_fil sf (fun s => nmL s.2) (fun s => s.1 == x) (safes g) (fun s hs C hC => ?_) ?_
          · simp [sf]
            have s1 := (mem_safes.mp hs).1
            refine fRepr_ok (.inr ⟨⟨_, .inr rfl⟩, (rp_nm (Nat.le_trans s1.length_le G.n4)).ok (by decide) (by decide)⟩) ?_
            refine fRepr_ok rx ⟨_, _, rfl, rfl, ?_⟩
            rw [shown_eq G s1 xs]
            cases hb : (s.1 == x) <;> simp [hb] at hC ⊢ <;> exact hC
          · have mm : ((x, safeL g x) : SF) ∈ (safes g).filter (fun s => s.1 == x) := List.mem_filter.mpr ⟨safes_of xs (pair_house hp) js.1, by simp⟩
            have all : ∀ s ∈ (safes g).filter (fun s => s.1 == x), s.2 = safeL g x := fun s hs => by
              have h1 := List.mem_filter.mp hs
              have h2 : s.1 = x := by simpa using h1.2
              rw [(mem_safes.mp h1.1).2.1, h2]
            generalize (safes g).filter (fun s => s.1 == x) = L at mm all
            cases L with
            | nil => cases mm
            | cons s L =>
              have e2 := all s List.mem_cons_self
              have h1 := fun P => (fEq_nil (e := fun s : SF => nmL s.2) (fun s => nmL_shp s.2) (by decide) (l := s :: L) (P := P))
              simp only [List.map_cons, e2, List.isEmpty_cons] at h1
              simp [h1, e2, pr]
              simp [mem_safeL.mpr ⟨pair_house hp, js.1⟩, mem_safeL.mpr ⟨pair_house hq, js.2⟩]
              refine ⟨_, x, _, rfl, .inr rfl, ?_⟩
              rw [sx]
              simp
              exact hN _ _ rfl ⟨rfl, _, _, _, _, _, _, rfl⟩
        cases c1 : (allOdds g).contains (p, q) with
        | true =>
          simp only [c1] at i1
          simp [i1, nn, fNe_bool]
          simp at rest
          exact rest
        | false =>
          rw [c1] at eo
          have c2 : (allOdds g).contains (q, p) = true := by simpa using eo
          simp only [c1] at i1
          simp only [c2] at i2
          simp [i1, i2, nn, fNe_bool]
          simp at rest
          exact rest
    simp
    refine ⟨_, _, rfl, .inl rfl, by simpa using pne, by have := G.pairs16; simp; omega, fun d hd => ?_⟩
    obtain ⟨p, hp, rfl⟩ := List.mem_map.mp hd
    refine ⟨_, _, rfl, .inl rfl, by simpa using pne, by have := G.pairs16; simp; omega, fun d hd => ?_⟩
    obtain ⟨q, hq, rfl⟩ := List.mem_map.mp hd
    simp [fEq_int, fNe_tnil]
    have base := turn p hp q hq
    simp at base
    refine ⟨_, _, ⟨rfl, rfl⟩, ?_⟩
    simp
    by_cases c : i = 2
    · subst c
      cases e : allOdds g with
      | nil =>
        simp [e] at base ⊢
        exact base
      | cons z r =>
        simp
        refine ⟨_, _, rfl, .inr rfl, by simp, by have := few_odds G; rw [e] at this; simp at this ⊢; omega, fun d hd => ?_⟩
        have hd' : d ∈ (allOdds g).map od := by rw [e]; simpa using hd
        obtain ⟨y, hy, rfl⟩ := List.mem_map.mp hd'
        have my := (mem_all G).mp hy
        have b2 := turn y.1 my.1 y.2 my.2.1
        simp [e, od] at b2 ⊢
        exact b2
    · have c' : ¬ ((i : Int) = 2) := by omega
      simp only [c', not_false_eq_true, true_and, false_and, or_false]
      exact base
  · obtain ⟨rfl, v6, v7, v8, v9, v10, v12, rfl⟩ := hI
    simpa using h
def sp__law_own_right : DSp := fun ss P => ∃ g : Guild, ss = [.d (gd g), .d (.list ((safes g).map sf)), .d (.tuple ((allOdds g).map od))] ∧ Good g ∧ P (.bool true)
theorem all_range {α : Type} {l : List α} {P : Nat → Prop} : (∀ k ∈ (List.range l.length).map fun k => k, P k) ↔ ∀ k, k < l.length → P k := by simp
/-- the answer of the last row -/
theorem own_end {g : Guild} (G : Good g) : (∀ p ∈ pairs g, clear g p) ↔ ∀ x ∈ allOdds g, x.1.1 = x.2.1 := by
  constructor
  · intro q x hx
    obtain ⟨h1, h2, h3, h4⟩ := (mem_all G).mp hx
    by_cases e : x.1.1 = x.2.1
    · exact e
    · have := q x.1 h1 x.2 h2 (fun z => e z.symm)
      rw [h4] at this; cases this
  · intro q p hp r hr ne
    cases c : atOdds g p r with
    | false => rfl
    | true =>
      have e := either_odds G hp hr
      rw [c] at e
      rcases Bool.or_eq_true _ _ |>.mp e with z | z
      · exact absurd (q _ (by simpa using z)).symm ne
      · exact absurd (q _ (by simpa using z)) ne
theorem p__law_own_right (ss : List SV) (Q : D → Prop) (h : sp__law_own_right ss Q) : T__law_own_right sp__law_needs [] sp__law_meets [] sp_meets_needs [] sp__law_same [] sp__law_within [] (EE Q) (startS N__law_own_right.length ss) none := by
  obtain ⟨g, rfl, G, h⟩ := h
  simp [T__law_own_right, N__law_own_right]
  refine for_inv tri (fun rest ρ acc => acc = none ∧ ∃ before m v4 v5 v6 v7 v8 v9 v10, before ++ rest = g ∧ ρ = [some (.d (gd g)), some (.d (.list ((safes g).map sf))), some (.d (.tuple ((allOdds g).map od))), some (.d (.bool m)), v4, v5, v6, v7, v8, v9, v10, none] ∧ (m = true ↔ ∀ r ∈ before, ∀ k, k < r.2.1.length → clear g (r.1, k))) (fun r rest ρ acc hI N hN => ?_) (fun ρ acc hI => ?_) _ _ _ ⟨rfl, [], true, none, none, none, none, none, none, none, rfl, rfl, by simp⟩
  · obtain ⟨rfl, before, m, v4, v5, v6, v7, v8, v9, v10, eb, rfl, hm⟩ := hI
    have hr : r ∈ g := by rw [← eb]; simp
    have eb' : (before ++ [r]) ++ rest = g := by rw [← eb]; simp
    simp [tri]
    refine ⟨g, r.1, rfl, G, fun R hR => ?_⟩
    simp
    have hl4 := G.lots4 r hr
    refine ⟨r.2.1.length, rfl, by omega, ?_⟩
    refine for_inv (fun i : Nat => PyData.int (i : Nat)) (fun rest' ρ acc => acc = none ∧ ∃ bf m' v8 v9 v10, bf ++ rest' = List.range r.2.1.length ∧ ρ = [some (.d (gd g)), some (.d (.list ((safes g).map sf))), some (.d (.tuple ((allOdds g).map od))), some (.d (.bool m')), some (.d (eN r.1)), some (.d (nmS r.2.1)), some (.d (nmS r.2.2)), some (.d (nmS R)), v8, v9, v10, none] ∧ (m' = true ↔ m = true ∧ ∀ k ∈ bf, clear g (r.1, k))) (fun k rest' ρ acc hI' N' hN' => ?_) (fun ρ acc hI' => ?_) _ _ _ ⟨rfl, [], m, _, _, _, rfl, rfl, by simp⟩
    · obtain ⟨rfl, bf, m', v8, v9, v10, eb2, rfl, hm'⟩ := hI'
      have eb3 : (bf ++ [k]) ++ rest' = List.range r.2.1.length := by rw [← eb2]; simp
      have hk : k < r.2.1.length := List.mem_range.mp (by rw [← eb2]; simp)
      have hp : (r.1, k) ∈ pairs g := mem_pairs.mpr ⟨r, hr, rfl, hk⟩
      simp
      have lt := pair_lot G.nd hp
      have ls := (G.lot_sub hp).1
      have sf0 := self_odds G hp
      have k1 := met_law G hp hR
      generalize lotAt g (r.1, k) = lot at lt ls sf0 k1
      simp only [lots_row G.nd hr] at lt
      simp only [fears_row G.nd hr] at sf0
      have ix : ∀ P : D → Prop, P (nm lot) → fIx (nmS r.2.1) (.int (k : Nat)) P := fun P hP => by
        simp only [nmS, fIx_tup]
        exact ⟨nm lot, by rw [List.getElem?_map, lt]; rfl, hP⟩
      have tail : ∀ b : Bool, b = (m' && metB R lot) → lcW (gN 11) (tb (dCall sp__law_within [] (aCons (d2 fIx (dN 5) (dN 8)) (aCons (dN 11) aNil)))) (dN 11) (r.2.2.map nm) []
          [some (.d (gd g)), some (.d (.list ((safes g).map sf))), some (.d (.tuple ((allOdds g).map od))), some (.d (.bool b)), some (.d (eN r.1)), some (.d (nmS r.2.1)), some (.d (nmS r.2.2)), some (.d (nmS R)), some (.d (.int (k : Nat))), some (.d (.bool (metB R lot))), v10, none]
          fun x => fNe x (.list []) fun d_4 => fIn (.tuple [.tuple [eN r.1, .int (k : Nat)], .tuple [eN r.1, .int (k : Nat)]]) (.tuple ((allOdds g).map od)) fun y => fNe d_4 y fun d_5 => d_5 = .bool false ∧ N' [some (.d (gd g)), some (.d (.list ((safes g).map sf))), some (.d (.tuple ((allOdds g).map od))), some (.d (.bool b)), some (.d (eN r.1)), some (.d (nmS r.2.1)), some (.d (nmS r.2.2)), some (.d (nmS R)), some (.d (.int (k : Nat))), some (.d (.bool (metB R lot))), some (.d d_4), none] none ∨ d_5 = .bool true ∧ Q (.bool false) := fun b hb => by
        refine lc_fil nm nm (fun y => subB lot y) r.2.2 (fun y hy C hC => ?_) ?_
        · simp
          refine ix _ ⟨lot, y, _, rfl, .inl rfl, ?_⟩
          cases hs : subB lot y <;> simp [hs] at hC ⊢ <;> exact hC
        · rw [fNe_nil nm_shp (by decide), any_fil]
          have i1 := fun P => (fIn_od (x := ((r.1, k), (r.1, k))) (l := allOdds g) (P := P))
          simp only [pr, sf0] at i1
          rw [i1, fNe_bool]
          have e : (r.2.2.any (subB lot ·) != r.2.2.any (subB lot ·)) = false := by simp
          refine .inl ⟨by rw [e], ?_⟩
          refine hN' _ _ rfl ⟨rfl, bf ++ [k], b, _, _, _, eb3, rfl, ?_⟩
          rw [hb, Bool.and_eq_true, hm', k1]
          constructor
          · rintro ⟨⟨q1, q2⟩, q3⟩
            refine ⟨q1, fun j hj => ?_⟩
            rcases List.mem_append.mp hj with z | z
            · exact q2 j z
            · rw [List.mem_singleton.mp z]; exact q3
          · rintro ⟨q1, q2⟩
            exact ⟨⟨q1, fun j hj => q2 j (List.mem_append_left _ hj)⟩, q2 k (by simp)⟩
      refine ix _ ⟨R, lot, rfl, ix _ ⟨g, r.1, lot, rfl, G, pair_house hp, ls, fun R' hR' => ?_⟩⟩
      have k2 : metB R' lot = metB R lot := by
        have := met_needs G hp hR'
        rw [Bool.eq_iff_iff, k1]
        rw [lotAt, lots_row G.nd hr, List.getD_eq_getElem?_getD, lt] at this
        exact this
      rw [k2]
      refine ⟨_, rfl, .inl ⟨_, rfl⟩, .inr ⟨rfl, ?_⟩⟩
      cases m' with
      | false => exact .inl ⟨rfl, tail false (by simp)⟩
      | true => exact .inr ⟨rfl, tail (metB R lot) (by simp)⟩
    · obtain ⟨rfl, bf, m', v8, v9, v10, eb2, rfl, hm'⟩ := hI'
      rw [List.append_nil] at eb2
      subst eb2
      refine hN _ _ rfl ⟨rfl, before ++ [r], m', _, _, _, _, _, _, _, eb', rfl, ?_⟩
      rw [hm', hm]
      constructor
      · rintro ⟨q1, q2⟩ r' hr' k hk
        rcases List.mem_append.mp hr' with z | z
        · exact q1 r' z k hk
        · rw [List.mem_singleton.mp z] at hk ⊢
          exact q2 k (List.mem_range.mpr hk)
      · intro q
        exact ⟨fun r' hr' => q r' (List.mem_append_left _ hr'), fun k hk => q r (by simp) k (List.mem_range.mp hk)⟩
  · obtain ⟨rfl, before, m, v4, v5, v6, v7, v8, v9, v10, eb, rfl, hm⟩ := hI
    rw [List.append_nil] at eb
    subst eb
    simp
    refine lc_fil od od (fun x => x.1.1 != x.2.1) _ (fun x hx C hC => ?_) ?_
    · by_cases c : x.1.1 = x.2.1
      · simp [c] at hC
        simp [od, pr, c] at hC ⊢
        exact hC
      · simp [c] at hC
        simp [od, pr, c] at hC ⊢
        exact hC
    · rw [fEq_nil od_shp (by decide), fEq_bool]
      have e : (m == ((allOdds before).filter fun x => x.1.1 != x.2.1).isEmpty) = true := by
        have := own_end G
        have q : (m = true) ↔ ((allOdds before).filter fun x => x.1.1 != x.2.1).isEmpty = true := by
          rw [hm, List.isEmpty_iff, List.filter_eq_nil_iff]
          simp only [bne_iff_ne, ne_eq, Decidable.not_not]
          rw [← own_end G]
          refine ⟨fun q p hp => ?_, fun q r hr k hk => ?_⟩
          · obtain ⟨r, hr, e, hk⟩ := mem_pairs.mp hp
            have := q r hr p.2 hk
            rw [show (r.1, p.2) = p from by rw [e]] at this
            exact this
          · exact q _ (mem_pairs.mpr ⟨r, hr, rfl, hk⟩)
        rw [beq_iff_eq]
        exact Bool.eq_iff_iff.mpr q
      rw [e]
      exact h
end Ao
set_option Elab.async false
set_option autoImplicit false
set_option linter.all false
set_option maxRecDepth 100000
set_option maxHeartbeats 2000000
namespace Ao
open PySem PySem.Spec PyProof.Rows L2
theorem tri_pools : ∀ p ∈ pools, ∀ a ∈ subs p, ∀ b ∈ subs p, PySem.W.dataLt (nm b) (nm a) = false → a = b ∨ PySem.W.dataLt (nm a) (nm b) = true := by decide +kernel
theorem sset_ord {p : NS} (hp : p ∈ pools) {S : List NS} {P : D → Prop} (sub : ∀ x ∈ S, x.Sublist p) (h : ∀ Z : List NS, Z.Pairwise ltNS → (∀ y, y ∈ Z ↔ y ∈ S) → P (nmSL Z)) : fSset (nmSL S) P := by
  refine ⟨S.map nm, .inl rfl, nm_srt S, ⟨(subs p).map nm, ?_, fun d hd => ?_⟩, fun zs mem nd asc => ?_⟩
  · rw [List.length_map]
    exact (by decide : ∀ p ∈ pools, (subs p).length < 64) p hp
  · obtain ⟨y, hy, rfl⟩ := List.mem_map.mp hd
    exact List.mem_map.mpr ⟨y, mem_subs.mpr (sub y hy), rfl⟩
  · obtain ⟨Z, rfl⟩ := unmap (S := S) (e := nm) fun d hd => (mem d).mp hd
    have mz : ∀ y, y ∈ Z ↔ y ∈ S := fun y => by
      have := mem (nm y)
      rwa [mem_unmap nm_inj, mem_unmap nm_inj] at this
    refine h Z ?_ mz
    have n1 : Z.Pairwise (fun a b => nm a ≠ nm b) := List.pairwise_map.mp nd
    have a1 : Z.Pairwise (fun a b => PySem.W.dataLt (nm b) (nm a) = false) := List.pairwise_map.mp asc
    refine List.Pairwise.imp_of_mem (R := fun a b => nm a ≠ nm b ∧ PySem.W.dataLt (nm b) (nm a) = false) (fun {a b} ha hb q => ?_) (n1.and a1)
    rcases tri_pools p hp a (mem_subs.mpr (sub a ((mz a).mp ha))) b (mem_subs.mpr (sub b ((mz b).mp hb))) q.2 with e | e
    · exact absurd (by rw [e]) q.1
    · exact e
/-- what a comprehension may collect that draws -/
theorem lc_any {α β : Type} {Tg : GD} {Tt : TB} {Te : TD} (enc : α → D) (f : β → D) (R : α → β → Prop) {ρ : SS} {P : D → Prop} : ∀ (xs : List α) (acc : List β), (∀ x ∈ xs, ∀ C : Option D → Prop, C none → (∀ z, R x z → C (some (f z))) → Tg (enc x) ρ fun ρ' => Tt ρ' fun b => if b = true then Te ρ' fun y => C (some y) else C none) →
    (∀ zs : List β, (∀ z ∈ zs, ∃ x ∈ xs, R x z) → zs.length ≤ xs.length → P (.list ((acc ++ zs).map f))) → lcW Tg Tt Te (xs.map enc) (acc.map f) ρ P
  | [], acc, _, h => by simpa [lcW] using h [] (by simp) (Nat.le_refl _)
  | x :: xs, acc, hx, h => by
    have ih := fun acc' h' => lc_any (Tg := Tg) (Tt := Tt) (Te := Te) enc f R (ρ := ρ) (P := P) xs acc' (fun y hy => hx y (List.mem_cons_of_mem _ hy)) h'
    have turn := hx x List.mem_cons_self (fun o => lcW Tg Tt Te (xs.map enc) (acc.map f ++ o.toList) ρ P) (by
      have := ih acc fun zs h1 h2 => h zs (fun z hz => by obtain ⟨y, hy, r⟩ := h1 z hz; exact ⟨y, List.mem_cons_of_mem _ hy, r⟩) (by simp; omega)
      simpa using this) fun z hz => by
      have := ih (acc ++ [z]) fun zs h1 h2 => by
        have := h (z :: zs) (fun y hy => by
          rcases List.mem_cons.mp hy with e | e
          · rw [e]; exact ⟨x, List.mem_cons_self, hz⟩
          · obtain ⟨y', hy', r⟩ := h1 y e; exact ⟨y', List.mem_cons_of_mem _ hy', r⟩) (by simp; omega)
        simpa using this
      simpa using this
    simpa [lcW] using turn
/-- what is known of a row while the guild is drawn -/
structure RowOk (ns : NS) (easy : Bool) (r : House) : Prop where
  lots : r.2.1 ≠ [] ∧ r.2.1.Pairwise ltNS ∧ ∀ x ∈ r.2.1, x ≠ [] ∧ x.Sublist ns
  fears : r.2.2 ≠ [] ∧ r.2.2.Pairwise ltNS ∧ ∀ x ∈ r.2.2, x.Sublist (ns.filter (· != r.1))
  hard : easy = false → r.2.1.length ≤ 2
  soft : easy = true → (r.2.1 = [ns] ∨ ∀ x ∈ r.2.1, x.length = ns.length / 2 + 1) ∧ ∀ x ∈ r.2.2, x.length ≤ 1
theorem lt_nodup {l : List NS} (h : l.Pairwise ltNS) : l.Nodup := h.imp fun q z => by rw [z] at q; exact lt_irr _ q
theorem good_of {p : NS} (hp : p ∈ pools) {n : Nat} (h2 : 2 ≤ n) (h4 : n ≤ 4) {g : Guild} {easy : Bool} (e : names g = p.take n) (ok : ∀ r ∈ g, RowOk (p.take n) easy r) : Good g := by
  have pl : p.length = 4 := (by decide : ∀ p ∈ pools, p.length = 4) p hp
  have gl : g.length = n := by
    have := congrArg List.length e
    simp [names] at this
    omega
  have nl : (p.take n).length = n := by simp; omega
  have up : (names g).Pairwise (· < ·) := by
    rw [e]
    exact ((by decide : ∀ p ∈ pools, p.Pairwise (· < ·)) p hp).sublist (List.take_sublist _ _)
  refine ⟨⟨p, hp, by rw [e]; exact List.take_sublist _ _⟩, up, by omega, by omega, fun r hr => ?_, fun r hr => ?_, ?_⟩
  · rw [e]; exact (ok r hr).lots
  · rw [e]; exact (ok r hr).fears
  · cases easy with
    | false => exact .inl fun r hr => (ok r hr).hard rfl
    | true =>
      -- the sets of a size among those of the names
      have cnt : ∀ r ∈ g, r.2.1.length ≤ max 1 (((subs (p.take n)).filter fun x => x.length == n / 2 + 1).length) := fun r hr => by
        have o := ok r hr
        rcases (o.soft rfl).1 with z | z
        · rw [z]; simp; omega
        · have := pigeon r.2.1 ((subs (p.take n)).filter fun x => x.length == n / 2 + 1) (lt_nodup o.lots.2.1) fun x hx => by
            rw [List.mem_filter]
            refine ⟨mem_subs.mpr (o.lots.2.2 x hx).2, ?_⟩
            rw [z x hx, nl]
            simp
          omega
      have c1 : ∀ p ∈ pools, ((subs (p.take 2)).filter fun x => x.length == 2 / 2 + 1).length ≤ 3 ∧ ((subs (p.take 3)).filter fun x => x.length == 3 / 2 + 1).length ≤ 3 ∧ ((subs (p.take 4)).filter fun x => x.length == 4 / 2 + 1).length ≤ 4 := by decide
      have c1 := c1 p hp
      rcases Nat.lt_or_ge n 4 with z | z
      · refine .inr (.inl ⟨by omega, fun r hr => ?_⟩)
        have := cnt r hr
        rcases (by omega : n = 2 ∨ n = 3) with w | w <;> subst w <;> omega
      · have n4 : n = 4 := by omega
        subst n4
        refine .inr (.inr fun r hr => ⟨?_, fun x hx => ?_, ((ok r hr).soft rfl).2⟩)
        · have := cnt r hr
          omega
        · rcases ((ok r hr).soft rfl).1 with w | w
          · rw [w] at hx
            rw [List.mem_singleton.mp hx, nl]
            omega
          · rw [w x hx, nl]
            omega
def sp__law_guild : DSp := fun ss P => ss = [.feed, .d (.int 4)] ∧ ∀ g, Good g → P (gd g)
theorem p__law_guild (ss : List SV) (Q : D → Prop) (h : sp__law_guild ss Q) : T__law_guild sp__law_any [] sp__law_subsets [] sp__law_draw [] sp__law_less [] (EE Q) (startS N__law_guild.length ss) none := by
  obtain ⟨rfl, h⟩ := h
  simp [T__law_guild, N__law_guild]
  refine ⟨_, pools.map nm, rfl, .inl rfl, by simp [pools], by simp [pools], fun d hd => ?_⟩
  obtain ⟨p, hp, rfl⟩ := List.mem_map.mp hd
  have pl : p.length = 4 := (by decide : ∀ p ∈ pools, p.length = 4) p hp
  refine ⟨_, [(2 : Nat), 3, 3, 3, 4].map fun i : Nat => .int (i : Nat), rfl, .inl rfl, by simp, by simp, fun d hd => ?_⟩
  obtain ⟨n, hn, rfl⟩ := List.mem_map.mp hd
  have h2 : 2 ≤ n := by simp at hn; omega
  have h4 : n ≤ 4 := by simp at hn; omega
  have nl : (p.take n).length = n := by simp; omega
  have nsub : (p.take n).Sublist p := List.take_sublist _ _
  have e1 : ∀ P : D → Prop, P (nm (p.take n)) → fTo (nm p) (.int (n : Nat)) P := fun P hP => by simpa [nm] using hP
  refine e1 _ ?_
  have good := fun g easy => good_of hp h2 h4 (g := g) (easy := easy)
  generalize p.take n = ns at nl nsub good
  refine ⟨ns, _, rfl, .inl rfl, by omega, ?_⟩
  have e2 : ∀ P : D → Prop, P (nmSL ((subs ns).drop 1)) → fFrom (nmSL (subs ns)) (.int 1) P := fun P hP => by
    have := fFrom_lst (xs := (subs ns).map nm) (n := 1) (P := P)
    rw [← List.map_drop] at this
    exact this.mpr hP
  refine e2 _ ?_
  have pool : ∀ x ∈ (subs ns).drop 1, x ≠ [] ∧ x.Sublist ns := fun x hx => by
    refine ⟨fun z => ?_, mem_subs.mp (List.mem_of_mem_drop hx)⟩
    subst z
    have := (by decide : ∀ p ∈ pools, ∀ s ∈ subs p, [] ∉ (subs s).drop 1) p hp ns (mem_subs.mpr nsub)
    exact this hx
  have pool0 : (subs ns).drop 1 ≠ [] := by
    intro z
    have := congrArg List.length z
    rw [List.length_drop] at this
    unfold subs at this
    rw [subs_len, nl] at this
    have : 2 ^ 2 ≤ 2 ^ n := Nat.pow_le_pow_right (by decide) h2
    simp at *
    omega
  have poolL : ((subs ns).drop 1).length ≤ 1000 := by
    rw [List.length_drop]
    unfold subs
    rw [subs_len, nl]
    have : 2 ^ n ≤ 2 ^ 4 := Nat.pow_le_pow_right (by decide) h4
    simp at *
    omega
  generalize (subs ns).drop 1 = L at pool pool0 poolL
  intro ad
  refine ⟨2, rfl, by decide, by decide, fun k hk => ?_⟩
  show fEq (.int (k : Nat)) (.int 0) _
  rw [fEq_int]
  refine ⟨_, .inl rfl, ?_⟩
  refine lc_fil nm nm (fun x => x.length == n / 2 + 1) L (fun x hx C hC => ?_) ?_
  · simp [nm, nl]
    refine ⟨by simp [CDiv], ?_⟩
    rw [fEq_int]
    have e3 : ((x.length : Int) == (n : Int) / 2 + 1) = (x.length == n / 2 + 1) := by
      rw [Bool.eq_iff_iff, beq_iff_eq, beq_iff_eq]
      omega
    rw [e3]
    cases hb : x.length == n / 2 + 1 <;> simp [hb, nm] at hC ⊢ <;> exact hC
  · refine ⟨_, _, ⟨rfl, rfl⟩, ?_⟩
    have large : ∀ x ∈ L.filter fun x => x.length == n / 2 + 1, x ≠ [] ∧ x.Sublist ns ∧ x.length = n / 2 + 1 := fun x hx => by
      have := List.mem_filter.mp hx
      exact ⟨(pool x this.1).1, (pool x this.1).2, by simpa using this.2⟩
    have ll : (L.filter fun x => x.length == n / 2 + 1).length ≤ L.length := List.length_filter_le _ _
    generalize (L.filter fun x => x.length == n / 2 + 1) = M at large ll
    refine ⟨_, .inr rfl, ?_⟩
    generalize hez : ((k : Int) == 0) = easy
    refine for_inv eN (fun rest ρ acc => ∃ before done v2 v9 v10 v11 v12, before ++ rest = ns ∧ acc = some (ad, done.map tri) ∧ ρ = [some .feed, some (.d (.int 4)), v2, some (.d (nm ns)), some (.d (nmSL L)), none, some (.d (.bool easy)), some (.d (nmSL M)), none, v9, v10, v11, v12, none, none] ∧ names done = before ∧ ∀ r ∈ done, RowOk ns easy r) (fun y rest ρ acc hI N hN => ?_) (fun ρ acc hI => ?_) _ _ _ ⟨[], [], _, none, none, none, none, rfl, rfl, rfl, rfl, by simp⟩
    · obtain ⟨before, done, v2, v9, v10, v11, v12, eb, rfl, rfl, en, ok⟩ := hI
      have eb' : (before ++ [y]) ++ rest = ns := by rw [← eb]; simp
      have dl : done.length < 100000 := by
        have h1 := congrArg List.length eb
        have h3 := congrArg List.length en
        simp [names] at h1 h3
        omega
      simp
      refine ⟨ns, [y], rfl, ?_⟩
      have er : lessN ns [y] = ns.filter (· != y) := by
        unfold lessN
        congr 1
        funext z
        by_cases e : z = y <;> simp [e, bne]
      rw [er]
      simp
      have nx : ∀ (O C : List NS) (v2 v9 v10 v11 v12 : Option SV), RowOk ns easy (y, O, C) → N [some .feed, some (.d (.int 4)), v2, some (.d (nm ns)), some (.d (nmSL L)), none, some (.d (.bool easy)), some (.d (nmSL M)), none, v9, v10, v11, v12, none, none] (some (ad, done.map tri ++ [.tuple [eN y, nmS O, nmS C]])) := fun O C v2 v9 v10 v11 v12 ro => by
        refine hN _ _ rfl ⟨before ++ [y], done ++ [(y, O, C)], _, _, _, _, _, eb', by simp [tri], rfl, by simp [names] at en ⊢; exact en, fun r hr => ?_⟩
        rcases List.mem_append.mp hr with z | z
        · exact ok r z
        · rw [List.mem_singleton.mp z]; exact ro
      have fsub : (ns.filter (· != y)).Sublist ns := List.filter_sublist
      have fin : ∀ (O C : List NS) (_ : O ≠ [] ∧ ∀ x ∈ O, x ≠ [] ∧ x.Sublist ns) (_ : C ≠ [] ∧ ∀ x ∈ C, x.Sublist (ns.filter (· != y))) (_ : easy = false → O.length ≤ 2) (_ : easy = true → (O = [ns] ∨ ∀ x ∈ O, x.length = ns.length / 2 + 1) ∧ ∀ x ∈ C, x.length ≤ 1) (F : D → D → Prop), (∀ O' C', RowOk ns easy (y, O', C') → F (nmS O') (nmS C')) →
          fSset (nmSL O) fun x => fTuple x fun d => ∃ d4, SV.d (nmSL C) = SV.d d4 ∧ fSset d4 fun x => fTuple x fun d5 => F d d5 := fun O C o1 o2 o3 o4 F hF => by
        refine sset_ord hp (fun x hx => (o1.2 x hx).2.trans nsub) fun O' up1 m1 => ?_
        rw [show nmSL O' = .list (O'.map nm) from rfl, fTuple_lst]
        refine ⟨_, rfl, sset_ord hp (fun x hx => ((o2.2 x hx).trans fsub).trans nsub) fun C' up2 m2 => ?_⟩
        rw [show nmSL C' = .list (C'.map nm) from rfl, fTuple_lst]
        refine hF O' C' ⟨⟨fun e => o1.1 ?_, up1, fun x hx => o1.2 x ((m1 x).mp hx)⟩, ⟨fun e => o2.1 ?_, up2, fun x hx => o2.2 x ((m2 x).mp hx)⟩, fun e => ?_, fun e => ⟨?_, fun x hx => (o4 e).2 x ((m2 x).mp hx)⟩⟩
        · subst e
          exact List.eq_nil_iff_forall_not_mem.mpr fun x hx => by have := (m1 x).mpr hx; cases this
        · subst e
          exact List.eq_nil_iff_forall_not_mem.mpr fun x hx => by have := (m2 x).mpr hx; cases this
        · exact Nat.le_trans (pigeon O' O (lt_nodup up1) fun x hx => (m1 x).mp hx) (o3 e)
        · rcases (o4 e).1 with z | z
          · subst z
            refine .inl ?_
            match O', up1, m1 with
            | [], _, m1 => have := (m1 ns).mpr (by simp); cases this
            | [w], _, m1 => rw [List.mem_singleton.mp ((m1 w).mp (by simp))]
            | w :: w' :: _, up1, m1 =>
              have e1 := List.mem_singleton.mp ((m1 w).mp (by simp))
              have e2 := List.mem_singleton.mp ((m1 w').mp (by simp))
              have := (List.pairwise_cons.mp up1).1 w' (by simp)
              rw [e1, e2] at this
              exact absurd this (lt_irr _)
          · exact .inr fun x hx => z x ((m1 x).mp hx)
      have nne : ns ≠ [] := fun e => by rw [e] at nl; simp at nl; omega
      have own0 : [ns] ≠ [] ∧ ∀ x ∈ [ns], x ≠ [] ∧ x.Sublist ns := ⟨by simp, fun x hx => by rw [List.mem_singleton.mp hx]; exact ⟨nne, List.Sublist.refl _⟩⟩
      have sc0 : [([] : NS)] ≠ [] ∧ ∀ x ∈ [([] : NS)], x.Sublist (ns.filter (· != y)) := ⟨by simp, fun x hx => by rw [List.mem_singleton.mp hx]; exact List.nil_sublist _⟩
      have rl : (ns.filter (· != y)).length ≤ 4 := by
        have := List.length_filter_le (· != y) ns
        omega
      generalize (ns.filter (· != y)) = rst at fin sc0 fsub rl
      refine ⟨_, _, ⟨rfl, rfl⟩, ?_⟩
      cases easy with
      | false =>
        refine .inl ⟨rfl, 2, rfl, by decide, by decide, fun k hk => ?_⟩
        simp
        refine ⟨1 + k, by omega, by omega, ?_⟩
        refine lc_any (fun i : Nat => PyData.int (i : Nat)) nm (fun _ x => x ∈ L) _ [] (fun i hi C _ hC => ?_) fun O hO lO => ?_
        · simp
          refine ⟨_, L.map nm, rfl, .inl rfl, by simpa using pool0, by simpa using poolL, fun d hd => ?_⟩
          obtain ⟨x, hx, rfl⟩ := List.mem_map.mp hd
          exact hC x hx
        · refine ⟨3, rfl, by decide, by decide, fun k2 hk2 => ?_⟩
          refine ⟨k2, rfl, by omega, ?_⟩
          refine lc_any (fun i : Nat => PyData.int (i : Nat)) nm (fun _ x => x.Sublist rst) _ [] (fun i hi C _ hC => ?_) fun C hC lC => ?_
          · simp
            refine ⟨rst, _, rfl, .inl rfl, rl, ?_⟩
            have s0 : subs rst ≠ [] := fun e => by
              have := (mem_subs (l := rst) (x := [])).mpr (List.nil_sublist _)
              rw [e] at this; cases this
            refine ⟨_, (subs rst).map nm, rfl, .inl rfl, by simpa using s0, by rw [List.length_map]; unfold subs; rw [subs_len]; have : 2 ^ rst.length ≤ 2 ^ 4 := Nat.pow_le_pow_right (by decide) rl; simp at this ⊢; omega, fun d hd => ?_⟩
            obtain ⟨x, hx, rfl⟩ := List.mem_map.mp hd
            exact hC x (mem_subs.mp hx)
          rw [List.nil_append] at *
          have c1 : ∀ x ∈ O, x ≠ [] ∧ x.Sublist ns := fun x hx => by obtain ⟨_, _, q⟩ := hO x hx; exact pool x q
          have c2 : ∀ x ∈ C, x.Sublist rst := fun x hx => by obtain ⟨_, _, q⟩ := hC x hx; exact q
          have c3 : false = false → O.length ≤ 2 := fun _ => by rw [List.length_range] at lO; omega
          have c4 : false = true → (∀ x ∈ O, x.length = ns.length / 2 + 1) ∧ ∀ x ∈ C, x.length ≤ 1 := fun e => by cases e
          rw [fNe_nil nm_shp (by decide)]
          cases O with
          | nil =>
            refine .inl ⟨rfl, ?_⟩
            rw [fNe_nil nm_shp (by decide)]
            cases C with
            | nil => exact .inl ⟨rfl, _, _, ⟨rfl, rfl⟩, dl, _, rfl, fin [ns] [[]] own0 sc0 (by simp) (fun _ => ⟨.inl rfl, by simp⟩) _ fun O' C' ok' => nx O' C' _ _ _ _ _ ok'⟩
            | cons c C => exact .inr ⟨rfl, _, _, ⟨rfl, rfl⟩, dl, _, rfl, fin [ns] (c :: C) own0 ⟨by simp, c2⟩ (by simp) (fun e => ⟨.inl rfl, (c4 e).2⟩) _ fun O' C' ok' => nx O' C' _ _ _ _ _ ok'⟩
          | cons o O =>
            refine .inr ⟨rfl, ?_⟩
            rw [fNe_nil nm_shp (by decide)]
            cases C with
            | nil => exact .inl ⟨rfl, _, _, ⟨rfl, rfl⟩, dl, _, rfl, fin (o :: O) [[]] ⟨by simp, c1⟩ sc0 c3 (fun e => ⟨.inr (c4 e).1, by simp⟩) _ fun O' C' ok' => nx O' C' _ _ _ _ _ ok'⟩
            | cons c C => exact .inr ⟨rfl, _, _, ⟨rfl, rfl⟩, dl, _, rfl, fin (o :: O) (c :: C) ⟨by simp, c1⟩ ⟨by simp, c2⟩ c3 (fun e => ⟨.inr (c4 e).1, (c4 e).2⟩) _ fun O' C' ok' => nx O' C' _ _ _ _ _ ok'⟩
      | true =>
        refine .inr ⟨rfl, ?_⟩
        refine lc_any nm nm (fun x z => z = x) _ [] (fun x hx C h0 hC => ?_) fun O hO lO => ?_
        · simp
          refine ⟨4, rfl, by decide, by decide, fun k hk => ?_⟩
          simp
          rcases Nat.eq_zero_or_pos k with e | e
          · exact .inl ⟨e, h0⟩
          · exact .inr ⟨by omega, hC x rfl⟩
        · refine ⟨_, rfl, _, .inr rfl, ?_⟩
          refine lc_any eN nm (fun x z => z = [x] ∧ x ∈ rst) _ [] (fun x hx C h0 hC => ?_) fun C hC lC => ?_
          · simp
            refine ⟨2, rfl, by decide, by decide, fun k hk => ?_⟩
            show fEq (.int (k : Nat)) (.int 0) _
            rw [fEq_int]
            cases hb : ((k : Int) == 0) with
            | true => exact .inr ⟨rfl, hC [x] ⟨rfl, hx⟩⟩
            | false => exact .inl ⟨rfl, h0⟩
          rw [List.nil_append] at *
          have c1 : ∀ x ∈ O, x ≠ [] ∧ x.Sublist ns := fun x hx => by obtain ⟨_, h, q⟩ := hO x hx; rw [q]; exact ⟨(large _ h).1, (large _ h).2.1⟩
          have c2 : ∀ x ∈ C, x.Sublist rst := fun x hx => by obtain ⟨z, _, q, h⟩ := hC x hx; rw [q]; exact List.singleton_sublist.mpr h
          have c3 : true = false → O.length ≤ 2 := fun e => by cases e
          have c4 : true = true → (∀ x ∈ O, x.length = ns.length / 2 + 1) ∧ ∀ x ∈ C, x.length ≤ 1 := fun _ => ⟨fun x hx => by obtain ⟨z, h, q⟩ := hO x hx; rw [q, nl]; exact (large _ h).2.2, fun x hx => by obtain ⟨z, _, q, h⟩ := hC x hx; rw [q]; simp⟩
          rw [fNe_nil nm_shp (by decide)]
          cases O with
          | nil =>
            refine .inl ⟨rfl, ?_⟩
            rw [fNe_nil nm_shp (by decide)]
            cases C with
            | nil => exact .inl ⟨rfl, _, _, ⟨rfl, rfl⟩, dl, _, rfl, fin [ns] [[]] own0 sc0 (by simp) (fun _ => ⟨.inl rfl, by simp⟩) _ fun O' C' ok' => nx O' C' _ _ _ _ _ ok'⟩
            | cons c C => exact .inr ⟨rfl, _, _, ⟨rfl, rfl⟩, dl, _, rfl, fin [ns] (c :: C) own0 ⟨by simp, c2⟩ (by simp) (fun e => ⟨.inl rfl, (c4 e).2⟩) _ fun O' C' ok' => nx O' C' _ _ _ _ _ ok'⟩
          | cons o O =>
            refine .inr ⟨rfl, ?_⟩
            rw [fNe_nil nm_shp (by decide)]
            cases C with
            | nil => exact .inl ⟨rfl, _, _, ⟨rfl, rfl⟩, dl, _, rfl, fin (o :: O) [[]] ⟨by simp, c1⟩ sc0 c3 (fun e => ⟨.inr (c4 e).1, by simp⟩) _ fun O' C' ok' => nx O' C' _ _ _ _ _ ok'⟩
            | cons c C => exact .inr ⟨rfl, _, _, ⟨rfl, rfl⟩, dl, _, rfl, fin (o :: O) (c :: C) ⟨by simp, c1⟩ ⟨by simp, c2⟩ c3 (fun e => ⟨.inr (c4 e).1, (c4 e).2⟩) _ fun O' C' ok' => nx O' C' _ _ _ _ _ ok'⟩
    · obtain ⟨before, done, v2, v9, v10, v11, v12, eb, rfl, rfl, en, ok⟩ := hI
      rw [List.append_nil] at eb
      simp
      exact h _ (good done easy (by rw [en, eb]) ok)
end Ao
set_option Elab.async false
set_option autoImplicit false
set_option linter.all false
set_option maxRecDepth 100000
set_option maxHeartbeats 2000000
namespace Ao
open PySem PySem.Spec PyProof.Rows L2
theorem eqv_self {n : Nat} {d : D} (h : Shp n d) : PyData.eqv d d = true := (eqv_plain d d h.1 h.1).mpr rfl
theorem fNe_self {n : Nat} {d : D} (h : Shp n d) (k : n ≤ 64) {P : D → Prop} (p : P (.bool false)) : fNe d d P := by
  unfold fNe
  rw [eqv_self h]
  exact ⟨h.shaped k, h.shaped k, p⟩
theorem fEq_tnil {l : List (Pr × Pr)} {P : D → Prop} : fEq (.tuple (l.map flt)) (.tuple []) P ↔ P (.bool l.isEmpty) := by
  have s1 : SeqAt.shaped (.tuple (l.map flt)) = true := (Shp.tup (Shp.map flt_shp)).shaped (by decide)
  have s2 : SeqAt.shaped (.tuple []) = true := rfl
  unfold fEq
  simp only [s1, s2, true_and]
  cases l <;> simp [PyData.eqv, PyData.eqvAll]
theorem isN_head (l : List (Pr × Pr)) : isN (headD l) = l.isEmpty := by cases l <;> rfl
theorem fNi_head {l : List (Pr × Pr)} {P : D → Prop} (p : P (.bool false)) : fNi (headD l) (.tuple (l.map flt ++ [.none])) P := by
  have sh : ∀ y ∈ l.map flt ++ [PyData.none], Shp 8 y := fun y hy => by
    rcases List.mem_append.mp hy with z | z
    · obtain ⟨x, _, rfl⟩ := List.mem_map.mp z
      exact (flt_shp x).mono (by decide)
    · rw [List.mem_singleton.mp z]; exact Shp.non
  have hm : headD l ∈ l.map flt ++ [PyData.none] := by cases l <;> simp [headD]
  refine ⟨_, .inr rfl, (sh _ hm).shaped (by decide), ?_, ?_⟩
  · exact (Shp.lst sh).shaped (by decide)
  · have : ((l.map flt ++ [PyData.none]).any fun z => PyData.eqv z (headD l)) = true := List.any_eq_true.mpr ⟨_, hm, eqv_self (sh _ hm)⟩
    rw [this]
    exact p
/-- the state when the feed stands -/
def startR (x : Option SV) : SS := [x, some .feed, none, none, none, none, none, none, none, none, none, none, none, none, none, none, none, none]
theorem p__law_right (x : Option SV) (Q : D → Prop) (h : Q (.bool true)) : T__law_right sp__law_guild [] sp__law_motor [] sp__law_safes [] sp__law_odds [] sp_first_fault [.d (.int 0)] sp_is_as_one [.d (.int 0)] sp_faults_of [.d (.int 0)] sp_all_odds [] sp__law_same [] sp__law_are_falls_right [] sp__law_own_right [] sp__law_in_fall [] sp__law_subsets [] sp__law_any [] sp__law_safe [] sp_faults_in [] (EE Q) (startR x) none := by
  simp only [T__law_right, dSq_eq]
  simp [startR]
  refine ⟨rfl, fun g G => ?_⟩
  simp
  refine ⟨rfl, fun M OM mv => ?_⟩

  simp
  have rg : (∃ b, gd g = .bool b) ∨ ((∃ ds, Seq (gd g) ds) ∧ RpOk (gd g)) := .inr ⟨⟨_, .inr rfl⟩, (rp_gd G).ok (by decide) (by decide)⟩
  refine fRepr_ok rg ?_
  refine ⟨g, rfl, G, ?_⟩
  refine ⟨_, _, _, ⟨rfl, rfl, rfl⟩, ?_⟩
  simp
  refine ⟨g, rfl, G, ?_⟩
  simp
  refine lc_map od flt (allOdds g) (fun x hx C hC => by simpa [od, flt] using hC) ?_
  simp
  refine ⟨g, rfl, G, ⟨M, g, rfl, OM, G, ⟨M, g, rfl, OM, G, ⟨M, g, rfl, OM, G, ?_⟩⟩⟩⟩
  simp only [fEq_tnil, isN_head]
  have rt : Rp 53252 4 (.list [.tuple ((allOdds g).map od), .tuple ((allOdds g).map flt), .bool (allOdds g).isEmpty, .bool (allOdds g).isEmpty]) := Rp.lst (W := 13312) (n := 3) (m := 4) (fun y hy => by
    rcases List.mem_cons.mp hy with e | hy
    · rw [e]; exact (rp_odds G).mono (by decide) (by decide)
    · rcases List.mem_cons.mp hy with e | hy
      · rw [e]; exact rp_due G
      · rcases List.mem_cons.mp hy with e | hy
        · rw [e]; exact (rp_bool _).mono (by decide) (by decide)
        · rw [List.mem_singleton.mp hy]; exact (rp_bool _).mono (by decide) (by decide)) (by simp)
  refine ⟨_, rfl, .inr ⟨⟨_, .inl rfl⟩, rt.ok (by decide) (by decide)⟩, .inr ⟨rfl, ⟨M, g, rfl, OM, G, ?_⟩⟩⟩
  have fo := few_odds G
  refine ⟨by omega, fNi_head (.inl ⟨rfl, g, rfl, G, .inr ⟨rfl, g, rfl, G, .inr ⟨rfl, ?_⟩⟩⟩)⟩
  generalize PyData.list [PyData.tuple ((allOdds g).map od), PyData.tuple ((allOdds g).map flt), PyData.bool (allOdds g).isEmpty, PyData.bool (allOdds g).isEmpty] = told
  have sl := safes_len G
  refine for_inv sf (fun rest ρ acc => acc = none ∧ ∃ before v14 v15, before ++ rest = safes g ∧ ρ = [x, some .feed, some (.d (gd g)), some (.d (mach M)), some (.d mv), some (.d (.str (PyData.shown (gd g)))), some (.d (.list ((safes g).map sf))), some (.d (bk M g)), some (.d (.tuple ((allOdds g).map od))), some (.d (.tuple ((allOdds g).map flt))), none, none, some (.d told), some (.d (.list ((before.flatMap fun s => inFall g s.1).map flt))), v14, v15, none, none]) (fun s rest ρ acc hI N hN => ?_) (fun ρ acc hI => ?_) _ _ _ ⟨rfl, [], none, none, rfl, rfl⟩
  · obtain ⟨rfl, before, v14, v15, eb, rfl⟩ := hI
    have hs : s ∈ safes g := by rw [← eb]; simp
    have eb' : (before ++ [s]) ++ rest = safes g := by rw [← eb]; simp
    have bl : before.length < 64 := by
      have := congrArg List.length eb
      simp at this
      omega
    have fl := flat_len (f := fun s : SF => inFall g s.1) (n := 256) (xs := before) fun s _ => inFall_len G s.1
    have il := inFall_len G s.1
    simp [sf]
    refine ⟨g, s.1, by rw [(mem_safes.mp hs).2.1], G, ?_⟩
    show fList (.tuple ((inFall g s.1).map flt)) _
    rw [fList_tup, fCat_lst]
    refine ⟨by simp only [List.length_map]; omega, ?_⟩
    have e : (before.flatMap fun s => inFall g s.1).map flt ++ (inFall g s.1).map flt = ((before ++ [s]).flatMap fun s => inFall g s.1).map flt := by simp
    rw [e]
    exact hN _ _ rfl ⟨rfl, before ++ [s], _, _, eb', rfl⟩
  · obtain ⟨rfl, before, v14, v15, eb, rfl⟩ := hI
    rw [List.append_nil] at eb
    subst eb
    simp
    refine sset_flt (allOdds_up G) fo (fun y => every_iff G) ?_
    simp
    refine fNe_self (n := 8) ((Shp.tup (Shp.map flt_shp)).mono (by decide)) (by decide) (.inl ⟨rfl, ?_⟩)
    refine ⟨2, rfl, by decide, ?_⟩
    refine for_inv (fun i : Nat => PyData.int (i : Nat)) (fun rest ρ acc => acc = none ∧ ∃ v13 v14 v15 v16 v17, ρ = [x, some .feed, some (.d (gd g)), some (.d (mach M)), some (.d mv), some (.d (.str (PyData.shown (gd g)))), some (.d (.list ((safes g).map sf))), some (.d (bk M g)), some (.d (.tuple ((allOdds g).map od))), some (.d (.tuple ((allOdds g).map flt))), none, none, some (.d told), v13, v14, v15, v16, v17]) (fun i rest ρ acc hI N hN => ?_) (fun ρ acc hI => ?_) _ _ _ ⟨rfl, _, _, _, _, _, rfl⟩
    · obtain ⟨rfl, v13, v14, v15, v16, v17, rfl⟩ := hI
      simp
      refine lc_map tri (fun r => eN r.1) g (fun r hr C hC => by simpa [tri] using hC) ?_
      have eL : PyData.list (g.map fun r => eN r.1) = nmL (names g) := by simp [nmL, names, Function.comp_def]
      rw [eL]
      refine ⟨names g, _, rfl, .inr rfl, G.n4, ?_⟩
      have s0 : subs (names g) ≠ [] := fun e => by
        have := (mem_subs (l := names g) (x := [])).mpr (List.nil_sublist _)
        rw [e] at this; cases this
      refine ⟨_, (subs (names g)).map nm, rfl, .inl rfl, by simpa using s0, by have := G.subs16; simp; omega, fun d hd => ?_⟩
      obtain ⟨a, ha, rfl⟩ := List.mem_map.mp hd
      have ha' := mem_subs.mp ha
      refine ⟨M, g, a, rfl, OM, G, ha', g, a, rfl, G, g, a, rfl, G, _, rfl, .inr ⟨⟨_, .inr rfl⟩, (rp_inFall G a).ok (by decide) (by decide)⟩, .inr ⟨rfl, ?_⟩⟩
      exact hN _ _ rfl ⟨rfl, _, _, _, _, _, rfl⟩
    · obtain ⟨rfl, v13, v14, v15, v16, v17, rfl⟩ := hI
      simp
      refine fRepr_ok rg ⟨_, _, rfl, rfl, ?_⟩
      simpa using h
end Ao
set_option Elab.async false
set_option autoImplicit false
set_option linter.all false
set_option maxRecDepth 100000
set_option maxHeartbeats 2000000
namespace Ao
open PySem PySem.Spec PyProof.Rows L2
section
variable {H : Hp} {F C : Addr} {sp re co : Int}
theorem g_cells (e : H F = some (.dK (feedKV C sp re co))) : DGet H F (.str "cells") (some (.ref C)) := DGet.k (k := .inr "cells") e
theorem g_spot (e : H F = some (.dK (feedKV C sp re co))) : DGet H F (.str "spot") (some (.int sp)) := DGet.k (k := .inr "spot") e
theorem g_rest (e : H F = some (.dK (feedKV C sp re co))) : DGet H F (.str "rest") (some (.int re)) := DGet.k (k := .inr "rest") e
theorem g_count (e : H F = some (.dK (feedKV C sp re co))) : DGet H F (.str "count") (some (.int co)) := DGet.k (k := .inr "count") e
theorem p_spot (e : H F = some (.dK (feedKV C sp re co))) (i : Int) : DPut H F (.str "spot") (.int i) (upd H F (.dK (feedKV C i re co))) := DPut.k (k := .inr "spot") e (by show 4 < sizeLine; decide)
theorem p_rest (e : H F = some (.dK (feedKV C sp re co))) (i : Int) : DPut H F (.str "rest") (.int i) (upd H F (.dK (feedKV C sp i co))) := DPut.k (k := .inr "rest") e (by show 4 < sizeLine; decide)
theorem p_count (e : H F = some (.dK (feedKV C sp re co))) (i : Int) : DPut H F (.str "count") (.int i) (upd H F (.dK (feedKV C sp re i))) := DPut.k (k := .inr "count") e (by show 4 < sizeLine; decide)
end
theorem room_u1 {j : Nat} {A : Around} (hr : Room j A) : A.units + 1 < cLine := by
  have := Room.units hr
  omega
theorem ints_dq (H : Hp) : ∀ cs : List Int, DqAll H (cs.map V.int) (cs.map PyData.int)
  | [] => .nil
  | c :: cs => .cons (.int c) (ints_dq H cs)
theorem ints_shaped (cs : List Int) : SeqAt.shaped (.list (cs.map PyData.int)) = true := by
  have h : Shp 1 (.list (cs.map PyData.int)) := Shp.lst fun x hx => by
    obtain ⟨i, _, rfl⟩ := List.mem_map.mp hx
    exact Shp.int
  exact h.shaped (by decide)
theorem cm (x c : Int) (h : 0 < c) (h2 : c ≤ 2147482705) (j : Int) : CMul (x % c) j := by
  have m0 := Int.emod_nonneg x (b := c) (by omega)
  have m1 := Int.emod_lt_of_pos x h
  exact .inl ⟨by omega, by omega⟩
theorem cell_pick {K : AK} {σ : Sg} {H : Hp} {Q' : VK} {C : Addr} {cs : List Int} {sp : Int} (h3 : σ[3]? = some (some (.int sp))) (h4 : σ[4]? = some (some (.ref C))) (hC : H C = some (.lst (cs.map V.int))) (q : ∀ ce p, H p = none → Q' (.int ce) (upd H p (.lst []))) :
    tIf (tTest (tOp (rNeD K) (tVar 4) (tLst tNil))) (tOp (rIxL K) (tVar 4) (tOp (rI (fun _ j => 0 < j) fun i j => V.int (i % j)) (tCB (fun xs H Q => (∃ i, xs = [V.int i] ∧ Q (V.int i) H) ∨ ∃ k, xs = [V.bl k] ∧ Q (V.int (if k = true then 1 else 0)) H) (tCons (tVar 3) tNil)) (tCB (rLen K) (tCons (tVar 4) tNil)))) (tC (.int 905290)) σ H Q' := by
  refine ⟨_, h4, by show 0 ≤ sizeLine; exact Nat.zero_le _, fun p np => ?_⟩
  have hC' : upd H p (.lst []) C = some (.lst (cs.map V.int)) := by
    rw [upd_ne (fun z => by rw [z, np] at hC; cases hC)]
    exact hC
  refine ⟨.list (cs.map .int), .list [], Dq.dp _ _ (.lst hC' (ints_dq _ cs)), Dq.dp _ _ (.lst upd_same .nil), ints_shaped cs, rfl, _, rfl, ?_⟩
  cases cs with
  | nil => exact q 905290 p np
  | cons c0 cs =>
    have e : (!PyData.eqv (.list ((c0 :: cs).map .int)) (.list [])) = true := by simp [PyData.eqv, PyData.eqvAll]
    rw [e]
    rw [if_pos rfl]
    have lp : (0 : Int) < ((((c0 :: cs).map V.int).length : Nat) : Int) := by rw [List.length_map, List.length_cons]; omega
    refine ⟨_, h4, _, h3, .inl ⟨sp, rfl, _, h4, .ref C, _, rfl, .inl ⟨_, .inl (.inl hC'), rfl⟩, sp, _, rfl, rfl, lp, ?_⟩⟩
    have m0 : 0 ≤ sp % ((((c0 :: cs).map V.int).length : Nat) : Int) := Int.emod_nonneg _ (by omega)
    have m1 : sp % ((((c0 :: cs).map V.int).length : Nat) : Int) < ((((c0 :: cs).map V.int).length : Nat) : Int) := Int.emod_lt_of_pos _ lp
    have ej : sp % ((((c0 :: cs).map V.int).length : Nat) : Int) = ((sp % ((((c0 :: cs).map V.int).length : Nat) : Int)).toNat : Nat) := (Int.toNat_of_nonneg m0).symm
    have hj' : (sp % ((((c0 :: cs).map V.int).length : Nat) : Int)).toNat < (c0 :: cs).length := by
      rw [List.length_map] at m0 m1 ⊢
      omega
    obtain ⟨z, hz⟩ : ∃ z, (c0 :: cs)[(sp % ((((c0 :: cs).map V.int).length : Nat) : Int)).toNat]? = some z := ⟨_, List.getElem?_eq_getElem hj'⟩
    have ha := atI_nat (xs := (c0 :: cs).map V.int) (j := (sp % ((((c0 :: cs).map V.int).length : Nat) : Int)).toNat) (v := .int z) (by rw [List.getElem?_map, hz]; rfl)
    rw [← ej] at ha
    exact ⟨C, _, _, .int z, rfl, rfl, .inl (.inl hC'), ha, q _ p np⟩
def N__law_draw : List Str := ["_law_feed_here", "_law_many", "_law_figure", "_law_spot", "_law_cells", "_law_cell", "_law_mixed"]
theorem sc__law_draw : FnScope N__law_draw ["_law_feed_here", "_law_many"] (defScope s__law_draw) := ⟨rfl, rfl, rfl, by decide +kernel, rfl, by decide +kernel, by decide +kernel⟩
section
variable {P : Program} {w : World} {K : AK} {mg : Str → Option Value} {base : Heap}
theorem ok__law_draw (c : Cf K mg) {f : Addr} {fd : FuncData} (Fu : FunD K "_law_draw" "_law_draw" (defArgs s__law_draw) (defBody s__law_draw) (defScope s__law_draw) [] [] f fd) : FnOk P w K mg base CX0 1 f fd ["_law_feed_here", "_law_many"] (lsp sp__law_draw) := by
  refine Fu.ok sc__law_draw (fun vs H Q E ⟨F, G, ss, R, _, _, _, r, h, _⟩ => ?_) fun cdv A outer s H vs Q E hr ⟨F, G, ss, R, gF, sub, fe, r, h, fo⟩ => ?_
  · obtain ⟨n, rfl, _⟩ := h
    exact r.len
  · have hu := room_u1 hr
    refine ⟨_, PSs.nox (pss_cons (ps_dput hu (pv 0) pe_str (pe_op op_add (pe_dget hu (pv 0) pe_str fun _ _ => rfl) pe_int) (by rfl))
      (pss_cons (ps_if (pt_cmp (pc_gt (pe_dget hu (pv 0) pe_str fun _ _ => rfl) pe_int))
        (pss_cons (ps_set (i := 2) sc__law_draw.nd rfl (.inl rfl) (pe_op op_mod (pe_callTy call_int1 rfl (c.free 17) (by rfl) (pa_cons (pe_dget hu (pv 0) pe_str fun _ _ => rfl) pa_nil)) (pv 1)))
          (pss_cons (ps_dput hu (pv 0) pe_str (pe_op op_fdiv (pe_dget hu (pv 0) pe_str fun _ _ => rfl) (pv 1)) (by rfl)) (pss_one (ps_ret (pv 2))))) pss_nil)
      (pss_cons (ps_par (i := 3) (j := 4) rfl sc__law_draw.nd rfl rfl (by decide) rfl rfl (pa_cons (pe_dget hu (pv 0) pe_str fun _ _ => rfl) (pa_cons (pe_dget hu (pv 0) pe_str fun _ _ => rfl) pa_nil)) (by rfl))
      (pss_cons (ps_dput hu (pv 0) pe_str (pe_op op_add (pv 3) pe_int) (by rfl))
      (pss_cons (ps_set (i := 5) sc__law_draw.nd rfl (.inl rfl) (pe_ifExp (pt_cmpR (op_neD (Room.units hr)) (pv 4) (pe_lst pa_nil) (nobehind _ (by decide) (by decide)))
          (pe_ix ix_list (pv 4) (pe_op op_mod (pe_callTy call_int1 rfl (c.free 17) (by rfl) (pa_cons (pv 3) pa_nil)) (pe_callB call_len rfl (c.free 11) (by rfl) (pa_cons (pv 4) pa_nil))) fun _ _ => rfl) pe_int))
      (pss_cons (ps_if (PW.pt (pw_and (pt_cmp (pc_ge (pv 5) (pe_op op_pow pe_int pe_int))) (pw_and1 (pt_cmp (pc_lt (pv 3) (pe_callB call_len rfl (c.free 11) (by rfl) (pa_cons (pv 4) pa_nil)))))))
          (pss_cons (ps_dput hu (pv 0) pe_str (pe_op op_fdiv (pv 5) (pv 1)) (by rfl)) (pss_one (ps_ret (pe_op op_mod (pe_callTy call_int1 rfl (c.free 17) (by rfl) (pa_cons (pv 5) pa_nil)) (pv 1))))) pss_nil)
      (pss_cons (ps_set (i := 6) sc__law_draw.nd rfl (.inl rfl) (pe_op op_mod (pe_callTy call_int1 rfl (c.free 17) (by rfl) (pa_cons ((pe_op op_add (pe_op op_add (pe_op op_mul (pe_op op_mod (pe_callTy call_int1 rfl (c.free 17) (by rfl) (pa_cons (pv 5) pa_nil)) pe_int) pe_int) (pe_op op_mul pe_int (pe_dget hu (pv 0) pe_str fun _ _ => rfl))) pe_int)) pa_nil)) pe_int))
      (pss_cons (ps_set (i := 6) sc__law_draw.nd rfl (.inl rfl) (pe_op op_mod (pe_callTy call_int1 rfl (c.free 17) (by rfl) (pa_cons ((pe_op op_add (pe_op op_add (pe_op op_mul (pv 6) (pv 6)) (pe_op op_mul pe_int (pe_dget hu (pv 0) pe_str fun _ _ => rfl))) pe_int)) pa_nil)) pe_int))
      (pss_one (ps_ret (pe_op op_mod (pe_callTy call_int1 rfl (c.free 17) (by rfl) (pa_cons (pe_op op_fdiv (pe_op op_mod (pe_callTy call_int1 rfl (c.free 17) (by rfl) (pa_cons ((pe_op op_add (pe_op op_mul (pv 6) (pv 6)) (pe_op op_mul pe_int (pv 6)))) pa_nil)) pe_int) pe_int) pa_nil)) (pv 1)))))))))))), ?_⟩
    obtain ⟨n, rfl, hn1, hn2, h⟩ := h
    cases r with
    | cons r1 r2 =>
    cases r2 with
    | cons r2 r3 =>
    cases r3
    obtain rfl := r1
    have r2' : Dq (hide H G) _ (.int (n : Nat)) := r2
    cases r2'
    obtain ⟨C, cs, sp, re, co, hF, hC, hl, hsp, hco⟩ := fe
    have nFC : C ≠ F := fun z => by rw [z, hF] at hC; cases hC
    -- the end: a figure below n, the feed as it may be
    have fin : ∀ (H' : Hp) (sp' re' co' : Int) (j : Int), (∀ b o, b ≠ F → H b = some o → H' b = some o) → H' F = some (.dK (feedKV C sp' re' co')) → 0 ≤ sp' → 0 ≤ co' → Q (.int (j % (n : Nat))) H' := fun H' sp' re' co' j hs hF' s0 c0 => by
      have st : Step F H H' := ⟨hs, fun C' a b d e => by rw [hF] at e; simp only [feedKV, Option.some.injEq, HO.dK.injEq, List.cons.injEq, Prod.mk.injEq, V.ref.injEq] at e; obtain ⟨⟨_, rfl⟩, _⟩ := e; exact ⟨_, _, _, hF'⟩⟩
      have fe' : FeedOk F H' := ⟨C, cs, sp', re', co', hF', hs _ _ nFC hC, hl, s0, c0⟩
      have m0 : 0 ≤ j % (n : Nat) := Int.emod_nonneg _ (by omega)
      have m1 : j % (n : Nat) < (n : Nat) := Int.emod_lt_of_pos _ (by omega)
      have e : j % ((n : Nat) : Int) = ((j % (n : Nat)).toNat : Nat) := (Int.toNat_of_nonneg m0).symm
      rw [e]
      exact fo _ _ H' (h _ (by omega)) st fe' (.int _)
    refine ⟨_, rfl, F, .int co, rfl, g_count hF, co, 1, rfl, rfl, _, rfl, F, _, rfl, p_count hF (co + 1), ?_⟩
    have s1 : ∀ b o, b ≠ F → H b = some o → upd H F (.dK (feedKV C sp re (co + 1))) b = some o := fun b o nb e => by rw [upd_ne nb]; exact e
    have hF1 : upd H F (.dK (feedKV C sp re (co + 1))) F = some (.dK (feedKV C sp re (co + 1))) := upd_same
    generalize upd H F (.dK (feedKV C sp re (co + 1))) = H1 at s1 hF1
    refine ⟨_, rfl, F, .int re, rfl, g_rest hF1, re, 0, rfl, rfl, _, rfl, ?_⟩
    show if decide (0 < re) = true then _ else _
    by_cases hre : decide (0 < re) = true
    · rw [if_pos hre]
      refine ⟨_, rfl, F, .int re, rfl, g_rest hF1, .inl ⟨re, rfl, _, rfl, re, n, rfl, rfl, by omega, ?_⟩⟩
      refine ⟨_, rfl, F, .int re, rfl, g_rest hF1, _, rfl, re, n, rfl, rfl, ⟨by omega, by omega⟩, _, rfl, F, _, rfl, p_rest hF1 (re / n), _, rfl, ?_⟩
      exact fin _ sp (re / n) (co + 1) re (fun b o nb e => by rw [upd_ne nb]; exact s1 b o nb e) upd_same hsp (by omega)
    · rw [if_neg hre]
      refine ⟨_, rfl, F, .int sp, rfl, g_spot hF1, _, rfl, F, .ref C, rfl, g_cells hF1, _, _, rfl, ?_⟩
      refine ⟨_, rfl, sp, 1, rfl, rfl, _, rfl, F, _, rfl, p_spot hF1 (sp + 1), ?_⟩
      have s2 : ∀ b o, b ≠ F → H b = some o → upd H1 F (.dK (feedKV C (sp + 1) re (co + 1))) b = some o := fun b o nb e => by rw [upd_ne nb]; exact s1 b o nb e
      have hF2 : upd H1 F (.dK (feedKV C (sp + 1) re (co + 1))) F = some (.dK (feedKV C (sp + 1) re (co + 1))) := upd_same
      generalize upd H1 F (.dK (feedKV C (sp + 1) re (co + 1))) = H2 at s2 hF2
      have hC2 := s2 C _ nFC hC
      refine cell_pick (K := K) (C := C) (cs := cs) (sp := sp) rfl rfl hC2 fun ce p np => ?_
      have pF : F ≠ p := fun z => by rw [← z, hF2] at np; cases np
      have s3 : ∀ b o, b ≠ F → H b = some o → upd H2 p (.lst []) b = some o := fun b o nb e => by
        have := s2 b o nb e
        rw [upd_ne (fun z => by rw [z, np] at this; cases this)]
        exact this
      have hF3 : upd H2 p (.lst []) F = some (.dK (feedKV C (sp + 1) re (co + 1))) := by rw [upd_ne pF]; exact hF2
      generalize upd H2 p (.lst []) = H3 at s3 hF3
      have hC3 := s3 C _ nFC hC
      have np' : (0 : Int) < (n : Nat) := by omega
      refine ⟨_, rfl, 10, 18, rfl, rfl, ⟨by decide, by decide, by decide⟩, ce, _, rfl, rfl, _, rfl, ?_⟩
      show if decide ((10 : Int) ^ (18 : Int).toNat ≤ ce) = true then _ else _
      by_cases hg : decide ((10 : Int) ^ (18 : Int).toNat ≤ ce) = true
      · rw [if_pos hg]
        refine ⟨_, rfl, _, rfl, .ref C, _, rfl, .inl ⟨_, .inl (.inl hC3), rfl⟩, sp, _, rfl, rfl, _, rfl, ?_⟩
        show if decide (sp < (((cs.map V.int).length : Nat) : Int)) = true then _ else _
        by_cases hb : decide (sp < (((cs.map V.int).length : Nat) : Int)) = true
        · rw [if_pos hb]
          refine ⟨_, rfl, _, rfl, ce, n, rfl, rfl, ⟨np', by omega⟩, _, rfl, F, _, rfl, p_rest hF3 (ce / n), _, rfl, .inl ⟨ce, rfl, _, rfl, ce, n, rfl, rfl, np', ?_⟩⟩
          exact fin _ (sp + 1) (ce / n) (co + 1) ce (fun b o nb e => by rw [upd_ne nb]; exact s3 b o nb e) upd_same (by omega) (by omega)
        · rw [if_neg hb]
          refine ⟨_, rfl, .inl ⟨ce, rfl, ce, 1000000033, rfl, rfl, (by decide : (0 : Int) < 1000000033), _, 7, rfl, rfl, .inr ⟨by decide, by decide⟩, _, rfl, F, .int (co + 1), rfl, g_count hF3, 119242, co + 1, rfl, rfl, .inl ⟨by decide, by decide⟩, _, _, rfl, rfl, _, 2948, rfl, rfl, .inl ⟨_, rfl, _, 2147482705, rfl, rfl, (by decide : (0 : Int) < 2147482705), ?_⟩⟩⟩
          refine ⟨_, rfl, _, rfl, _, _, rfl, rfl, cm _ _ (by decide) (by decide) _, _, rfl, F, .int (co + 1), rfl, g_count hF3, 9673508, co + 1, rfl, rfl, .inl ⟨by decide, by decide⟩, _, _, rfl, rfl, _, 5818, rfl, rfl, .inl ⟨_, rfl, _, 2147481925, rfl, rfl, (by decide : (0 : Int) < 2147481925), ?_⟩⟩
          refine ⟨_, rfl, _, rfl, _, _, rfl, rfl, cm _ _ (by decide) (by decide) _, _, rfl, 3394, _, rfl, rfl, .inl ⟨by decide, by decide⟩, _, _, rfl, rfl, .inl ⟨_, rfl, _, 2147481817, rfl, rfl, (by decide : (0 : Int) < 2147481817), _, 16, rfl, rfl, ⟨by decide, by decide⟩, .inl ⟨_, rfl, _, rfl, _, n, rfl, rfl, np', ?_⟩⟩⟩
          exact fin H3 (sp + 1) re (co + 1) _ s3 hF3 (by omega) (by omega)
      · rw [if_neg hg]
        show if false = true then _ else _
        rw [if_neg (by decide)]
        refine ⟨_, rfl, .inl ⟨ce, rfl, ce, 1000000033, rfl, rfl, (by decide : (0 : Int) < 1000000033), _, 7, rfl, rfl, .inr ⟨by decide, by decide⟩, _, rfl, F, .int (co + 1), rfl, g_count hF3, 119242, co + 1, rfl, rfl, .inl ⟨by decide, by decide⟩, _, _, rfl, rfl, _, 2948, rfl, rfl, .inl ⟨_, rfl, _, 2147482705, rfl, rfl, (by decide : (0 : Int) < 2147482705), ?_⟩⟩⟩
        refine ⟨_, rfl, _, rfl, _, _, rfl, rfl, cm _ _ (by decide) (by decide) _, _, rfl, F, .int (co + 1), rfl, g_count hF3, 9673508, co + 1, rfl, rfl, .inl ⟨by decide, by decide⟩, _, _, rfl, rfl, _, 5818, rfl, rfl, .inl ⟨_, rfl, _, 2147481925, rfl, rfl, (by decide : (0 : Int) < 2147481925), ?_⟩⟩
        refine ⟨_, rfl, _, rfl, _, _, rfl, rfl, cm _ _ (by decide) (by decide) _, _, rfl, 3394, _, rfl, rfl, .inl ⟨by decide, by decide⟩, _, _, rfl, rfl, .inl ⟨_, rfl, _, 2147481817, rfl, rfl, (by decide : (0 : Int) < 2147481817), _, 16, rfl, rfl, ⟨by decide, by decide⟩, .inl ⟨_, rfl, _, rfl, _, n, rfl, rfl, np', ?_⟩⟩⟩
        exact fin H3 (sp + 1) re (co + 1) _ s3 hF3 (by omega) (by omega)
end
end Ao
set_option Elab.async false
set_option autoImplicit false
set_option linter.all false
set_option maxRecDepth 100000
set_option maxHeartbeats 2000000
namespace Ao
open PySem PySem.Spec PyProof.Rows L2
theorem sql_new {K : AK} {H : Hp} {F a : Addr} {xs : List V} {o : HO} (h : SqL K H a xs) (n : H F = none) : SqL K (upd H F o) a xs := by
  rcases h with (h | ⟨o', h⟩) | h
  · exact .inl (.inl (by rw [upd_ne (ne_of_none h n)]; exact h))
  · exact .inl (.inr ⟨o', by rw [upd_ne (ne_of_none h n)]; exact h⟩)
  · exact .inr h
section
variable {P : Program} {w : World} {K : AK} {mg : Str → Option Value} {base : Heap}
def N_gaps_by : List Str := ["clocks", "here", "there", "gap"]
theorem sc_gaps_by : FnScope N_gaps_by ["clocks"] (defScope s_gaps_by) := ⟨rfl, rfl, rfl, by decide +kernel, rfl, by decide +kernel, by decide +kernel⟩
theorem ok_gaps_by {f : Addr} {fd : FuncData} (Fu : FunD K "gaps_by" "gaps_by" (defArgs s_gaps_by) (defBody s_gaps_by) (defScope s_gaps_by) [] [] f fd) : FnOk P w K mg base CX0 1 f fd ["clocks"] (lspU spU_gaps_by) := by
  refine Fu.ok sc_gaps_by (fun vs H Q E ⟨F, G, ss, _, _, _, r, h, _⟩ => ?_) fun cdv A outer s H vs Q E hr ⟨F, G, ss, gF, sub, fe, r, h, fo⟩ => ?_
  · rw [r.len, h]; rfl
  · rw [show ss = [.d E0t] from h] at r
    cases r with
    | cons r1 r2 =>
    cases r2
    have r1' : Dq (hide H G) _ (.tuple []) := r1
    cases r1' with
    | tup ha hb =>
    cases hb
    refine ⟨_, PSs.nox (pss_one (ps_ret (pe_dc rfl sc_gaps_by.nd (pi_both (pv 0)) (blkOk_by (own := [("here", 1), ("there", 2), ("gap", 3)]) (by kernel_rfl)) (fun _ _ _ _ _ => pg_no) (fun _ _ _ _ _ => pts_nil) (fun _ _ _ _ _ => pe_no) (fun _ _ _ _ _ => pe_no)))), ?_⟩
    exact dc_none (by rfl) (.inl (.inl (hide_get ha).1)) fun Dd nD => fo _ _ (Step.of (same_new nD)) (feed_same (same_new nD) fe)
def N__law_feed : List Str := ["_law_script", "_law_cell"]
theorem sc__law_feed : FnScope N__law_feed ["_law_script"] (defScope s__law_feed) := ⟨rfl, rfl, rfl, by decide +kernel, rfl, by decide +kernel, by decide +kernel⟩
def spFeed (K : AK) : Sp := fun vs H Q _ => ∃ (a : Addr) (ns : List Int), vs = [.ref a] ∧ SqL K H a (ns.map V.int) ∧ ∀ F H', H F = none → FeedOk F H' → Q (.ref F) H'
theorem ok__law_feed (c : Cf K mg) {f : Addr} {fd : FuncData} (Fu : FunD K "_law_feed" "_law_feed" (defArgs s__law_feed) (defBody s__law_feed) (defScope s__law_feed) [] [] f fd) : FnOk P w K mg base CX0 1 f fd ["_law_script"] (spFeed K) := by
  refine Fu.ok sc__law_feed (fun vs H Q E ⟨a, ns, e, _⟩ => by rw [e]; rfl) fun cdv A outer s H vs Q E hr ⟨a, ns, e, hS, fo⟩ => ?_
  subst e
  refine ⟨_, PSs.nox (pss_one (ps_ret (pe_disp (pps_cons pe_str (pe_lc rfl sc__law_feed.nd (pi_list (pe_slice sl_list (pv 0) po_none (po_some pe_int))) (blkOk_by (own := [("_law_cell", 1)]) (by kernel_rfl)) (fun _ _ _ _ _ => pg_name sc__law_feed.nd (i := 1) rfl (.inl rfl) (.inr rfl)) (fun _ _ _ _ _ => pts_nil) (fun _ _ _ _ _ => pe_callTy call_int1 rfl (c.free 17) (by rfl) (pa_cons (pv 1) pa_nil)))
    (pps_cons pe_str pe_int (pps_cons pe_str pe_int (pps_cons pe_str pe_int pps_nil)))) (by rfl) (by rfl) (by decide) (by decide)))), ?_⟩
  intro F nF
  refine ⟨_, rfl, 63, rfl, a, _, rfl, sql_new hS nF, fun p np => ?_⟩
  have e63 : cutV (ns.map V.int) none (some 63) = (ns.take 63).map V.int := by
    have := cut_to (ns.map V.int) 63
    rw [List.map_take]
    exact this
  rw [e63]
  have l63 : (ns.take 63).length ≤ 63 := by rw [List.length_take]; omega
  generalize ns.take 63 = ms at l63
  have hp : upd (upd H F (.dK [])) p (.lst (ms.map V.int)) p = some (.lst (ms.map V.int)) := upd_same
  have hF : upd (upd H F (.dK [])) p (.lst (ms.map V.int)) F = some (.dK []) := by
    rw [upd_ne (fun z => by rw [← z, upd_same] at np; cases np)]
    exact upd_same
  generalize upd (upd H F (.dK [])) p (.lst (ms.map V.int)) = H2 at hp hF
  refine ⟨p, rfl, ⟨_, .inl (.inl hp)⟩, fun Dd nD => ?_⟩
  have nDF : F ≠ Dd := fun z => by rw [← z, hF] at nD; cases nD
  have nDp : p ≠ Dd := fun z => by rw [← z, hp] at nD; cases nD
  refine lc_it (walk_list (xs := ms.map V.int)) (fun i H' => H' Dd = some (.lst ((ms.take i).map V.int)) ∧ H' F = some (.dK []) ∧ H' p = some (.lst (ms.map V.int))) ⟨upd_same, by rw [upd_ne nDF]; exact hF, by rw [upd_ne nDp]; exact hp⟩ (fun i H' _ h => .inl (.inl h.2.2)) (fun i x H' H'' hi ⟨h1, h2, h3⟩ ⟨e, hx⟩ => ?_) (fun H' ⟨h1, h2, h3⟩ => ?_)
  · subst e
    have hi' : i < ms.length := by simpa using hi
    have ex : x = .int ms[i] := by
      rw [List.getElem?_map, List.getElem?_eq_getElem hi'] at hx
      exact (Option.some.inj hx).symm
    subst ex
    refine ⟨rfl, ?_⟩
    refine ⟨_, rfl, .inl ⟨_, rfl, _, h1, by rw [List.length_map, List.length_take]; exact Nat.lt_of_le_of_lt (by omega : _ ≤ 63) (by decide), ?_, by rw [upd_ne nDF]; exact h2, by rw [upd_ne nDp]; exact h3⟩⟩
    rw [upd_same, List.take_succ, List.getElem?_eq_getElem hi', List.map_append]
    rfl
  · rw [List.length_map, List.take_of_length_le (Nat.le_refl _)] at h1
    refine ⟨h2, feedKV Dd 0 0 0, rfl, by show 4 ≤ 15; decide, fo F _ nF ⟨Dd, ms, 0, 0, 0, upd_same, ?_, l63, Int.le_refl _, Int.le_refl _⟩⟩
    rw [upd_ne nDF.symm]
    exact h1
end
end Ao
set_option Elab.async false
set_option autoImplicit false
set_option linter.all false
set_option maxRecDepth 100000
set_option maxHeartbeats 2000000
namespace Ao
open PySem PySem.Spec PyProof.Rows L2
section
variable {P : Program} {w : World} {K : AK} {mg : Str → Option Value} {base : Heap}
/-- what law and _law_right promise of a script of ints -/
def spTrue (K : AK) : Sp := fun vs H Q _ => ∃ (a : Addr) (ns : List Int), vs = [.ref a] ∧ SqL K H a (ns.map V.int) ∧ ∀ H', Q (.bl true) H'
theorem end_right {K : AK} {a : Addr} {ns : List Int} {H : Hp} {Q : VK} {T : DS} (hS : SqL K H a (ns.map V.int)) (hQ : ∀ H', Q (.bl true) H')
    (hT : T (EE fun d => d = .bool true) (startR none) none) : tSeq (tAsg (tCall (spFeed K) [] E0 (tCons (tVar 0) tNil)) (gName 1)) (ls 99 T) { nx := fun _ H' => Q .non H', rt := Q } (L2.start N__law_right [.ref a]) H := by
  refine ⟨.ref a, rfl, a, ns, rfl, hS, fun F H' nF fe => ?_⟩
  refine ⟨F, fun b => b = F, H', startR none, none, _, ⟨rfl, fun b e => ?_, fe, Step.refl F H', fe, ?_, fun a ds e => nomatch e⟩, hT, ⟨fun ρ acc σ H s a p => ?_, fun _ _ _ _ _ _ z => z.elim, fun _ _ _ _ _ _ z => z.elim, fun d v H st f1 rv p => ?_⟩⟩
  · obtain ⟨_, _, _, _, _, h1, _⟩ := fe
    rw [show b = F from e, h1]
    exact fun z => nomatch z
  · have r0 : RelS F (hide H' (gOf (fun b => b = F) ((none : Acc).map (·.1)))) (L2.start N__law_right [.ref a]) (List.replicate 18 none) := ⟨rfl, fun i s q => by
      rw [List.getElem?_replicate] at q
      split at q <;> cases q⟩
    exact r0.set (i := 1) (v := .ref F) (s := .feed) rfl
  · have p' : PyData.none = PyData.bool true := p
    cases p'
  · have p' : d = PyData.bool true := p
    subst p'
    cases rv
    exact hQ _
/-- a call of a def that knows that no repr is under way -/
theorem pe_callG {X : Cx} {k : Nat} {f : Addr} {fd : FuncData} {ps : List Str} {sp : Sp} {x : Str} {e : Expr} {es : List Expr} {t : TA} {p pos : Pos} (hG : X.A.guards = some []) (Fn : FnG X.prog X.w X.K X.mg X.base k f fd ps sp) (hr : Room k X.A) (hg : Gl X x) (hm : X.mg x = some (.ref f)) (kp : PySem.W.keepIn X.K (.ref f) = true) (hb : Binds X.K fd ps []) (ha : PA X (e :: es) t) (hdb : (x == ("__debug__" : Str)) = false := by decide)
    (he : starEach (e :: es) X.env = (false, eval e X.env) :: starEach es X.env := by rfl) (hpl : (backTo pos (starEach es X.env)).any (·.1) = false := by rfl) : PE X (.Call (.Name x p) (e :: es) [] pos) (tCall sp [] E0 t) := by
  refine ⟨fun pins s σ H Q I h => ?_⟩
  refine wpAny_Call_Name_kw (ld_glob I hg hm ?_ hdb)
  refine PySem.W.callWith_K (h₀ := X.base) I.ok.mod.kin kp (thn (ha.run pos pins s σ H _ I h) fun us s1 ⟨vs, H1, I1, r1, q⟩ => ⟨I1.kIn, ?_⟩) he hpl
  have r2 : Vals (vs ++ []) (us ++ []) := r1.append .nil
  have hl : (us ++ ([] : List Value)).length = ps.length := by rw [← r2.length]; exact Fn.len _ _ _ _ q
  refine wpAny_call (codeAny_mono (Fn.run X.A X.stack s1 H1 ⟨us, []⟩ (us ++ []) (vs ++ []) Q E0 hG hr I1.env0 (hb s1 us I1.kIn hl) r2 q) fun rs s' hq => ?_)
  cases rs with
  | error e => exact pass0 pins σ H1 s1 e s' I1 hq
  | ok fl =>
    cases fl with
    | ret u => exact I1.after hq
    | next => exact False.elim hq
    | brk => exact False.elim hq
    | cont => exact False.elim hq
theorem ok_right {T : DS} {f fF : Addr} {fd fdF : FuncData} (Fu : FunD K "_law_right" "_law_right" (defArgs s__law_right) (defBody s__law_right) (defScope s__law_right) [] [] f fd)
    (hb : ∀ (cdv : Value) (A : Around) (outer : List Env) (s : Shared) (H : Hp) (E : XK), A.guards = some [] → Room 9 (A.deeper (envOfC "_law_right" (defScope s__law_right) s.heap.objs.size f cdv)) → PSs (cxOf CX0 P w K mg base N__law_right "_law_right" (defScope s__law_right) f cdv A outer s H E).nox ((defBody s__law_right).drop 1) (ls 99 T))
    (hT : T (EE fun d => d = .bool true) (startR none) none) (okF : FnOk P w K mg base CX0 1 fF fdF ["_law_script"] (spFeed K)) (gF : mg "_law_feed" = some (.ref fF)) (kp : PySem.W.keepIn K (.ref fF) = true) (bF : Binds K fdF ["_law_script"] []) :
    FnG P w K mg base 10 f fd ["_law_script"] (spTrue K) := by
  refine FunD.okG Fu sc__law_right (fun vs H Q E ⟨a, ns, e, _⟩ => by rw [e]; rfl) fun cdv A outer s H vs Q E hgd hr ⟨a, ns, e, hS, hQ⟩ => ?_
  subst e
  refine ⟨_, PSs.nox (pss_cons (ps_set (i := 1) sc__law_right.nd rfl (.inl rfl) (pe_call okF (hr.mono (by decide)) (by rfl) gF kp bF .nil pass0 (pa_cons (pv 0) pa_nil))) (hb cdv A outer s H E hgd hr)), end_right hS hQ hT⟩
def N_law : List Str := ["_law_script"]
theorem sc_law : FnScope N_law ["_law_script"] (defScope s_law) := ⟨rfl, rfl, rfl, by decide +kernel, rfl, by decide +kernel, by decide +kernel⟩
theorem ok_law {f fR : Addr} {fd fdR : FuncData} (Fu : FunD K "law" "law" (defArgs s_law) (defBody s_law) (defScope s_law) [] [] f fd)
    (okR : FnG P w K mg base 10 fR fdR ["_law_script"] (spTrue K)) (gR : mg "_law_right" = some (.ref fR)) (kp : PySem.W.keepIn K (.ref fR) = true) (bR : Binds K fdR ["_law_script"] []) : FnG P w K mg base 11 f fd ["_law_script"] (spTrue K) := by
  refine FunD.okG Fu sc_law (fun vs H Q E ⟨a, ns, e, _⟩ => by rw [e]; rfl) fun cdv A outer s H vs Q E hgd hr ⟨a, ns, e, hS, hQ⟩ => ?_
  subst e
  refine ⟨_, pss_one (ps_try_thru0 (pss_one (ps_ret (pe_callG hgd okR hr (by rfl) gR kp bR (pa_cons (pv 0) pa_nil))))), ?_⟩
  exact ⟨.ref a, rfl, a, ns, rfl, hS, hQ⟩
end
end Ao
set_option Elab.async false
set_option autoImplicit false
set_option linter.all false
set_option maxRecDepth 100000
set_option maxHeartbeats 2000000
namespace Ao
open PySem PySem.Spec PySem.W PySem.Calls PyProof.Rows L2
/-- the heap that the law is told of: the script alone, frozen, if it is none of the module's own -/
noncomputable def lawH (K : AK) (a : Addr) (ob : Obj) (xs : List V) : Hp := fun b => if b = a ∧ K.lookup a = none then some (.frz ob (.lst xs)) else none
theorem lawH_some {K : AK} {a b : Addr} {ob : Obj} {xs : List V} {u : HO} (h : lawH K a ob xs b = some u) : b = a ∧ K.lookup a = none ∧ u = .frz ob (.lst xs) := by
  unfold lawH at h
  split at h
  · rename_i hc
    cases h
    exact ⟨hc.1, hc.2, rfl⟩
  · cases h
theorem lawH_off {K : AK} {a b : Addr} {ob : Obj} {xs : List V} (h : b = a → K.lookup a ≠ none) : lawH K a ob xs b = none := if_neg fun z => h z.1 z.2
/-- the law's call behind the top, its def told that no repr is under way -/
theorem law_callG {P : Program} {w : World} {K : AK} {mg mb : Str → Option Value} {k : Nat} {fa a : Addr} {fd : FuncData} {x : Str} {s₁ : Shared} {vs : List Value} {ns : List Int}
    (KX : K.In s₁.heap) (hns : s₁.heap.Ns mainGlobals mg) (hb : s₁.heap.Ns builtinsNs mb) (hbb : ∀ x : Str, x ≠ "__name__" → mb x = bootBuiltins x) (hlim : s₁.heap.NoLimit) (hg : s₁.gens = #[])
    (ha : s₁.heap.get? a = some { cls := .type "list", data := .seq vs.toArray }) (hi : IntsAre vs ns) (hl : ns.length ≤ sizeLine) (hr : Room k callerA)
    (F : ∀ base : Heap, K.In base → base.Ns mainGlobals mg → FnG P w K mg base k fa fd [x] (spTrue K)) (hbind : ∀ (s : Shared) (u : Value), BindsTo s fd ⟨[u], []⟩ [(x, u)]) :
    codeAny (model P w) callerA (.call (.ref fa) ⟨[.ref a], []⟩) (fun r s' => r = .ok (.ret (.bool true)) ∧ OldK s₁.heap s'.heap ∧ s'.os = s₁.os ∧ AllBare s'.gens) s₁ := by
  have rv := vals_ints hi
  have lenV := hi.length
  generalize hob : ({ cls := .type "list", data := .seq vs.toArray } : Obj) = ob at ha
  generalize hH : lawH K a ob (ns.map V.int) = H
  have hSome : ∀ b u, H b = some u → b = a ∧ K.lookup a = none ∧ u = .frz ob (.lst (ns.map V.int)) := fun b u e => lawH_some (hH ▸ e)
  have hOff : ∀ b, (b = a → K.lookup a ≠ none) → H b = none := fun b e => by rw [← hH]; exact lawH_off e
  -- what isn't the script stands in the base
  have keepB : ∀ {b : Addr} {o : Obj}, s₁.heap.get? b = some o → H b = none → (hidT s₁.heap H).get? b = some o := fun e n => hidT_get e n
  have keepN : ∀ {b : Addr} {m : Str → Option Value}, s₁.heap.Ns b m → (hidT s₁.heap H).Ns b m := fun {b m} ⟨o, es, ep, e, d, r⟩ => by
    refine ⟨o, es, ep, keepB e (hOff b fun z => ?_), d, r⟩
    subst z
    rw [ha] at e
    cases e
    rw [← hob] at d
    exact nomatch d
  have hKb : K.In (hidT s₁.heap H) := fun b o e => keepB (KX b o e) (hOff b fun z q => by rw [z, q] at e; cases e)
  have lim : (hidT s₁.heap H).NoLimit := by
    obtain ⟨mc, h1, h2⟩ := hlim
    exact ⟨mc, keepN h1, h2⟩
  have hok : HOk P w H s₁.heap := fun b u e => by
    obtain ⟨rfl, _, rfl⟩ := hSome b u e
    exact ⟨ha, by rw [List.length_map]; exact hl, vs, _, rv, by rw [hob]; exact ha⟩
  have e0 : Env0 P w K mg (hidT s₁.heap H) callerA [] s₁ H := {
    frames := rfl
    mod := ⟨hKb, keepN hns, ⟨mb, keepN hb, hbb⟩, lim⟩
    bs := fun b o e => of_hidT e
    bsz := Nat.le_of_eq (hidT_size _ _)
    funs := trivial
    frf := fun b z => by simp [frs] at z
    hok := hok
    bare := .of_eq hg }
  have hS : SqL K H a (ns.map V.int) := by
    cases q : K.lookup a with
    | none => exact .inl (.inr ⟨ob, by rw [← hH]; exact if_pos ⟨rfl, q⟩⟩)
    | some o =>
      have e := KX a o q
      rw [ha] at e
      cases e
      rw [← hob] at q
      exact .inr ⟨_, vs.toArray, _, q, rfl, rfl, rfl, by rw [List.size_toArray, lenV]; exact hl, by simpa using rv⟩
  refine codeAny_mono ((F _ hKb (keepN hns)).run callerA [] s₁ H ⟨[.ref a], []⟩ [.ref a] [.ref a] (fun v _ => v = .bl true) (fun _ _ _ => False) rfl hr e0 (hbind s₁ (.ref a)) (.cons rfl .nil) ⟨a, ns, rfl, hS, fun _ => rfl⟩) fun r s' h => ?_
  match r, h with
  | .error e, h => exact False.elim h
  | .ok .next, h => exact False.elim h
  | .ok .brk, h => exact False.elim h
  | .ok .cont, h => exact False.elim h
  | .ok (.ret u), h =>
    obtain ⟨v, H', os, bare, un, hok', rv', q⟩ := h
    have q' : v = .bl true := q
    subst q'
    obtain rfl : u = Value.bool true := rv'
    refine ⟨rfl, OldK.of_keep fun b o e => ?_, os, bare⟩
    cases z : H b with
    | none => exact un.keep b o e z (fun y => by simp [frs] at y) (by simp)
    | some u =>
      obtain ⟨_, _, rfl⟩ := hSome b u z
      have e1 := (hok b _ z).1
      have e2 := (hok' b _ (un.frzs b ob _ z)).1
      rw [e] at e1
      cases e1
      exact e2
/-- the walk of a law from such a promise -/
theorem walkG {l : PySem.W.OpenLaw} {n k : Nat} {q : Program} {loose : List Str} {XP : (Str → Option Value) → Heap → Prop} {YP : World → Heap → Prop} {d : DefRec} {x : Str}
    (hn : l.most = some n) (hn2 : n ≤ sizeLine) (hdf : d.params.defaults = []) (hr : Room k callerA)
    (F : ∀ (w : World) (mg : Str → Option Value) (fa : Addr) (h : Heap), YP w h → h.Ns mainGlobals mg → mg d.name = some (.ref fa) →
      ∃ (K : AK) (fd : FuncData), K.In h ∧ (∀ (s : Shared) (u : Value), BindsTo s fd ⟨[u], []⟩ [(x, u)]) ∧ ∀ base : Heap, K.In base → base.Ns mainGlobals mg → FnG l.prog w K mg base k fa fd [x] (spTrue K)) :
    PySem.W.WalkO q loose XP YP l.row.toRowW d [] (fun f vs => PySem.call f vs) :=
  Att.attach_call hn hdf fun w s₀ s₁ mg mb fa o pm cd doc a vs ns G Y ho hd hcd hmg hobj hints hlen hg => by
    obtain ⟨K, fd, KX, hb, hF⟩ := F w mg fa _ Y G.T.g hmg
    exact law_callG KX G.T.g G.T.b G.T.builtins G.T.nolimit hg hobj hints (Nat.le_trans hlen hn2) hr hF hb
end Ao
set_option Elab.async false
set_option autoImplicit false
set_option linter.all false
set_option maxRecDepth 100000
set_option maxHeartbeats 2000000
namespace Ao
open PySem PySem.Spec PyProof.Rows L2
section
variable {P : Program} {w : World} {K : AK} {mg : Str → Option Value} {base : Heap}
/-- a def that wants to know that no repr is under way -/
theorem mk_calG {sp : DSp} {T : DS} {N ps : List Str} {lev k : Nat} (c : Cf K mg) (i j : Nat) {x qual : Str} {params : Arguments} {body : List Stmt} {scope : Scope} (hd : fn[i]? = some ⟨(x, none), x, qual, params, body, scope, [], []⟩) (hj : fa[j]? = some (.glo x))
    (hbd : ∀ (kV doc pm : Value) (an : Option Addr) (cdv ct : Value) (us : List Value), us.length = ps.length → bindArgs (PySem.W.fnOf x qual params body scope .none kV doc pm an cdv ct) ⟨us, []⟩ = pure (ps.zip us))
    (S : FnScope N ps scope) (hlen : ∀ ss P, sp ss P → ss.length = ps.length)
    (hb : ∀ (f : Addr) (cdv : Value) (A : Around) (outer : List Env) (s : Shared) (H : Hp) (E : XK), A.guards = some [] → Room lev (A.deeper (envOfC qual scope s.heap.objs.size f cdv)) → PSs (cxOf CX0 P w K mg base N qual scope f cdv A outer s H E).nox body (ls k T))
    (hT : ∀ ss Q, sp ss Q → T { nx := fun _ _ => Q .none, rt := Q } (startS N.length ss) none) : CalG P w K mg base x (lev + 1) sp [] := by
  obtain ⟨fd, Fu⟩ := c.c.def_ i hd
  exact ⟨_, fd, ps, [], [], fn_deepG Fu S hlen (hb _) hT, c.glo j hj, Fu.kp, FunD.bindsN Fu hbd, .nil, fun _ _ => .nil⟩
/-- a def with one default -/
theorem mk_cal1 {sp : DSp} {T : DS} {N ps : List Str} {lev k n : Nat} {dvs : List He.Dv} {dd : List SV} (c : Cf K mg) (i j : Nat) {x qual : Str} {params : Arguments} {body : List Stmt} {scope : Scope} (hd : fn[i]? = some ⟨(x, none), x, qual, params, body, scope, dvs, []⟩) (hj : fa[j]? = some (.glo x))
    (h0 : dvs ≠ []) (hn : n + dvs.length = ps.length)
    (hbd : ∀ (T : Addr) (kV doc pm : Value) (an : Option Addr) (cdv ct : Value) (us its : List Value), us.length = n → its.length = dvs.length →
      ∃ k, bindArgs (PySem.W.fnOf x qual params body scope (.ref T) kV doc pm an cdv ct) ⟨us, []⟩ = seqItems? (.ref T) >>= k ∧ k (some its.toArray) = pure (ps.zip (us ++ its.drop 0)))
    (hdd : ∀ F H, SAll F H (dvs.map (He.Dv.v K)) dd) (S : FnScope N ps scope) (hlen : ∀ ss P, sp ss P → ss.length = ps.length)
    (hb : ∀ (f : Addr) (cdv : Value) (A : Around) (outer : List Env) (s : Shared) (H : Hp) (E : XK), Room lev (A.deeper (envOfC qual scope s.heap.objs.size f cdv)) → PSs (cxOf CX0 P w K mg base N qual scope f cdv A outer s H E).nox body (ls k T))
    (hT : ∀ ss Q, sp ss Q → T { nx := fun _ _ => Q .none, rt := Q } (startS N.length ss) none) : CalD P w K mg base x (lev + 1) sp dd := by
  obtain ⟨fd, Fu⟩ := c.c.def_ i hd
  obtain ⟨ds, r, b⟩ := FunD.binds1 Fu n 0 (fun z => h0 (List.map_eq_nil_iff.mp z)) (by rw [show ({ at_ := (x, none), name := x, qual := qual, params := params, body := body, scope := scope, dfl := dvs, kwd := [] } : He.DefD).dvs K = dvs.map (He.Dv.v K) from rfl, List.length_map]; omega) (fun T kV doc pm an cdv ct us its h1 h2 => hbd T kV doc pm an cdv ct us its h1 (h2.trans (List.length_map ..)))
  exact ⟨_, fd, ps, dvs.map (He.Dv.v K), ds, fn_deep Fu S hlen (hb _) hT, c.glo j hj, Fu.kp, b, r, hdd⟩
/-- a def with a keyword-only default -/
theorem mk_cal0 {sp : DSp} {T : DS} {N ps : List Str} {lev k n : Nat} {kws : List (Str × He.Dv)} {dd : List SV} (c : Cf K mg) (i j : Nat) {x qual : Str} {params : Arguments} {body : List Stmt} {scope : Scope} (hd : fn[i]? = some ⟨(x, none), x, qual, params, body, scope, [], kws⟩) (hj : fa[j]? = some (.glo x))
    (h0 : kws ≠ []) (hn : n + kws.length = ps.length)
    (hbd : ∀ (D : Addr) (doc pm : Value) (an : Option Addr) (cdv ct : Value) (us ks : List Value), us.length = n → ks.length = kws.length →
      KwChain D ((kws.map (·.1)).zip ks) (bindArgs (PySem.W.fnOf x qual params body scope .none (.ref D) doc pm an cdv ct) ⟨us, []⟩) (ps.zip (us ++ ks)))
    (hdd : ∀ F H, SAll F H ((kws.map fun p => (p.1, p.2.v K)).map (·.2)) dd) (S : FnScope N ps scope) (hlen : ∀ ss P, sp ss P → ss.length = ps.length)
    (hb : ∀ (f : Addr) (cdv : Value) (A : Around) (outer : List Env) (s : Shared) (H : Hp) (E : XK), Room lev (A.deeper (envOfC qual scope s.heap.objs.size f cdv)) → PSs (cxOf CX0 P w K mg base N qual scope f cdv A outer s H E).nox body (ls k T))
    (hT : ∀ ss Q, sp ss Q → T { nx := fun _ _ => Q .none, rt := Q } (startS N.length ss) none) : CalD P w K mg base x (lev + 1) sp dd := by
  obtain ⟨fd, Fu⟩ := c.c.def_ i hd
  obtain ⟨ds, r, b⟩ := FunD.binds0 (kws := kws.map fun p => (p.1, p.2.v K)) Fu n (fun z => h0 (List.map_eq_nil_iff.mp z)) (by rw [List.length_map]; exact hn) (fun D doc pm an cdv ct us ks h1 h2 => by
    have := hbd D doc pm an cdv ct us ks h1 (h2.trans (List.length_map ..))
    rwa [List.map_map])
  exact ⟨_, fd, ps, _, ds, fn_deep Fu S hlen (hb _) hT, c.glo j hj, Fu.kp, b, r, hdd⟩
theorem c_within_in (c : Cf K mg) : CalD P w K mg base "within_in" 1 sp_within_in [] :=
  mk_cal (x := "within_in") (qual := "within_in") (params := defArgs s_within_in) (body := defBody s_within_in) (scope := defScope s_within_in) (N := N_within_in) (ps := ["one", "other"]) (lev := 0) (sp := sp_within_in) c 0 25 rfl rfl (fun _ _ _ _ _ _ us hl => match us, hl with | [_, _], _ => rfl) sc_within_in (fun ss P h => by first | (obtain ⟨rfl, _⟩ := h; rfl) | (obtain ⟨_, rfl, _⟩ := h; rfl) | (obtain ⟨_, _, rfl, _⟩ := h; rfl) | (obtain ⟨_, _, _, rfl, _⟩ := h; rfl)) (fun f cdv A outer s H E hr => b_within_in c  f cdv A outer s H E hr) (fun ss Q h => p_within_in ss Q h)
theorem c_joint_in (c : Cf K mg) : CalD P w K mg base "joint_in" 1 sp_joint_in [] :=
  mk_cal (x := "joint_in") (qual := "joint_in") (params := defArgs s_joint_in) (body := defBody s_joint_in) (scope := defScope s_joint_in) (N := N_joint_in) (ps := ["one", "other"]) (lev := 0) (sp := sp_joint_in) c 1 26 rfl rfl (fun _ _ _ _ _ _ us hl => match us, hl with | [_, _], _ => rfl) sc_joint_in (fun ss P h => by first | (obtain ⟨rfl, _⟩ := h; rfl) | (obtain ⟨_, rfl, _⟩ := h; rfl) | (obtain ⟨_, _, rfl, _⟩ := h; rfl) | (obtain ⟨_, _, _, rfl, _⟩ := h; rfl)) (fun f cdv A outer s H E hr => b_joint_in c  f cdv A outer s H E hr) (fun ss Q h => p_joint_in ss Q h)
theorem c_houses_in (c : Cf K mg) : CalD P w K mg base "houses_in" 1 sp_houses_in [] :=
  mk_cal (x := "houses_in") (qual := "houses_in") (params := defArgs s_houses_in) (body := defBody s_houses_in) (scope := defScope s_houses_in) (N := N_houses_in) (ps := ["trust"]) (lev := 0) (sp := sp_houses_in) c 2 27 rfl rfl (fun _ _ _ _ _ _ us hl => match us, hl with | [_], _ => rfl) sc_houses_in (fun ss P h => by first | (obtain ⟨rfl, _⟩ := h; rfl) | (obtain ⟨_, rfl, _⟩ := h; rfl) | (obtain ⟨_, _, rfl, _⟩ := h; rfl) | (obtain ⟨_, _, _, rfl, _⟩ := h; rfl)) (fun f cdv A outer s H E hr => b_houses_in c  f cdv A outer s H E hr) (fun ss Q h => p_houses_in ss Q h)
theorem c_lots_of (c : Cf K mg) : CalD P w K mg base "lots_of" 1 sp_lots_of [] :=
  mk_cal (x := "lots_of") (qual := "lots_of") (params := defArgs s_lots_of) (body := defBody s_lots_of) (scope := defScope s_lots_of) (N := N_lots_of) (ps := ["trust", "house"]) (lev := 0) (sp := sp_lots_of) c 3 28 rfl rfl (fun _ _ _ _ _ _ us hl => match us, hl with | [_, _], _ => rfl) sc_lots_of (fun ss P h => by first | (obtain ⟨rfl, _⟩ := h; rfl) | (obtain ⟨_, rfl, _⟩ := h; rfl) | (obtain ⟨_, _, rfl, _⟩ := h; rfl) | (obtain ⟨_, _, _, rfl, _⟩ := h; rfl)) (fun f cdv A outer s H E hr => b_lots_of c  f cdv A outer s H E hr) (fun ss Q h => p_lots_of ss Q h)
theorem c_fears_of (c : Cf K mg) : CalD P w K mg base "fears_of" 1 sp_fears_of [] :=
  mk_cal (x := "fears_of") (qual := "fears_of") (params := defArgs s_fears_of) (body := defBody s_fears_of) (scope := defScope s_fears_of) (N := N_fears_of) (ps := ["trust", "house"]) (lev := 0) (sp := sp_fears_of) c 4 29 rfl rfl (fun _ _ _ _ _ _ us hl => match us, hl with | [_, _], _ => rfl) sc_fears_of (fun ss P h => by first | (obtain ⟨rfl, _⟩ := h; rfl) | (obtain ⟨_, rfl, _⟩ := h; rfl) | (obtain ⟨_, _, rfl, _⟩ := h; rfl) | (obtain ⟨_, _, _, rfl, _⟩ := h; rfl)) (fun f cdv A outer s H E hr => b_fears_of c  f cdv A outer s H E hr) (fun ss Q h => p_fears_of ss Q h)
theorem c_is_within (c : Cf K mg) : CalD P w K mg base "is_within" 1 sp_is_within [] :=
  mk_cal (x := "is_within") (qual := "is_within") (params := defArgs s_is_within) (body := defBody s_is_within) (scope := defScope s_is_within) (N := N_is_within) (ps := ["one", "other"]) (lev := 0) (sp := sp_is_within) c 5 30 rfl rfl (fun _ _ _ _ _ _ us hl => match us, hl with | [_, _], _ => rfl) sc_is_within (fun ss P h => by first | (obtain ⟨rfl, _⟩ := h; rfl) | (obtain ⟨_, rfl, _⟩ := h; rfl) | (obtain ⟨_, _, rfl, _⟩ := h; rfl) | (obtain ⟨_, _, _, rfl, _⟩ := h; rfl)) (fun f cdv A outer s H E hr => b_is_within c  f cdv A outer s H E hr) (fun ss Q h => p_is_within ss Q h)
theorem c_less_by (c : Cf K mg) : CalD P w K mg base "less_by" 1 sp_less_by [] :=
  mk_cal (x := "less_by") (qual := "less_by") (params := defArgs s_less_by) (body := defBody s_less_by) (scope := defScope s_less_by) (N := N_less_by) (ps := ["lot", "fall"]) (lev := 0) (sp := sp_less_by) c 6 31 rfl rfl (fun _ _ _ _ _ _ us hl => match us, hl with | [_, _], _ => rfl) sc_less_by (fun ss P h => by first | (obtain ⟨rfl, _⟩ := h; rfl) | (obtain ⟨_, rfl, _⟩ := h; rfl) | (obtain ⟨_, _, rfl, _⟩ := h; rfl) | (obtain ⟨_, _, _, rfl, _⟩ := h; rfl)) (fun f cdv A outer s H E hr => b_less_by c  f cdv A outer s H E hr) (fun ss Q h => p_less_by ss Q h)
theorem c_pairs_in (c : Cf K mg) : CalD P w K mg base "pairs_in" 1 sp_pairs_in [] :=
  mk_cal (x := "pairs_in") (qual := "pairs_in") (params := defArgs s_pairs_in) (body := defBody s_pairs_in) (scope := defScope s_pairs_in) (N := N_pairs_in) (ps := ["trust"]) (lev := 0) (sp := sp_pairs_in) c 12 37 rfl rfl (fun _ _ _ _ _ _ us hl => match us, hl with | [_], _ => rfl) sc_pairs_in (fun ss P h => by first | (obtain ⟨rfl, _⟩ := h; rfl) | (obtain ⟨_, rfl, _⟩ := h; rfl) | (obtain ⟨_, _, rfl, _⟩ := h; rfl) | (obtain ⟨_, _, _, rfl, _⟩ := h; rfl)) (fun f cdv A outer s H E hr => b_pairs_in c  f cdv A outer s H E hr) (fun ss Q h => p_pairs_in ss Q h)
theorem c_is_integer (c : Cf K mg) : CalD P w K mg base "is_integer" 1 sp_is_integer [] :=
  mk_cal (x := "is_integer") (qual := "is_integer") (params := defArgs s_is_integer) (body := defBody s_is_integer) (scope := defScope s_is_integer) (N := N_is_integer) (ps := ["thing"]) (lev := 0) (sp := sp_is_integer) c 19 44 rfl rfl (fun _ _ _ _ _ _ us hl => match us, hl with | [_], _ => rfl) sc_is_integer (fun ss P h => by first | (obtain ⟨rfl, _⟩ := h; rfl) | (obtain ⟨_, rfl, _⟩ := h; rfl) | (obtain ⟨_, _, rfl, _⟩ := h; rfl) | (obtain ⟨_, _, _, rfl, _⟩ := h; rfl)) (fun f cdv A outer s H E hr => b_is_integer c  f cdv A outer s H E hr) (fun ss Q h => p_is_integer ss Q h)
theorem c_is_among (c : Cf K mg) : CalD P w K mg base "is_among" 1 sp_is_among [] :=
  mk_cal (x := "is_among") (qual := "is_among") (params := defArgs s_is_among) (body := defBody s_is_among) (scope := defScope s_is_among) (N := N_is_among) (ps := ["thing", "names"]) (lev := 0) (sp := sp_is_among) c 22 47 rfl rfl (fun _ _ _ _ _ _ us hl => match us, hl with | [_, _], _ => rfl) sc_is_among (fun ss P h => by first | (obtain ⟨rfl, _⟩ := h; rfl) | (obtain ⟨_, rfl, _⟩ := h; rfl) | (obtain ⟨_, _, rfl, _⟩ := h; rfl) | (obtain ⟨_, _, _, rfl, _⟩ := h; rfl)) (fun f cdv A outer s H E hr => b_is_among c  f cdv A outer s H E hr) (fun ss Q h => p_is_among ss Q h)
theorem c_is_name (c : Cf K mg) : CalD P w K mg base "is_name" 1 sp_is_name [] :=
  mk_cal (x := "is_name") (qual := "is_name") (params := defArgs s_is_name) (body := defBody s_is_name) (scope := defScope s_is_name) (N := N_is_name) (ps := ["thing"]) (lev := 0) (sp := sp_is_name) c 23 48 rfl rfl (fun _ _ _ _ _ _ us hl => match us, hl with | [_], _ => rfl) sc_is_name (fun ss P h => by first | (obtain ⟨rfl, _⟩ := h; rfl) | (obtain ⟨_, rfl, _⟩ := h; rfl) | (obtain ⟨_, _, rfl, _⟩ := h; rfl) | (obtain ⟨_, _, _, rfl, _⟩ := h; rfl)) (fun f cdv A outer s H E hr => b_is_name c  f cdv A outer s H E hr) (fun ss Q h => p_is_name ss Q h)
theorem c_is_tuple_of (c : Cf K mg) : CalD P w K mg base "is_tuple_of" 1 sp_is_tuple_of [] :=
  mk_cal (x := "is_tuple_of") (qual := "is_tuple_of") (params := defArgs s_is_tuple_of) (body := defBody s_is_tuple_of) (scope := defScope s_is_tuple_of) (N := N_is_tuple_of) (ps := ["thing", "many"]) (lev := 0) (sp := sp_is_tuple_of) c 24 49 rfl rfl (fun _ _ _ _ _ _ us hl => match us, hl with | [_, _], _ => rfl) sc_is_tuple_of (fun ss P h => by first | (obtain ⟨rfl, _⟩ := h; rfl) | (obtain ⟨_, rfl, _⟩ := h; rfl) | (obtain ⟨_, _, rfl, _⟩ := h; rfl) | (obtain ⟨_, _, _, rfl, _⟩ := h; rfl)) (fun f cdv A outer s H E hr => b_is_tuple_of c  f cdv A outer s H E hr) (fun ss Q h => p_is_tuple_of ss Q h)
theorem c_are_rising (c : Cf K mg) : CalD P w K mg base "are_rising" 1 sp_are_rising [] :=
  mk_cal (x := "are_rising") (qual := "are_rising") (params := defArgs s_are_rising) (body := defBody s_are_rising) (scope := defScope s_are_rising) (N := N_are_rising) (ps := ["parts"]) (lev := 0) (sp := sp_are_rising) c 26 51 rfl rfl (fun _ _ _ _ _ _ us hl => match us, hl with | [_], _ => rfl) sc_are_rising (fun ss P h => by first | (obtain ⟨rfl, _⟩ := h; rfl) | (obtain ⟨_, rfl, _⟩ := h; rfl) | (obtain ⟨_, _, rfl, _⟩ := h; rfl) | (obtain ⟨_, _, _, rfl, _⟩ := h; rfl)) (fun f cdv A outer s H E hr => b_are_rising c  f cdv A outer s H E hr) (fun ss Q h => p_are_rising ss Q h)
theorem c_order_fault (c : Cf K mg) : CalD P w K mg base "order_fault" 1 sp_order_fault [] :=
  mk_cal (x := "order_fault") (qual := "order_fault") (params := defArgs s_order_fault) (body := defBody s_order_fault) (scope := defScope s_order_fault) (N := N_order_fault) (ps := ["houses", "thing"]) (lev := 0) (sp := sp_order_fault) c 35 60 rfl rfl (fun _ _ _ _ _ _ us hl => match us, hl with | [_, _], _ => rfl) sc_order_fault (fun ss P h => by first | (obtain ⟨rfl, _⟩ := h; rfl) | (obtain ⟨_, rfl, _⟩ := h; rfl) | (obtain ⟨_, _, rfl, _⟩ := h; rfl) | (obtain ⟨_, _, _, rfl, _⟩ := h; rfl)) (fun f cdv A outer s H E hr => b_order_fault c  f cdv A outer s H E hr) (fun ss Q h => p_order_fault ss Q h)
theorem c_gaps_by (c : Cf K mg) : CalU P w K mg base "gaps_by" 1 spU_gaps_by := by
  obtain ⟨fd, Fu⟩ := c.c.def_ 36 (d := d_gaps_by) rfl
  exact ⟨_, fd, _, ok_gaps_by Fu, c.glo 61 rfl, Fu.kp, FunD.bindsN Fu (fun _ _ _ _ _ _ us hl => match us, hl with | [_], _ => rfl)⟩
theorem c_rules_fault (c : Cf K mg) : CalD P w K mg base "rules_fault" 1 sp_rules_fault [] :=
  mk_cal (x := "rules_fault") (qual := "rules_fault") (params := defArgs s_rules_fault) (body := defBody s_rules_fault) (scope := defScope s_rules_fault) (N := N_rules_fault) (ps := ["machine", "houses", "looking", "waking"]) (lev := 0) (sp := sp_rules_fault) c 39 64 rfl rfl (fun _ _ _ _ _ _ us hl => match us, hl with | [_, _, _, _], _ => rfl) sc_rules_fault (fun ss P h => by first | (obtain ⟨rfl, _⟩ := h; rfl) | (obtain ⟨_, rfl, _⟩ := h; rfl) | (obtain ⟨_, _, rfl, _⟩ := h; rfl) | (obtain ⟨_, _, _, rfl, _⟩ := h; rfl)) (fun f cdv A outer s H E hr => b_rules_fault c  f cdv A outer s H E hr) (fun ss Q h => p_rules_fault ss Q h)
theorem c_want (c : Cf K mg) : CalD P w K mg base "want" 1 sp_want dWant :=
  mk_cal1 (dvs := [.int (-1)]) (x := "want") (qual := "want") (params := defArgs s_want) (body := defBody s_want) (scope := defScope s_want) (N := N_want) (ps := ["is_fit", "name", "at"]) (lev := 0) (sp := sp_want) c 46 71 rfl rfl (n := 2) (by decide) (by decide) (fun _ _ _ _ _ _ _ us its h1 h2 => match us, h1, its, h2 with | [_, _], _, [_], _ => ⟨_, rfl, rfl⟩) (fun _ _ => .cons (.int _) .nil) sc_want (fun ss P h => by first | (obtain ⟨rfl, _⟩ := h; rfl) | (obtain ⟨_, rfl, _⟩ := h; rfl) | (obtain ⟨_, _, rfl, _⟩ := h; rfl) | (obtain ⟨_, _, _, rfl, _⟩ := h; rfl)) (fun f cdv A outer s H E hr => b_want c  f cdv A outer s H E hr) (fun ss Q h => p_want ss Q h)
theorem c_looking_faults (c : Cf K mg) : CalD P w K mg base "looking_faults" 1 sp_looking_faults [] :=
  mk_cal (x := "looking_faults") (qual := "looking_faults") (params := defArgs s_looking_faults) (body := defBody s_looking_faults) (scope := defScope s_looking_faults) (N := N_looking_faults) (ps := ["book", "age"]) (lev := 0) (sp := sp_looking_faults) c 57 82 rfl rfl (fun _ _ _ _ _ _ us hl => match us, hl with | [_, _], _ => rfl) sc_looking_faults (fun ss P h => by first | (obtain ⟨rfl, _⟩ := h; rfl) | (obtain ⟨_, rfl, _⟩ := h; rfl) | (obtain ⟨_, _, rfl, _⟩ := h; rfl) | (obtain ⟨_, _, _, rfl, _⟩ := h; rfl)) (fun f cdv A outer s H E hr => b_looking_faults c  f cdv A outer s H E hr) (fun ss Q h => p_looking_faults ss Q h)
theorem c_waking_faults (c : Cf K mg) : CalD P w K mg base "waking_faults" 1 sp_waking_faults [] :=
  mk_cal (x := "waking_faults") (qual := "waking_faults") (params := defArgs s_waking_faults) (body := defBody s_waking_faults) (scope := defScope s_waking_faults) (N := N_waking_faults) (ps := ["book"]) (lev := 0) (sp := sp_waking_faults) c 58 83 rfl rfl (fun _ _ _ _ _ _ us hl => match us, hl with | [_], _ => rfl) sc_waking_faults (fun ss P h => by first | (obtain ⟨rfl, _⟩ := h; rfl) | (obtain ⟨_, rfl, _⟩ := h; rfl) | (obtain ⟨_, _, rfl, _⟩ := h; rfl) | (obtain ⟨_, _, _, rfl, _⟩ := h; rfl)) (fun f cdv A outer s H E hr => b_waking_faults c  f cdv A outer s H E hr) (fun ss Q h => p_waking_faults ss Q h)
theorem c__law_draw (c : Cf K mg) : CalD P w K mg base "_law_draw" 1 sp__law_draw [] := by
  obtain ⟨fd, Fu⟩ := c.c.def_ 67 (d := d__law_draw) rfl
  exact ⟨_, fd, _, [], [], ok__law_draw c Fu, c.glo 92 rfl, Fu.kp, FunD.bindsN Fu (fun _ _ _ _ _ _ us hl => match us, hl with | [_, _], _ => rfl), .nil, fun _ _ => .nil⟩
theorem c__law_same (c : Cf K mg) : CalG P w K mg base "_law_same" 1 sp__law_same [] :=
  mk_calG (x := "_law_same") (qual := "_law_same") (params := defArgs s__law_same) (body := defBody s__law_same) (scope := defScope s__law_same) (N := N__law_same) (ps := ["_law_told", "_law_due"]) (lev := 0) (sp := sp__law_same) c 69 94 rfl rfl (fun _ _ _ _ _ _ us hl => match us, hl with | [_, _], _ => rfl) sc__law_same (fun ss P h => by first | (obtain ⟨rfl, _⟩ := h; rfl) | (obtain ⟨_, rfl, _⟩ := h; rfl) | (obtain ⟨_, _, rfl, _⟩ := h; rfl) | (obtain ⟨_, _, _, rfl, _⟩ := h; rfl)) (fun f cdv A outer s H E hgd hr => b__law_same c  f cdv A outer s H E hgd hr) (fun ss Q h => p__law_same ss Q h)
theorem c__law_within (c : Cf K mg) : CalD P w K mg base "_law_within" 1 sp__law_within [] :=
  mk_cal (x := "_law_within") (qual := "_law_within") (params := defArgs s__law_within) (body := defBody s__law_within) (scope := defScope s__law_within) (N := N__law_within) (ps := ["_law_some", "_law_other"]) (lev := 0) (sp := sp__law_within) c 70 95 rfl rfl (fun _ _ _ _ _ _ us hl => match us, hl with | [_, _], _ => rfl) sc__law_within (fun ss P h => by first | (obtain ⟨rfl, _⟩ := h; rfl) | (obtain ⟨_, rfl, _⟩ := h; rfl) | (obtain ⟨_, _, rfl, _⟩ := h; rfl) | (obtain ⟨_, _, _, rfl, _⟩ := h; rfl)) (fun f cdv A outer s H E hr => b__law_within c  f cdv A outer s H E hr) (fun ss Q h => p__law_within ss Q h)
theorem c__law_less (c : Cf K mg) : CalD P w K mg base "_law_less" 1 sp__law_less [] :=
  mk_cal (x := "_law_less") (qual := "_law_less") (params := defArgs s__law_less) (body := defBody s__law_less) (scope := defScope s__law_less) (N := N__law_less) (ps := ["_law_some", "_law_other"]) (lev := 0) (sp := sp__law_less) c 71 96 rfl rfl (fun _ _ _ _ _ _ us hl => match us, hl with | [_, _], _ => rfl) sc__law_less (fun ss P h => by first | (obtain ⟨rfl, _⟩ := h; rfl) | (obtain ⟨_, rfl, _⟩ := h; rfl) | (obtain ⟨_, _, rfl, _⟩ := h; rfl) | (obtain ⟨_, _, _, rfl, _⟩ := h; rfl)) (fun f cdv A outer s H E hr => b__law_less c  f cdv A outer s H E hr) (fun ss Q h => p__law_less ss Q h)
theorem c__law_subsets (c : Cf K mg) : CalD P w K mg base "_law_subsets" 1 sp__law_subsets [] :=
  mk_cal (x := "_law_subsets") (qual := "_law_subsets") (params := defArgs s__law_subsets) (body := defBody s__law_subsets) (scope := defScope s__law_subsets) (N := N__law_subsets) (ps := ["_law_names"]) (lev := 0) (sp := sp__law_subsets) c 72 97 rfl rfl (fun _ _ _ _ _ _ us hl => match us, hl with | [_], _ => rfl) sc__law_subsets (fun ss P h => by first | (obtain ⟨rfl, _⟩ := h; rfl) | (obtain ⟨_, rfl, _⟩ := h; rfl) | (obtain ⟨_, _, rfl, _⟩ := h; rfl) | (obtain ⟨_, _, _, rfl, _⟩ := h; rfl)) (fun f cdv A outer s H E hr => b__law_subsets c  f cdv A outer s H E hr) (fun ss Q h => p__law_subsets ss Q h)
theorem c__law_meets (c : Cf K mg) : CalD P w K mg base "_law_meets" 1 sp__law_meets [] :=
  mk_cal (x := "_law_meets") (qual := "_law_meets") (params := defArgs s__law_meets) (body := defBody s__law_meets) (scope := defScope s__law_meets) (N := N__law_meets) (ps := ["_law_needs_here", "_law_some"]) (lev := 0) (sp := sp__law_meets) c 78 103 rfl rfl (fun _ _ _ _ _ _ us hl => match us, hl with | [_, _], _ => rfl) sc__law_meets (fun ss P h => by first | (obtain ⟨rfl, _⟩ := h; rfl) | (obtain ⟨_, rfl, _⟩ := h; rfl) | (obtain ⟨_, _, rfl, _⟩ := h; rfl) | (obtain ⟨_, _, _, rfl, _⟩ := h; rfl)) (fun f cdv A outer s H E hr => b__law_meets c  f cdv A outer s H E hr) (fun ss Q h => p__law_meets ss Q h)
theorem c__law_all_pairs (c : Cf K mg) : CalD P w K mg base "_law_all_pairs" 1 sp__law_all_pairs [] :=
  mk_cal (x := "_law_all_pairs") (qual := "_law_all_pairs") (params := defArgs s__law_all_pairs) (body := defBody s__law_all_pairs) (scope := defScope s__law_all_pairs) (N := N__law_all_pairs) (ps := ["_law_guild_here"]) (lev := 0) (sp := sp__law_all_pairs) c 79 104 rfl rfl (fun _ _ _ _ _ _ us hl => match us, hl with | [_], _ => rfl) sc__law_all_pairs (fun ss P h => by first | (obtain ⟨rfl, _⟩ := h; rfl) | (obtain ⟨_, rfl, _⟩ := h; rfl) | (obtain ⟨_, _, rfl, _⟩ := h; rfl) | (obtain ⟨_, _, _, rfl, _⟩ := h; rfl)) (fun f cdv A outer s H E hr => b__law_all_pairs c  f cdv A outer s H E hr) (fun ss Q h => p__law_all_pairs ss Q h)
theorem c_least_of (c : Cf K mg) : CalD P w K mg base "least_of" 2 sp_least_of [] :=
  mk_cal (x := "least_of") (qual := "least_of") (params := defArgs s_least_of) (body := defBody s_least_of) (scope := defScope s_least_of) (N := N_least_of) (ps := ["sets"]) (lev := 1) (sp := sp_least_of) c 7 32 rfl rfl (fun _ _ _ _ _ _ us hl => match us, hl with | [_], _ => rfl) sc_least_of (fun ss P h => by first | (obtain ⟨rfl, _⟩ := h; rfl) | (obtain ⟨_, rfl, _⟩ := h; rfl) | (obtain ⟨_, _, rfl, _⟩ := h; rfl) | (obtain ⟨_, _, _, rfl, _⟩ := h; rfl)) (fun f cdv A outer s H E hr => b_least_of c (c_is_within c) f cdv A outer s H E hr) (fun ss Q h => p_least_of ss Q h)
theorem c_greatest_of (c : Cf K mg) : CalD P w K mg base "greatest_of" 2 sp_greatest_of [] :=
  mk_cal (x := "greatest_of") (qual := "greatest_of") (params := defArgs s_greatest_of) (body := defBody s_greatest_of) (scope := defScope s_greatest_of) (N := N_greatest_of) (ps := ["sets"]) (lev := 1) (sp := sp_greatest_of) c 8 33 rfl rfl (fun _ _ _ _ _ _ us hl => match us, hl with | [_], _ => rfl) sc_greatest_of (fun ss P h => by first | (obtain ⟨rfl, _⟩ := h; rfl) | (obtain ⟨_, rfl, _⟩ := h; rfl) | (obtain ⟨_, _, rfl, _⟩ := h; rfl) | (obtain ⟨_, _, _, rfl, _⟩ := h; rfl)) (fun f cdv A outer s H E hr => b_greatest_of c (c_is_within c) f cdv A outer s H E hr) (fun ss Q h => p_greatest_of ss Q h)
theorem c_is_safe_by (c : Cf K mg) : CalD P w K mg base "is_safe_by" 2 sp_is_safe_by [] :=
  mk_cal (x := "is_safe_by") (qual := "is_safe_by") (params := defArgs s_is_safe_by) (body := defBody s_is_safe_by) (scope := defScope s_is_safe_by) (N := N_is_safe_by) (ps := ["trust", "house", "fall"]) (lev := 1) (sp := sp_is_safe_by) c 9 34 rfl rfl (fun _ _ _ _ _ _ us hl => match us, hl with | [_, _, _], _ => rfl) sc_is_safe_by (fun ss P h => by first | (obtain ⟨rfl, _⟩ := h; rfl) | (obtain ⟨_, rfl, _⟩ := h; rfl) | (obtain ⟨_, _, rfl, _⟩ := h; rfl) | (obtain ⟨_, _, _, rfl, _⟩ := h; rfl)) (fun f cdv A outer s H E hr => b_is_safe_by c (c_fears_of c) (c_is_within c) f cdv A outer s H E hr) (fun ss Q h => p_is_safe_by ss Q h)
theorem c_lot_at (c : Cf K mg) : CalD P w K mg base "lot_at" 2 sp_lot_at [] :=
  mk_cal (x := "lot_at") (qual := "lot_at") (params := defArgs s_lot_at) (body := defBody s_lot_at) (scope := defScope s_lot_at) (N := N_lot_at) (ps := ["trust", "pair"]) (lev := 1) (sp := sp_lot_at) c 13 38 rfl rfl (fun _ _ _ _ _ _ us hl => match us, hl with | [_, _], _ => rfl) sc_lot_at (fun ss P h => by first | (obtain ⟨rfl, _⟩ := h; rfl) | (obtain ⟨_, rfl, _⟩ := h; rfl) | (obtain ⟨_, _, rfl, _⟩ := h; rfl) | (obtain ⟨_, _, _, rfl, _⟩ := h; rfl)) (fun f cdv A outer s H E hr => b_lot_at c (c_lots_of c) f cdv A outer s H E hr) (fun ss Q h => p_lot_at ss Q h)
theorem c_first_missed_by (c : Cf K mg) : CalD P w K mg base "first_missed_by" 2 sp_first_missed_by [] :=
  mk_cal (x := "first_missed_by") (qual := "first_missed_by") (params := defArgs s_first_missed_by) (body := defBody s_first_missed_by) (scope := defScope s_first_missed_by) (N := N_first_missed_by) (ps := ["needs", "lot"]) (lev := 1) (sp := sp_first_missed_by) c 17 42 rfl rfl (fun _ _ _ _ _ _ us hl => match us, hl with | [_, _], _ => rfl) sc_first_missed_by (fun ss P h => by first | (obtain ⟨rfl, _⟩ := h; rfl) | (obtain ⟨_, rfl, _⟩ := h; rfl) | (obtain ⟨_, _, rfl, _⟩ := h; rfl) | (obtain ⟨_, _, _, rfl, _⟩ := h; rfl)) (fun f cdv A outer s H E hr => b_first_missed_by c (c_joint_in c) f cdv A outer s H E hr) (fun ss Q h => p_first_missed_by ss Q h)
theorem c_is_number (c : Cf K mg) : CalD P w K mg base "is_number" 2 sp_is_number [] :=
  mk_cal (x := "is_number") (qual := "is_number") (params := defArgs s_is_number) (body := defBody s_is_number) (scope := defScope s_is_number) (N := N_is_number) (ps := ["thing"]) (lev := 1) (sp := sp_is_number) c 20 45 rfl rfl (fun _ _ _ _ _ _ us hl => match us, hl with | [_], _ => rfl) sc_is_number (fun ss P h => by first | (obtain ⟨rfl, _⟩ := h; rfl) | (obtain ⟨_, rfl, _⟩ := h; rfl) | (obtain ⟨_, _, rfl, _⟩ := h; rfl) | (obtain ⟨_, _, _, rfl, _⟩ := h; rfl)) (fun f cdv A outer s H E hr => b_is_number c (c_is_integer c) f cdv A outer s H E hr) (fun ss Q h => p_is_number ss Q h)
theorem c_is_pair (c : Cf K mg) : CalD P w K mg base "is_pair" 2 sp_is_pair [] :=
  mk_cal (x := "is_pair") (qual := "is_pair") (params := defArgs s_is_pair) (body := defBody s_is_pair) (scope := defScope s_is_pair) (N := N_is_pair) (ps := ["thing"]) (lev := 1) (sp := sp_is_pair) c 25 50 rfl rfl (fun _ _ _ _ _ _ us hl => match us, hl with | [_], _ => rfl) sc_is_pair (fun ss P h => by first | (obtain ⟨rfl, _⟩ := h; rfl) | (obtain ⟨_, rfl, _⟩ := h; rfl) | (obtain ⟨_, _, rfl, _⟩ := h; rfl) | (obtain ⟨_, _, _, rfl, _⟩ := h; rfl)) (fun f cdv A outer s H E hr => b_is_pair c (c_is_tuple_of c) f cdv A outer s H E hr) (fun ss Q h => p_is_pair ss Q h)
theorem c_is_names (c : Cf K mg) : CalD P w K mg base "is_names" 2 sp_is_names [] :=
  mk_cal (x := "is_names") (qual := "is_names") (params := defArgs s_is_names) (body := defBody s_is_names) (scope := defScope s_is_names) (N := N_is_names) (ps := ["thing"]) (lev := 1) (sp := sp_is_names) c 27 52 rfl rfl (fun _ _ _ _ _ _ us hl => match us, hl with | [_], _ => rfl) sc_is_names (fun ss P h => by first | (obtain ⟨rfl, _⟩ := h; rfl) | (obtain ⟨_, rfl, _⟩ := h; rfl) | (obtain ⟨_, _, rfl, _⟩ := h; rfl) | (obtain ⟨_, _, _, rfl, _⟩ := h; rfl)) (fun f cdv A outer s H E hr => b_is_names c (c_is_name c) (c_are_rising c) f cdv A outer s H E hr) (fun ss Q h => p_is_names ss Q h)
theorem c_is_triple_from (c : Cf K mg) : CalD P w K mg base "is_triple_from" 2 sp_is_triple_from [] :=
  mk_cal (x := "is_triple_from") (qual := "is_triple_from") (params := defArgs s_is_triple_from) (body := defBody s_is_triple_from) (scope := defScope s_is_triple_from) (N := N_is_triple_from) (ps := ["thing"]) (lev := 1) (sp := sp_is_triple_from) c 33 58 rfl rfl (fun _ _ _ _ _ _ us hl => match us, hl with | [_], _ => rfl) sc_is_triple_from (fun ss P h => by first | (obtain ⟨rfl, _⟩ := h; rfl) | (obtain ⟨_, rfl, _⟩ := h; rfl) | (obtain ⟨_, _, rfl, _⟩ := h; rfl) | (obtain ⟨_, _, _, rfl, _⟩ := h; rfl)) (fun f cdv A outer s H E hr => b_is_triple_from c (c_is_tuple_of c) (c_is_name c) f cdv A outer s H E hr) (fun ss Q h => p_is_triple_from ss Q h)
theorem c_triangle_fault (c : Cf K mg) : CalD P w K mg base "triangle_fault" 2 sp_triangle_fault [] :=
  mk_cal (x := "triangle_fault") (qual := "triangle_fault") (params := defArgs s_triangle_fault) (body := defBody s_triangle_fault) (scope := defScope s_triangle_fault) (N := N_triangle_fault) (ps := ["thing"]) (lev := 1) (sp := sp_triangle_fault) c 37 62 rfl rfl (fun _ _ _ _ _ _ us hl => match us, hl with | [_], _ => rfl) sc_triangle_fault (fun ss P h => by first | (obtain ⟨rfl, _⟩ := h; rfl) | (obtain ⟨_, rfl, _⟩ := h; rfl) | (obtain ⟨_, _, rfl, _⟩ := h; rfl) | (obtain ⟨_, _, _, rfl, _⟩ := h; rfl)) (fun f cdv A outer s H E hr => b_triangle_fault c (c_gaps_by c)  f cdv A outer s H E hr) (fun ss Q h => p_triangle_fault ss Q h)
theorem c_is_house_of (c : Cf K mg) : CalD P w K mg base "is_house_of" 2 sp_is_house_of [] :=
  mk_cal (x := "is_house_of") (qual := "is_house_of") (params := defArgs s_is_house_of) (body := defBody s_is_house_of) (scope := defScope s_is_house_of) (N := N_is_house_of) (ps := ["trust", "thing"]) (lev := 1) (sp := sp_is_house_of) c 43 68 rfl rfl (fun _ _ _ _ _ _ us hl => match us, hl with | [_, _], _ => rfl) sc_is_house_of (fun ss P h => by first | (obtain ⟨rfl, _⟩ := h; rfl) | (obtain ⟨_, rfl, _⟩ := h; rfl) | (obtain ⟨_, _, rfl, _⟩ := h; rfl) | (obtain ⟨_, _, _, rfl, _⟩ := h; rfl)) (fun f cdv A outer s H E hr => b_is_house_of c (c_houses_in c) (c_is_among c) f cdv A outer s H E hr) (fun ss Q h => p_is_house_of ss Q h)
theorem c__law_any (c : Cf K mg) : CalD P w K mg base "_law_any" 2 sp__law_any [] :=
  mk_cal (x := "_law_any") (qual := "_law_any") (params := defArgs s__law_any) (body := defBody s__law_any) (scope := defScope s__law_any) (N := N__law_any) (ps := ["_law_feed_here", "_law_some"]) (lev := 1) (sp := sp__law_any) c 68 93 rfl rfl (fun _ _ _ _ _ _ us hl => match us, hl with | [_, _], _ => rfl) sc__law_any (fun ss P h => by first | (obtain ⟨rfl, _⟩ := h; rfl) | (obtain ⟨_, rfl, _⟩ := h; rfl) | (obtain ⟨_, _, rfl, _⟩ := h; rfl) | (obtain ⟨_, _, _, rfl, _⟩ := h; rfl)) (fun f cdv A outer s H E hr => b__law_any c (c__law_draw c) f cdv A outer s H E hr) (fun ss Q h => p__law_any ss Q h)
theorem c__law_safe (c : Cf K mg) : CalD P w K mg base "_law_safe" 2 sp__law_safe [] :=
  mk_cal (x := "_law_safe") (qual := "_law_safe") (params := defArgs s__law_safe) (body := defBody s__law_safe) (scope := defScope s__law_safe) (N := N__law_safe) (ps := ["_law_guild_here", "_law_some"]) (lev := 1) (sp := sp__law_safe) c 74 99 rfl rfl (fun _ _ _ _ _ _ us hl => match us, hl with | [_, _], _ => rfl) sc__law_safe (fun ss P h => by first | (obtain ⟨rfl, _⟩ := h; rfl) | (obtain ⟨_, rfl, _⟩ := h; rfl) | (obtain ⟨_, _, rfl, _⟩ := h; rfl) | (obtain ⟨_, _, _, rfl, _⟩ := h; rfl)) (fun f cdv A outer s H E hr => b__law_safe c (c__law_within c) f cdv A outer s H E hr) (fun ss Q h => p__law_safe ss Q h)
theorem c__law_minimal (c : Cf K mg) : CalD P w K mg base "_law_minimal" 2 sp__law_minimal [] :=
  mk_cal (x := "_law_minimal") (qual := "_law_minimal") (params := defArgs s__law_minimal) (body := defBody s__law_minimal) (scope := defScope s__law_minimal) (N := N__law_minimal) (ps := ["_law_sets"]) (lev := 1) (sp := sp__law_minimal) c 76 101 rfl rfl (fun _ _ _ _ _ _ us hl => match us, hl with | [_], _ => rfl) sc__law_minimal (fun ss P h => by first | (obtain ⟨rfl, _⟩ := h; rfl) | (obtain ⟨_, rfl, _⟩ := h; rfl) | (obtain ⟨_, _, rfl, _⟩ := h; rfl) | (obtain ⟨_, _, _, rfl, _⟩ := h; rfl)) (fun f cdv A outer s H E hr => b__law_minimal c (c__law_within c) f cdv A outer s H E hr) (fun ss Q h => p__law_minimal ss Q h)
theorem c__law_odds (c : Cf K mg) : CalD P w K mg base "_law_odds" 2 sp__law_odds [] :=
  mk_cal (x := "_law_odds") (qual := "_law_odds") (params := defArgs s__law_odds) (body := defBody s__law_odds) (scope := defScope s__law_odds) (N := N__law_odds) (ps := ["_law_guild_here", "_law_safes_here"]) (lev := 1) (sp := sp__law_odds) c 80 105 rfl rfl (fun _ _ _ _ _ _ us hl => match us, hl with | [_, _], _ => rfl) sc__law_odds (fun ss P h => by first | (obtain ⟨rfl, _⟩ := h; rfl) | (obtain ⟨_, rfl, _⟩ := h; rfl) | (obtain ⟨_, _, rfl, _⟩ := h; rfl) | (obtain ⟨_, _, _, rfl, _⟩ := h; rfl)) (fun f cdv A outer s H E hr => b__law_odds c (c__law_all_pairs c) (c__law_within c) f cdv A outer s H E hr) (fun ss Q h => p__law_odds ss Q h)
theorem c__law_in_fall (c : Cf K mg) : CalD P w K mg base "_law_in_fall" 2 sp__law_in_fall [] :=
  mk_cal (x := "_law_in_fall") (qual := "_law_in_fall") (params := defArgs s__law_in_fall) (body := defBody s__law_in_fall) (scope := defScope s__law_in_fall) (N := N__law_in_fall) (ps := ["_law_guild_here", "_law_bad", "_law_fine"]) (lev := 1) (sp := sp__law_in_fall) c 84 109 rfl rfl (fun _ _ _ _ _ _ us hl => match us, hl with | [_, _, _], _ => rfl) sc__law_in_fall (fun ss P h => by first | (obtain ⟨rfl, _⟩ := h; rfl) | (obtain ⟨_, rfl, _⟩ := h; rfl) | (obtain ⟨_, _, rfl, _⟩ := h; rfl) | (obtain ⟨_, _, _, rfl, _⟩ := h; rfl)) (fun f cdv A outer s H E hr => b__law_in_fall c (c__law_all_pairs c) (c__law_within c) f cdv A outer s H E hr) (fun ss Q h => p__law_in_fall ss Q h)
theorem c_safe_by (c : Cf K mg) : CalD P w K mg base "safe_by" 3 sp_safe_by [] :=
  mk_cal (x := "safe_by") (qual := "safe_by") (params := defArgs s_safe_by) (body := defBody s_safe_by) (scope := defScope s_safe_by) (N := N_safe_by) (ps := ["trust", "fall"]) (lev := 2) (sp := sp_safe_by) c 10 35 rfl rfl (fun _ _ _ _ _ _ us hl => match us, hl with | [_, _], _ => rfl) sc_safe_by (fun ss P h => by first | (obtain ⟨rfl, _⟩ := h; rfl) | (obtain ⟨_, rfl, _⟩ := h; rfl) | (obtain ⟨_, _, rfl, _⟩ := h; rfl) | (obtain ⟨_, _, _, rfl, _⟩ := h; rfl)) (fun f cdv A outer s H E hr => b_safe_by c (c_houses_in c) (c_is_safe_by c) f cdv A outer s H E hr) (fun ss Q h => p_safe_by ss Q h)
theorem c_falls_by (c : Cf K mg) : CalD P w K mg base "falls_by" 3 sp_falls_by [] :=
  mk_cal (x := "falls_by") (qual := "falls_by") (params := defArgs s_falls_by) (body := defBody s_falls_by) (scope := defScope s_falls_by) (N := N_falls_by) (ps := ["trust", "house", "other"]) (lev := 2) (sp := sp_falls_by) c 11 36 rfl rfl (fun _ _ _ _ _ _ us hl => match us, hl with | [_, _, _], _ => rfl) sc_falls_by (fun ss P h => by first | (obtain ⟨rfl, _⟩ := h; rfl) | (obtain ⟨_, rfl, _⟩ := h; rfl) | (obtain ⟨_, _, rfl, _⟩ := h; rfl) | (obtain ⟨_, _, _, rfl, _⟩ := h; rfl)) (fun f cdv A outer s H E hr => b_falls_by c (c_fears_of c) (c_greatest_of c) (c_joint_in c) f cdv A outer s H E hr) (fun ss Q h => p_falls_by ss Q h)
theorem c_is_met (c : Cf K mg) : CalD P w K mg base "is_met" 3 sp_is_met [] :=
  mk_cal (x := "is_met") (qual := "is_met") (params := defArgs s_is_met) (body := defBody s_is_met) (scope := defScope s_is_met) (N := N_is_met) (ps := ["needs", "lot"]) (lev := 2) (sp := sp_is_met) c 18 43 rfl rfl (fun _ _ _ _ _ _ us hl => match us, hl with | [_, _], _ => rfl) sc_is_met (fun ss P h => by first | (obtain ⟨rfl, _⟩ := h; rfl) | (obtain ⟨_, rfl, _⟩ := h; rfl) | (obtain ⟨_, _, rfl, _⟩ := h; rfl) | (obtain ⟨_, _, _, rfl, _⟩ := h; rfl)) (fun f cdv A outer s H E hr => b_is_met c (c_first_missed_by c) f cdv A outer s H E hr) (fun ss Q h => p_is_met ss Q h)
theorem c_is_index (c : Cf K mg) : CalD P w K mg base "is_index" 3 sp_is_index [] :=
  mk_cal (x := "is_index") (qual := "is_index") (params := defArgs s_is_index) (body := defBody s_is_index) (scope := defScope s_is_index) (N := N_is_index) (ps := ["thing", "many"]) (lev := 2) (sp := sp_is_index) c 21 46 rfl rfl (fun _ _ _ _ _ _ us hl => match us, hl with | [_, _], _ => rfl) sc_is_index (fun ss P h => by first | (obtain ⟨rfl, _⟩ := h; rfl) | (obtain ⟨_, rfl, _⟩ := h; rfl) | (obtain ⟨_, _, rfl, _⟩ := h; rfl) | (obtain ⟨_, _, _, rfl, _⟩ := h; rfl)) (fun f cdv A outer s H E hr => b_is_index c (c_is_number c) f cdv A outer s H E hr) (fun ss Q h => p_is_index ss Q h)
theorem c_is_names_among (c : Cf K mg) : CalD P w K mg base "is_names_among" 3 sp_is_names_among [] :=
  mk_cal (x := "is_names_among") (qual := "is_names_among") (params := defArgs s_is_names_among) (body := defBody s_is_names_among) (scope := defScope s_is_names_among) (N := N_is_names_among) (ps := ["thing", "names"]) (lev := 2) (sp := sp_is_names_among) c 28 53 rfl rfl (fun _ _ _ _ _ _ us hl => match us, hl with | [_, _], _ => rfl) sc_is_names_among (fun ss P h => by first | (obtain ⟨rfl, _⟩ := h; rfl) | (obtain ⟨_, rfl, _⟩ := h; rfl) | (obtain ⟨_, _, rfl, _⟩ := h; rfl) | (obtain ⟨_, _, _, rfl, _⟩ := h; rfl)) (fun f cdv A outer s H E hr => b_is_names_among c (c_is_names c) f cdv A outer s H E hr) (fun ss Q h => p_is_names_among ss Q h)
theorem c_are_numbers (c : Cf K mg) : CalD P w K mg base "are_numbers" 3 sp_are_numbers [] :=
  mk_cal (x := "are_numbers") (qual := "are_numbers") (params := defArgs s_are_numbers) (body := defBody s_are_numbers) (scope := defScope s_are_numbers) (N := N_are_numbers) (ps := ["thing", "size"]) (lev := 2) (sp := sp_are_numbers) c 31 56 rfl rfl (fun _ _ _ _ _ _ us hl => match us, hl with | [_, _], _ => rfl) sc_are_numbers (fun ss P h => by first | (obtain ⟨rfl, _⟩ := h; rfl) | (obtain ⟨_, rfl, _⟩ := h; rfl) | (obtain ⟨_, _, rfl, _⟩ := h; rfl) | (obtain ⟨_, _, _, rfl, _⟩ := h; rfl)) (fun f cdv A outer s H E hr => b_are_numbers c (c_is_tuple_of c) (c_is_number c) f cdv A outer s H E hr) (fun ss Q h => p_are_numbers ss Q h)
theorem c_clocks_fault (c : Cf K mg) : CalD P w K mg base "clocks_fault" 3 sp_clocks_fault [] :=
  mk_cal (x := "clocks_fault") (qual := "clocks_fault") (params := defArgs s_clocks_fault) (body := defBody s_clocks_fault) (scope := defScope s_clocks_fault) (N := N_clocks_fault) (ps := ["houses", "thing"]) (lev := 2) (sp := sp_clocks_fault) c 38 63 rfl rfl (fun _ _ _ _ _ _ us hl => match us, hl with | [_, _], _ => rfl) sc_clocks_fault (fun ss P h => by first | (obtain ⟨rfl, _⟩ := h; rfl) | (obtain ⟨_, rfl, _⟩ := h; rfl) | (obtain ⟨_, _, rfl, _⟩ := h; rfl) | (obtain ⟨_, _, _, rfl, _⟩ := h; rfl)) (fun f cdv A outer s H E hr => b_clocks_fault c (c_order_fault c) (c_triangle_fault c) f cdv A outer s H E hr) (fun ss Q h => p_clocks_fault ss Q h)
theorem c_want_age (c : Cf K mg) : CalD P w K mg base "want_age" 3 sp_want_age [] :=
  mk_cal (x := "want_age") (qual := "want_age") (params := defArgs s_want_age) (body := defBody s_want_age) (scope := defScope s_want_age) (N := N_want_age) (ps := ["book", "age"]) (lev := 2) (sp := sp_want_age) c 48 73 rfl rfl (fun _ _ _ _ _ _ us hl => match us, hl with | [_, _], _ => rfl) sc_want_age (fun ss P h => by first | (obtain ⟨rfl, _⟩ := h; rfl) | (obtain ⟨_, rfl, _⟩ := h; rfl) | (obtain ⟨_, _, rfl, _⟩ := h; rfl) | (obtain ⟨_, _, _, rfl, _⟩ := h; rfl)) (fun f cdv A outer s H E hr => b_want_age c (c_is_number c) (c_want c) f cdv A outer s H E hr) (fun ss Q h => p_want_age ss Q h)
theorem c_want_house (c : Cf K mg) : CalD P w K mg base "want_house" 3 sp_want_house (dStr "house") :=
  mk_cal1 (dvs := [.str "house"]) (x := "want_house") (qual := "want_house") (params := defArgs s_want_house) (body := defBody s_want_house) (scope := defScope s_want_house) (N := N_want_house) (ps := ["trust", "house", "name"]) (lev := 2) (sp := sp_want_house) c 50 75 rfl rfl (n := 2) (by decide) (by decide) (fun _ _ _ _ _ _ _ us its h1 h2 => match us, h1, its, h2 with | [_, _], _, [_], _ => ⟨_, rfl, rfl⟩) (fun _ _ => .cons (.str _) .nil) sc_want_house (fun ss P h => by first | (obtain ⟨rfl, _⟩ := h; rfl) | (obtain ⟨_, rfl, _⟩ := h; rfl) | (obtain ⟨_, _, rfl, _⟩ := h; rfl) | (obtain ⟨_, _, _, rfl, _⟩ := h; rfl)) (fun f cdv A outer s H E hr => b_want_house c (c_is_house_of c) (c_want c) f cdv A outer s H E hr) (fun ss Q h => p_want_house ss Q h)
theorem c_odds_in_fall (c : Cf K mg) : CalD P w K mg base "odds_in_fall" 3 sp_odds_in_fall [] :=
  mk_cal (x := "odds_in_fall") (qual := "odds_in_fall") (params := defArgs s_odds_in_fall) (body := defBody s_odds_in_fall) (scope := defScope s_odds_in_fall) (N := N_odds_in_fall) (ps := ["book", "fall"]) (lev := 2) (sp := sp_odds_in_fall) c 60 85 rfl rfl (fun _ _ _ _ _ _ us hl => match us, hl with | [_, _], _ => rfl) sc_odds_in_fall (fun ss P h => by first | (obtain ⟨rfl, _⟩ := h; rfl) | (obtain ⟨_, rfl, _⟩ := h; rfl) | (obtain ⟨_, _, rfl, _⟩ := h; rfl) | (obtain ⟨_, _, _, rfl, _⟩ := h; rfl)) (fun f cdv A outer s H E hr => b_odds_in_fall c (c_pairs_in c) (c_is_safe_by c) (c_lot_at c) (c_joint_in c) (c_within_in c) f cdv A outer s H E hr) (fun ss Q h => p_odds_in_fall ss Q h)
theorem c__law_guild (c : Cf K mg) : CalD P w K mg base "_law_guild" 3 sp__law_guild [] :=
  mk_cal (x := "_law_guild") (qual := "_law_guild") (params := defArgs s__law_guild) (body := defBody s__law_guild) (scope := defScope s__law_guild) (N := N__law_guild) (ps := ["_law_feed_here", "_law_most"]) (lev := 2) (sp := sp__law_guild) c 73 98 rfl rfl (fun _ _ _ _ _ _ us hl => match us, hl with | [_, _], _ => rfl) sc__law_guild (fun ss P h => by first | (obtain ⟨rfl, _⟩ := h; rfl) | (obtain ⟨_, rfl, _⟩ := h; rfl) | (obtain ⟨_, _, rfl, _⟩ := h; rfl) | (obtain ⟨_, _, _, rfl, _⟩ := h; rfl)) (fun f cdv A outer s H E hr => b__law_guild c (c__law_any c) (c__law_subsets c) (c__law_draw c) (c__law_less c) f cdv A outer s H E hr) (fun ss Q h => p__law_guild ss Q h)
theorem c__law_safes (c : Cf K mg) : CalD P w K mg base "_law_safes" 3 sp__law_safes [] :=
  mk_cal (x := "_law_safes") (qual := "_law_safes") (params := defArgs s__law_safes) (body := defBody s__law_safes) (scope := defScope s__law_safes) (N := N__law_safes) (ps := ["_law_guild_here"]) (lev := 2) (sp := sp__law_safes) c 75 100 rfl rfl (fun _ _ _ _ _ _ us hl => match us, hl with | [_], _ => rfl) sc__law_safes (fun ss P h => by first | (obtain ⟨rfl, _⟩ := h; rfl) | (obtain ⟨_, rfl, _⟩ := h; rfl) | (obtain ⟨_, _, rfl, _⟩ := h; rfl) | (obtain ⟨_, _, _, rfl, _⟩ := h; rfl)) (fun f cdv A outer s H E hr => b__law_safes c (c__law_subsets c) (c__law_safe c) f cdv A outer s H E hr) (fun ss Q h => p__law_safes ss Q h)
theorem c__law_needs (c : Cf K mg) : CalD P w K mg base "_law_needs" 3 sp__law_needs [] :=
  mk_cal (x := "_law_needs") (qual := "_law_needs") (params := defArgs s__law_needs) (body := defBody s__law_needs) (scope := defScope s__law_needs) (N := N__law_needs) (ps := ["_law_guild_here", "_law_safes_here", "_law_name"]) (lev := 2) (sp := sp__law_needs) c 77 102 rfl rfl (fun _ _ _ _ _ _ us hl => match us, hl with | [_, _, _], _ => rfl) sc__law_needs (fun ss P h => by first | (obtain ⟨rfl, _⟩ := h; rfl) | (obtain ⟨_, rfl, _⟩ := h; rfl) | (obtain ⟨_, _, rfl, _⟩ := h; rfl) | (obtain ⟨_, _, _, rfl, _⟩ := h; rfl)) (fun f cdv A outer s H E hr => b__law_needs c (c__law_less c) (c__law_minimal c) f cdv A outer s H E hr) (fun ss Q h => p__law_needs ss Q h)
theorem c__law_motor (c : Cf K mg) : CalD P w K mg base "_law_motor" 3 sp__law_motor [] :=
  mk_cal (x := "_law_motor") (qual := "_law_motor") (params := defArgs s__law_motor) (body := defBody s__law_motor) (scope := defScope s__law_motor) (N := N__law_motor) (ps := ["_law_feed_here"]) (lev := 2) (sp := sp__law_motor) c 81 106 rfl rfl (fun _ _ _ _ _ _ us hl => match us, hl with | [_], _ => rfl) sc__law_motor (fun ss P h => by first | (obtain ⟨rfl, _⟩ := h; rfl) | (obtain ⟨_, rfl, _⟩ := h; rfl) | (obtain ⟨_, _, rfl, _⟩ := h; rfl) | (obtain ⟨_, _, _, rfl, _⟩ := h; rfl)) (fun f cdv A outer s H E hr => b__law_motor c (c__law_any c) f cdv A outer s H E hr) (fun ss Q h => p__law_motor ss Q h)
theorem c_odds_by (c : Cf K mg) : CalD P w K mg base "odds_by" 4 sp_odds_by [] :=
  mk_cal (x := "odds_by") (qual := "odds_by") (params := defArgs s_odds_by) (body := defBody s_odds_by) (scope := defScope s_odds_by) (N := N_odds_by) (ps := ["trust", "one", "other"]) (lev := 3) (sp := sp_odds_by) c 14 39 rfl rfl (fun _ _ _ _ _ _ us hl => match us, hl with | [_, _, _], _ => rfl) sc_odds_by (fun ss P h => by first | (obtain ⟨rfl, _⟩ := h; rfl) | (obtain ⟨_, rfl, _⟩ := h; rfl) | (obtain ⟨_, _, rfl, _⟩ := h; rfl) | (obtain ⟨_, _, _, rfl, _⟩ := h; rfl)) (fun f cdv A outer s H E hr => b_odds_by c (c_lot_at c) (c_joint_in c) (c_falls_by c) (c_is_within c) f cdv A outer s H E hr) (fun ss Q h => p_odds_by ss Q h)
theorem c_needs_by (c : Cf K mg) : CalD P w K mg base "needs_by" 4 sp_needs_by [] :=
  mk_cal (x := "needs_by") (qual := "needs_by") (params := defArgs s_needs_by) (body := defBody s_needs_by) (scope := defScope s_needs_by) (N := N_needs_by) (ps := ["trust", "house"]) (lev := 3) (sp := sp_needs_by) c 16 41 rfl rfl (fun _ _ _ _ _ _ us hl => match us, hl with | [_, _], _ => rfl) sc_needs_by (fun ss P h => by first | (obtain ⟨rfl, _⟩ := h; rfl) | (obtain ⟨_, rfl, _⟩ := h; rfl) | (obtain ⟨_, _, rfl, _⟩ := h; rfl) | (obtain ⟨_, _, _, rfl, _⟩ := h; rfl)) (fun f cdv A outer s H E hr => b_needs_by c (c_pairs_in c) (c_falls_by c) (c_lot_at c) (c_less_by c) (c_least_of c) f cdv A outer s H E hr) (fun ss Q h => p_needs_by ss Q h)
theorem c_are_sets_among (c : Cf K mg) : CalD P w K mg base "are_sets_among" 4 sp_are_sets_among [] :=
  mk_cal (x := "are_sets_among") (qual := "are_sets_among") (params := defArgs s_are_sets_among) (body := defBody s_are_sets_among) (scope := defScope s_are_sets_among) (N := N_are_sets_among) (ps := ["thing", "names"]) (lev := 3) (sp := sp_are_sets_among) c 29 54 rfl rfl (fun _ _ _ _ _ _ us hl => match us, hl with | [_, _], _ => rfl) sc_are_sets_among (fun ss P h => by first | (obtain ⟨rfl, _⟩ := h; rfl) | (obtain ⟨_, rfl, _⟩ := h; rfl) | (obtain ⟨_, _, rfl, _⟩ := h; rfl) | (obtain ⟨_, _, _, rfl, _⟩ := h; rfl)) (fun f cdv A outer s H E hr => b_are_sets_among c (c_is_names_among c) (c_are_rising c) f cdv A outer s H E hr) (fun ss Q h => p_are_sets_among ss Q h)
theorem c_are_indexes (c : Cf K mg) : CalD P w K mg base "are_indexes" 4 sp_are_indexes [] :=
  mk_cal (x := "are_indexes") (qual := "are_indexes") (params := defArgs s_are_indexes) (body := defBody s_are_indexes) (scope := defScope s_are_indexes) (N := N_are_indexes) (ps := ["thing", "size", "many"]) (lev := 3) (sp := sp_are_indexes) c 30 55 rfl rfl (fun _ _ _ _ _ _ us hl => match us, hl with | [_, _, _], _ => rfl) sc_are_indexes (fun ss P h => by first | (obtain ⟨rfl, _⟩ := h; rfl) | (obtain ⟨_, rfl, _⟩ := h; rfl) | (obtain ⟨_, _, rfl, _⟩ := h; rfl) | (obtain ⟨_, _, _, rfl, _⟩ := h; rfl)) (fun f cdv A outer s H E hr => b_are_indexes c (c_is_tuple_of c) (c_is_index c) f cdv A outer s H E hr) (fun ss Q h => p_are_indexes ss Q h)
theorem c_are_houses_of (c : Cf K mg) : CalD P w K mg base "are_houses_of" 4 sp_are_houses_of [] :=
  mk_cal (x := "are_houses_of") (qual := "are_houses_of") (params := defArgs s_are_houses_of) (body := defBody s_are_houses_of) (scope := defScope s_are_houses_of) (N := N_are_houses_of) (ps := ["trust", "thing"]) (lev := 3) (sp := sp_are_houses_of) c 44 69 rfl rfl (fun _ _ _ _ _ _ us hl => match us, hl with | [_, _], _ => rfl) sc_are_houses_of (fun ss P h => by first | (obtain ⟨rfl, _⟩ := h; rfl) | (obtain ⟨_, rfl, _⟩ := h; rfl) | (obtain ⟨_, _, rfl, _⟩ := h; rfl) | (obtain ⟨_, _, _, rfl, _⟩ := h; rfl)) (fun f cdv A outer s H E hr => b_are_houses_of c (c_houses_in c) (c_is_names_among c) f cdv A outer s H E hr) (fun ss Q h => p_are_houses_of ss Q h)
theorem c_is_pair_of (c : Cf K mg) : CalD P w K mg base "is_pair_of" 4 sp_is_pair_of [] :=
  mk_cal (x := "is_pair_of") (qual := "is_pair_of") (params := defArgs s_is_pair_of) (body := defBody s_is_pair_of) (scope := defScope s_is_pair_of) (N := N_is_pair_of) (ps := ["trust", "thing"]) (lev := 3) (sp := sp_is_pair_of) c 45 70 rfl rfl (fun _ _ _ _ _ _ us hl => match us, hl with | [_, _], _ => rfl) sc_is_pair_of (fun ss P h => by first | (obtain ⟨rfl, _⟩ := h; rfl) | (obtain ⟨_, rfl, _⟩ := h; rfl) | (obtain ⟨_, _, rfl, _⟩ := h; rfl) | (obtain ⟨_, _, _, rfl, _⟩ := h; rfl)) (fun f cdv A outer s H E hr => b_is_pair_of c (c_is_pair c) (c_is_house_of c) (c_lots_of c) (c_is_index c) f cdv A outer s H E hr) (fun ss Q h => p_is_pair_of ss Q h)
theorem c_faults_by_fall (c : Cf K mg) : CalD P w K mg base "faults_by_fall" 4 sp_faults_by_fall [] :=
  mk_cal (x := "faults_by_fall") (qual := "faults_by_fall") (params := defArgs s_faults_by_fall) (body := defBody s_faults_by_fall) (scope := defScope s_faults_by_fall) (N := N_faults_by_fall) (ps := ["book", "fall"]) (lev := 3) (sp := sp_faults_by_fall) c 61 86 rfl rfl (fun _ _ _ _ _ _ us hl => match us, hl with | [_, _], _ => rfl) sc_faults_by_fall (fun ss P h => by first | (obtain ⟨rfl, _⟩ := h; rfl) | (obtain ⟨_, rfl, _⟩ := h; rfl) | (obtain ⟨_, _, rfl, _⟩ := h; rfl) | (obtain ⟨_, _, _, rfl, _⟩ := h; rfl)) (fun f cdv A outer s H E hr => b_faults_by_fall c (c_safe_by c) (c_waking_faults c) (c_odds_in_fall c) f cdv A outer s H E hr) (fun ss Q h => p_faults_by_fall ss Q h)
theorem c_all_odds_by (c : Cf K mg) : CalD P w K mg base "all_odds_by" 5 sp_all_odds_by [] :=
  mk_cal (x := "all_odds_by") (qual := "all_odds_by") (params := defArgs s_all_odds_by) (body := defBody s_all_odds_by) (scope := defScope s_all_odds_by) (N := N_all_odds_by) (ps := ["trust"]) (lev := 4) (sp := sp_all_odds_by) c 15 40 rfl rfl (fun _ _ _ _ _ _ us hl => match us, hl with | [_], _ => rfl) sc_all_odds_by (fun ss P h => by first | (obtain ⟨rfl, _⟩ := h; rfl) | (obtain ⟨_, rfl, _⟩ := h; rfl) | (obtain ⟨_, _, rfl, _⟩ := h; rfl) | (obtain ⟨_, _, _, rfl, _⟩ := h; rfl)) (fun f cdv A outer s H E hr => b_all_odds_by c (c_pairs_in c) (c_odds_by c) f cdv A outer s H E hr) (fun ss Q h => p_all_odds_by ss Q h)
theorem c_machine_fault (c : Cf K mg) : CalD P w K mg base "machine_fault" 5 sp_machine_fault [] :=
  mk_cal (x := "machine_fault") (qual := "machine_fault") (params := defArgs s_machine_fault) (body := defBody s_machine_fault) (scope := defScope s_machine_fault) (N := N_machine_fault) (ps := ["thing"]) (lev := 4) (sp := sp_machine_fault) c 32 57 rfl rfl (fun _ _ _ _ _ _ us hl => match us, hl with | [_], _ => rfl) sc_machine_fault (fun ss P h => by first | (obtain ⟨rfl, _⟩ := h; rfl) | (obtain ⟨_, rfl, _⟩ := h; rfl) | (obtain ⟨_, _, rfl, _⟩ := h; rfl) | (obtain ⟨_, _, _, rfl, _⟩ := h; rfl)) (fun f cdv A outer s H E hr => b_machine_fault c (c_is_tuple_of c) (c_is_names c) (c_are_indexes c) (c_are_numbers c) f cdv A outer s H E hr) (fun ss Q h => p_machine_fault ss Q h)
theorem c_trust_fault (c : Cf K mg) : CalD P w K mg base "trust_fault" 5 sp_trust_fault [] :=
  mk_cal (x := "trust_fault") (qual := "trust_fault") (params := defArgs s_trust_fault) (body := defBody s_trust_fault) (scope := defScope s_trust_fault) (N := N_trust_fault) (ps := ["thing"]) (lev := 4) (sp := sp_trust_fault) c 34 59 rfl rfl (fun _ _ _ _ _ _ us hl => match us, hl with | [_], _ => rfl) sc_trust_fault (fun ss P h => by first | (obtain ⟨rfl, _⟩ := h; rfl) | (obtain ⟨_, rfl, _⟩ := h; rfl) | (obtain ⟨_, _, rfl, _⟩ := h; rfl) | (obtain ⟨_, _, _, rfl, _⟩ := h; rfl)) (fun f cdv A outer s H E hr => b_trust_fault c (c_is_triple_from c) (c_are_sets_among c) f cdv A outer s H E hr) (fun ss Q h => p_trust_fault ss Q h)
theorem c_want_lot (c : Cf K mg) : CalD P w K mg base "want_lot" 5 sp_want_lot (dStr "lot") :=
  mk_cal1 (dvs := [.str "lot"]) (x := "want_lot") (qual := "want_lot") (params := defArgs s_want_lot) (body := defBody s_want_lot) (scope := defScope s_want_lot) (N := N_want_lot) (ps := ["trust", "lot", "name"]) (lev := 4) (sp := sp_want_lot) c 51 76 rfl rfl (n := 2) (by decide) (by decide) (fun _ _ _ _ _ _ _ us its h1 h2 => match us, h1, its, h2 with | [_, _], _, [_], _ => ⟨_, rfl, rfl⟩) (fun _ _ => .cons (.str _) .nil) sc_want_lot (fun ss P h => by first | (obtain ⟨rfl, _⟩ := h; rfl) | (obtain ⟨_, rfl, _⟩ := h; rfl) | (obtain ⟨_, _, rfl, _⟩ := h; rfl) | (obtain ⟨_, _, _, rfl, _⟩ := h; rfl)) (fun f cdv A outer s H E hr => b_want_lot c (c_are_houses_of c) (c_want c) f cdv A outer s H E hr) (fun ss Q h => p_want_lot ss Q h)
theorem c_want_pair (c : Cf K mg) : CalD P w K mg base "want_pair" 5 sp_want_pair [] :=
  mk_cal (x := "want_pair") (qual := "want_pair") (params := defArgs s_want_pair) (body := defBody s_want_pair) (scope := defScope s_want_pair) (N := N_want_pair) (ps := ["trust", "pair", "name"]) (lev := 4) (sp := sp_want_pair) c 52 77 rfl rfl (fun _ _ _ _ _ _ us hl => match us, hl with | [_, _, _], _ => rfl) sc_want_pair (fun ss P h => by first | (obtain ⟨rfl, _⟩ := h; rfl) | (obtain ⟨_, rfl, _⟩ := h; rfl) | (obtain ⟨_, _, rfl, _⟩ := h; rfl) | (obtain ⟨_, _, _, rfl, _⟩ := h; rfl)) (fun f cdv A outer s H E hr => b_want_pair c (c_is_pair_of c) (c_want c) f cdv A outer s H E hr) (fun ss Q h => p_want_pair ss Q h)
theorem c_parts_fault (c : Cf K mg) : CalD P w K mg base "parts_fault" 6 sp_parts_fault [] :=
  mk_cal (x := "parts_fault") (qual := "parts_fault") (params := defArgs s_parts_fault) (body := defBody s_parts_fault) (scope := defScope s_parts_fault) (N := N_parts_fault) (ps := ["thing"]) (lev := 5) (sp := sp_parts_fault) c 40 65 rfl rfl (fun _ _ _ _ _ _ us hl => match us, hl with | [_], _ => rfl) sc_parts_fault (fun ss P h => by first | (obtain ⟨rfl, _⟩ := h; rfl) | (obtain ⟨_, rfl, _⟩ := h; rfl) | (obtain ⟨_, _, rfl, _⟩ := h; rfl) | (obtain ⟨_, _, _, rfl, _⟩ := h; rfl)) (fun f cdv A outer s H E hr => b_parts_fault c (c_is_tuple_of c) (c_machine_fault c) (c_trust_fault c) (c_clocks_fault c) (c_rules_fault c) f cdv A outer s H E hr) (fun ss Q h => p_parts_fault ss Q h)
theorem c_is_trust (c : Cf K mg) : CalD P w K mg base "is_trust" 6 sp_is_trust [] :=
  mk_cal (x := "is_trust") (qual := "is_trust") (params := defArgs s_is_trust) (body := defBody s_is_trust) (scope := defScope s_is_trust) (N := N_is_trust) (ps := ["thing"]) (lev := 5) (sp := sp_is_trust) c 41 66 rfl rfl (fun _ _ _ _ _ _ us hl => match us, hl with | [_], _ => rfl) sc_is_trust (fun ss P h => by first | (obtain ⟨rfl, _⟩ := h; rfl) | (obtain ⟨_, rfl, _⟩ := h; rfl) | (obtain ⟨_, _, rfl, _⟩ := h; rfl) | (obtain ⟨_, _, _, rfl, _⟩ := h; rfl)) (fun f cdv A outer s H E hr => b_is_trust c (c_trust_fault c) f cdv A outer s H E hr) (fun ss Q h => p_is_trust ss Q h)
theorem c_odds_faults (c : Cf K mg) : CalD P w K mg base "odds_faults" 6 sp_odds_faults [] :=
  mk_cal (x := "odds_faults") (qual := "odds_faults") (params := defArgs s_odds_faults) (body := defBody s_odds_faults) (scope := defScope s_odds_faults) (N := N_odds_faults) (ps := ["book"]) (lev := 5) (sp := sp_odds_faults) c 56 81 rfl rfl (fun _ _ _ _ _ _ us hl => match us, hl with | [_], _ => rfl) sc_odds_faults (fun ss P h => by first | (obtain ⟨rfl, _⟩ := h; rfl) | (obtain ⟨_, rfl, _⟩ := h; rfl) | (obtain ⟨_, _, rfl, _⟩ := h; rfl) | (obtain ⟨_, _, _, rfl, _⟩ := h; rfl)) (fun f cdv A outer s H E hr => b_odds_faults c (c_all_odds_by c) f cdv A outer s H E hr) (fun ss Q h => p_odds_faults ss Q h)
theorem c_is_book (c : Cf K mg) : CalD P w K mg base "is_book" 7 sp_is_book [] :=
  mk_cal (x := "is_book") (qual := "is_book") (params := defArgs s_is_book) (body := defBody s_is_book) (scope := defScope s_is_book) (N := N_is_book) (ps := ["thing"]) (lev := 6) (sp := sp_is_book) c 42 67 rfl rfl (fun _ _ _ _ _ _ us hl => match us, hl with | [_], _ => rfl) sc_is_book (fun ss P h => by first | (obtain ⟨rfl, _⟩ := h; rfl) | (obtain ⟨_, rfl, _⟩ := h; rfl) | (obtain ⟨_, _, rfl, _⟩ := h; rfl) | (obtain ⟨_, _, _, rfl, _⟩ := h; rfl)) (fun f cdv A outer s H E hr => b_is_book c (c_parts_fault c) f cdv A outer s H E hr) (fun ss Q h => p_is_book ss Q h)
theorem c_want_trust (c : Cf K mg) : CalD P w K mg base "want_trust" 7 sp_want_trust (dStr "trust") :=
  mk_cal1 (dvs := [.str "trust"]) (x := "want_trust") (qual := "want_trust") (params := defArgs s_want_trust) (body := defBody s_want_trust) (scope := defScope s_want_trust) (N := N_want_trust) (ps := ["trust", "name"]) (lev := 6) (sp := sp_want_trust) c 49 74 rfl rfl (n := 1) (by decide) (by decide) (fun _ _ _ _ _ _ _ us its h1 h2 => match us, h1, its, h2 with | [_], _, [_], _ => ⟨_, rfl, rfl⟩) (fun _ _ => .cons (.str _) .nil) sc_want_trust (fun ss P h => by first | (obtain ⟨rfl, _⟩ := h; rfl) | (obtain ⟨_, rfl, _⟩ := h; rfl) | (obtain ⟨_, _, rfl, _⟩ := h; rfl) | (obtain ⟨_, _, _, rfl, _⟩ := h; rfl)) (fun f cdv A outer s H E hr => b_want_trust c (c_is_trust c) (c_want c) f cdv A outer s H E hr) (fun ss Q h => p_want_trust ss Q h)
theorem c_faults_by (c : Cf K mg) : CalD P w K mg base "faults_by" 7 sp_faults_by [] :=
  mk_cal (x := "faults_by") (qual := "faults_by") (params := defArgs s_faults_by) (body := defBody s_faults_by) (scope := defScope s_faults_by) (N := N_faults_by) (ps := ["book", "age"]) (lev := 6) (sp := sp_faults_by) c 59 84 rfl rfl (fun _ _ _ _ _ _ us hl => match us, hl with | [_, _], _ => rfl) sc_faults_by (fun ss P h => by first | (obtain ⟨rfl, _⟩ := h; rfl) | (obtain ⟨_, rfl, _⟩ := h; rfl) | (obtain ⟨_, _, rfl, _⟩ := h; rfl) | (obtain ⟨_, _, _, rfl, _⟩ := h; rfl)) (fun f cdv A outer s H E hr => b_faults_by c (c_waking_faults c) (c_looking_faults c) (c_odds_faults c) f cdv A outer s H E hr) (fun ss Q h => p_faults_by ss Q h)
theorem c_want_book (c : Cf K mg) : CalD P w K mg base "want_book" 8 sp_want_book (dStr "book") :=
  mk_cal1 (dvs := [.str "book"]) (x := "want_book") (qual := "want_book") (params := defArgs s_want_book) (body := defBody s_want_book) (scope := defScope s_want_book) (N := N_want_book) (ps := ["value", "name"]) (lev := 7) (sp := sp_want_book) c 47 72 rfl rfl (n := 1) (by decide) (by decide) (fun _ _ _ _ _ _ _ us its h1 h2 => match us, h1, its, h2 with | [_], _, [_], _ => ⟨_, rfl, rfl⟩) (fun _ _ => .cons (.str _) .nil) sc_want_book (fun ss P h => by first | (obtain ⟨rfl, _⟩ := h; rfl) | (obtain ⟨_, rfl, _⟩ := h; rfl) | (obtain ⟨_, _, rfl, _⟩ := h; rfl) | (obtain ⟨_, _, _, rfl, _⟩ := h; rfl)) (fun f cdv A outer s H E hr => b_want_book c (c_is_book c) (c_want c) f cdv A outer s H E hr) (fun ss Q h => p_want_book ss Q h)
theorem c_odds_fall (c : Cf K mg) : CalD P w K mg base "odds_fall" 8 sp_odds_fall [] :=
  mk_cal (x := "odds_fall") (qual := "odds_fall") (params := defArgs s_odds_fall) (body := defBody s_odds_fall) (scope := defScope s_odds_fall) (N := N_odds_fall) (ps := ["trust", "one", "other"]) (lev := 7) (sp := sp_odds_fall) c 53 78 rfl rfl (fun _ _ _ _ _ _ us hl => match us, hl with | [_, _, _], _ => rfl) sc_odds_fall (fun ss P h => by first | (obtain ⟨rfl, _⟩ := h; rfl) | (obtain ⟨_, rfl, _⟩ := h; rfl) | (obtain ⟨_, _, rfl, _⟩ := h; rfl) | (obtain ⟨_, _, _, rfl, _⟩ := h; rfl)) (fun f cdv A outer s H E hr => b_odds_fall c (c_want_trust c) (c_want_pair c) (c_odds_by c) f cdv A outer s H E hr) (fun ss Q h => p_odds_fall ss Q h)
theorem c_all_odds (c : Cf K mg) : CalD P w K mg base "all_odds" 8 sp_all_odds [] :=
  mk_cal (x := "all_odds") (qual := "all_odds") (params := defArgs s_all_odds) (body := defBody s_all_odds) (scope := defScope s_all_odds) (N := N_all_odds) (ps := ["trust"]) (lev := 7) (sp := sp_all_odds) c 54 79 rfl rfl (fun _ _ _ _ _ _ us hl => match us, hl with | [_], _ => rfl) sc_all_odds (fun ss P h => by first | (obtain ⟨rfl, _⟩ := h; rfl) | (obtain ⟨_, rfl, _⟩ := h; rfl) | (obtain ⟨_, _, rfl, _⟩ := h; rfl) | (obtain ⟨_, _, _, rfl, _⟩ := h; rfl)) (fun f cdv A outer s H E hr => b_all_odds c (c_want_trust c) (c_all_odds_by c) f cdv A outer s H E hr) (fun ss Q h => p_all_odds ss Q h)
theorem c_meets_needs (c : Cf K mg) : CalD P w K mg base "meets_needs" 8 sp_meets_needs [] :=
  mk_cal (x := "meets_needs") (qual := "meets_needs") (params := defArgs s_meets_needs) (body := defBody s_meets_needs) (scope := defScope s_meets_needs) (N := N_meets_needs) (ps := ["trust", "house", "lot"]) (lev := 7) (sp := sp_meets_needs) c 55 80 rfl rfl (fun _ _ _ _ _ _ us hl => match us, hl with | [_, _, _], _ => rfl) sc_meets_needs (fun ss P h => by first | (obtain ⟨rfl, _⟩ := h; rfl) | (obtain ⟨_, rfl, _⟩ := h; rfl) | (obtain ⟨_, _, rfl, _⟩ := h; rfl) | (obtain ⟨_, _, _, rfl, _⟩ := h; rfl)) (fun f cdv A outer s H E hr => b_meets_needs c (c_want_trust c) (c_want_house c) (c_want_lot c) (c_needs_by c) (c_is_met c) f cdv A outer s H E hr) (fun ss Q h => p_meets_needs ss Q h)
theorem c_is_as_one (c : Cf K mg) : CalD P w K mg base "is_as_one" 9 sp_is_as_one [.d (.int 0)] :=
  mk_cal0 (kws := [("age", .int 0)]) (x := "is_as_one") (qual := "is_as_one") (params := defArgs s_is_as_one) (body := defBody s_is_as_one) (scope := defScope s_is_as_one) (N := N_is_as_one) (ps := ["book", "age"]) (lev := 8) (sp := sp_is_as_one) c 62 87 rfl rfl (n := 1) (by decide) (by decide) (fun _ _ _ _ _ _ us ks h1 h2 => match us, h1, ks, h2 with | [_], _, [_], _ => ⟨_, _, _, _, _, _, rfl, rfl, rfl⟩) (fun _ _ => .cons (.int _) .nil) sc_is_as_one (fun ss P h => by first | (obtain ⟨rfl, _⟩ := h; rfl) | (obtain ⟨_, rfl, _⟩ := h; rfl) | (obtain ⟨_, _, rfl, _⟩ := h; rfl) | (obtain ⟨_, _, _, rfl, _⟩ := h; rfl)) (fun f cdv A outer s H E hr => b_is_as_one c (c_want_book c) (c_want_age c) (c_faults_by c) f cdv A outer s H E hr) (fun ss Q h => p_is_as_one ss Q h)
theorem c_faults_of (c : Cf K mg) : CalD P w K mg base "faults_of" 9 sp_faults_of [.d (.int 0)] :=
  mk_cal0 (kws := [("age", .int 0)]) (x := "faults_of") (qual := "faults_of") (params := defArgs s_faults_of) (body := defBody s_faults_of) (scope := defScope s_faults_of) (N := N_faults_of) (ps := ["book", "age"]) (lev := 8) (sp := sp_faults_of) c 63 88 rfl rfl (n := 1) (by decide) (by decide) (fun _ _ _ _ _ _ us ks h1 h2 => match us, h1, ks, h2 with | [_], _, [_], _ => ⟨_, _, _, _, _, _, rfl, rfl, rfl⟩) (fun _ _ => .cons (.int _) .nil) sc_faults_of (fun ss P h => by first | (obtain ⟨rfl, _⟩ := h; rfl) | (obtain ⟨_, rfl, _⟩ := h; rfl) | (obtain ⟨_, _, rfl, _⟩ := h; rfl) | (obtain ⟨_, _, _, rfl, _⟩ := h; rfl)) (fun f cdv A outer s H E hr => b_faults_of c (c_want_book c) (c_want_age c) (c_faults_by c) f cdv A outer s H E hr) (fun ss Q h => p_faults_of ss Q h)
theorem c_first_fault (c : Cf K mg) : CalD P w K mg base "first_fault" 9 sp_first_fault [.d (.int 0)] :=
  mk_cal0 (kws := [("age", .int 0)]) (x := "first_fault") (qual := "first_fault") (params := defArgs s_first_fault) (body := defBody s_first_fault) (scope := defScope s_first_fault) (N := N_first_fault) (ps := ["book", "age"]) (lev := 8) (sp := sp_first_fault) c 64 89 rfl rfl (n := 1) (by decide) (by decide) (fun _ _ _ _ _ _ us ks h1 h2 => match us, h1, ks, h2 with | [_], _, [_], _ => ⟨_, _, _, _, _, _, rfl, rfl, rfl⟩) (fun _ _ => .cons (.int _) .nil) sc_first_fault (fun ss P h => by first | (obtain ⟨rfl, _⟩ := h; rfl) | (obtain ⟨_, rfl, _⟩ := h; rfl) | (obtain ⟨_, _, rfl, _⟩ := h; rfl) | (obtain ⟨_, _, _, rfl, _⟩ := h; rfl)) (fun f cdv A outer s H E hr => b_first_fault c (c_want_book c) (c_want_age c) (c_faults_by c) f cdv A outer s H E hr) (fun ss Q h => p_first_fault ss Q h)
theorem c_faults_in (c : Cf K mg) : CalD P w K mg base "faults_in" 9 sp_faults_in [] :=
  mk_cal (x := "faults_in") (qual := "faults_in") (params := defArgs s_faults_in) (body := defBody s_faults_in) (scope := defScope s_faults_in) (N := N_faults_in) (ps := ["book", "fall"]) (lev := 8) (sp := sp_faults_in) c 65 90 rfl rfl (fun _ _ _ _ _ _ us hl => match us, hl with | [_, _], _ => rfl) sc_faults_in (fun ss P h => by first | (obtain ⟨rfl, _⟩ := h; rfl) | (obtain ⟨_, rfl, _⟩ := h; rfl) | (obtain ⟨_, _, rfl, _⟩ := h; rfl) | (obtain ⟨_, _, _, rfl, _⟩ := h; rfl)) (fun f cdv A outer s H E hr => b_faults_in c (c_want_book c) (c_are_houses_of c) (c_want c) (c_faults_by_fall c) f cdv A outer s H E hr) (fun ss Q h => p_faults_in ss Q h)
theorem c__law_are_falls_right (c : Cf K mg) : CalG P w K mg base "_law_are_falls_right" 9 sp__law_are_falls_right [] :=
  mk_calG (x := "_law_are_falls_right") (qual := "_law_are_falls_right") (params := defArgs s__law_are_falls_right) (body := defBody s__law_are_falls_right) (scope := defScope s__law_are_falls_right) (N := N__law_are_falls_right) (ps := ["_law_feed_here", "_law_guild_here", "_law_safes_here", "_law_odds_in"]) (lev := 8) (sp := sp__law_are_falls_right) c 82 107 rfl rfl (fun _ _ _ _ _ _ us hl => match us, hl with | [_, _, _, _], _ => rfl) sc__law_are_falls_right (fun ss P h => by first | (obtain ⟨rfl, _⟩ := h; rfl) | (obtain ⟨_, rfl, _⟩ := h; rfl) | (obtain ⟨_, _, rfl, _⟩ := h; rfl) | (obtain ⟨_, _, _, rfl, _⟩ := h; rfl)) (fun f cdv A outer s H E hgd hr => b__law_are_falls_right c (c__law_all_pairs c) (c__law_any c) (c_odds_fall c) (c__law_within c) f cdv A outer s H E hgd hr) (fun ss Q h => p__law_are_falls_right ss Q h)
theorem c__law_own_right (c : Cf K mg) : CalG P w K mg base "_law_own_right" 9 sp__law_own_right [] :=
  mk_calG (x := "_law_own_right") (qual := "_law_own_right") (params := defArgs s__law_own_right) (body := defBody s__law_own_right) (scope := defScope s__law_own_right) (N := N__law_own_right) (ps := ["_law_guild_here", "_law_safes_here", "_law_odds_in"]) (lev := 8) (sp := sp__law_own_right) c 83 108 rfl rfl (fun _ _ _ _ _ _ us hl => match us, hl with | [_, _, _], _ => rfl) sc__law_own_right (fun ss P h => by first | (obtain ⟨rfl, _⟩ := h; rfl) | (obtain ⟨_, rfl, _⟩ := h; rfl) | (obtain ⟨_, _, rfl, _⟩ := h; rfl) | (obtain ⟨_, _, _, rfl, _⟩ := h; rfl)) (fun f cdv A outer s H E hgd hr => b__law_own_right c (c__law_needs c) (c__law_meets c) (c_meets_needs c) (c__law_same c) (c__law_within c) f cdv A outer s H E hgd hr) (fun ss Q h => p__law_own_right ss Q h)
end
theorem facts {P : Program} {w : World} {K : AK} {h : Heap} {mg : Str → Option Value} {f : Addr} (X : K.In h) (G : h.Ns mainGlobals mg) (hfa : mg ("law" : Str) = some (.ref f)) (cc : He.SaysD fa fn K) :
    ∃ fd : FuncData, (∀ (s : Shared) (v : Value), BindsTo s fd ⟨[v], []⟩ [("_law_script", v)]) ∧ ∀ base : Heap, K.In base → base.Ns mainGlobals mg → FnG P w K mg base 11 f fd ["_law_script"] (spTrue K) := by
  have c : Cf K mg := ⟨⟨h, X, G⟩, cc⟩
  obtain ⟨fdF, FF⟩ := cc.def_ 66 (d := d__law_feed) rfl
  obtain ⟨fdR, FR⟩ := cc.def_ 85 (d := d__law_right) rfl
  obtain ⟨fd, FL⟩ := cc.def_ 86 (d := d_law) rfl
  have e := hfa.symm.trans (c.glo 111 (x := "law") rfl)
  cases e
  have b := FunD.bindsA (ps := ["_law_script"]) FL (fun _ _ _ _ _ _ us hl => match us, hl with | [_], _ => rfl)
  exact ⟨fd, fun s v => b s [v] rfl, fun base _ _ => ok_law FL (ok_right FR (fun cdv A outer s H E hgd hr => b__law_right c (c__law_guild c) (c__law_motor c) (c__law_safes c) (c__law_odds c) (c_first_fault c) (c_is_as_one c) (c_faults_of c) (c_all_odds c) (c__law_same c) (c__law_are_falls_right c) (c__law_own_right c) (c__law_in_fall c) (c__law_subsets c) (c__law_any c) (c__law_safe c) (c_faults_in c) _ cdv A outer s H E hgd hr) (p__law_right none _ rfl) (ok__law_feed c FF) (c.glo 91 rfl) FF.kp (FunD.bindsN FF (fun _ _ _ _ _ _ us hl => match us, hl with | [_], _ => rfl))) (c.glo 110 rfl) FR.kp (FunD.bindsN FR (fun _ _ _ _ _ _ us hl => match us, hl with | [_], _ => rfl))⟩
end Ao
set_option Elab.async false
set_option linter.all false
set_option maxRecDepth 100000
set_option maxHeartbeats 0
open PySem PySem.W PySem.Calls PyProof.Rows
theorem PySem.Challenge.cw_actasone_k63_whole_own_lots_and_odds_holds : PySem.Challenge.rw_actasone_k63_whole_own_lots_and_odds.Holds := by
  w_on; o_law
  refine HandSHeadRun.head_any (r := OpenLaw.row PySem.Challenge.rw_actasone_k63_whole_own_lots_and_odds) (q := view (OpenLaw.row PySem.Challenge.rw_actasone_k63_whole_own_lots_and_odds).prog [147]) (H := Ao.hk) (ob := Ao.ob) (M := 6000) (loose := Ao.loose) (d := HandSHeadRun.topDef (OpenLaw.row PySem.Challenge.rw_actasone_k63_whole_own_lots_and_odds).prog 147) (kwd := []) Ao.ob_eq
    (by kernel_rfl) (fun s => by kernel_rfl) Ao.run (by kernel_rfl) (by kernel_rfl) (by kernel_rfl) (by rfl) (by first | assumption | decide +kernel) (by decide +kernel) ⟨rfl, rfl, rfl, rfl, rfl, by decide +kernel⟩ ?hw ?hc
  case hw => w_witness2
  case hc =>
    refine Ao.walkG (l := PySem.Challenge.rw_actasone_k63_whole_own_lots_and_odds) (n := 63) (k := 11) (x := "_law_script") rfl (by decide) (by kernel_rfl) ⟨rfl, by decide, by decide⟩ ?F
    intro w mg fa h Y G hmg0
    obtain ⟨K, KX, c⟩ := Y
    have hmg : mg ("law" : PySem.Str) = some (.ref fa) := by
      have e : (HandSHeadRun.topDef (OpenLaw.row PySem.Challenge.rw_actasone_k63_whole_own_lots_and_odds).prog 147).name = ("law" : PySem.Str) := by kernel_rfl
      rw [← e]
      exact hmg0
    obtain ⟨fd, hb, hF⟩ := Ao.facts (P := (PySem.Challenge.rw_actasone_k63_whole_own_lots_and_odds).prog) (w := w) KX G hmg c
    exact ⟨K, fd, KX, hb, hF⟩
