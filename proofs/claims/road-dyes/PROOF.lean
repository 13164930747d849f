import PyProof.Rows.All
import Wide.All
import OpenK.AllK
import Wide.FinOn
import HandS.ForMost
import HandS.Star
import HandS.Deep
import HandS.IsInst
import HandS.Wide
import HandS.WideBits
import HandS.Flow
import HandS.Style
import HandS.Defaults
import HandS.HeadHook1
import HandS.HeadHook2
import KE.SortData
import HandS.TupSets
import HandS.ForSpec
import KE.KExcSuper
import HandS.WordsExc
import HandS.Conv
import HandS.Evl
import HandS.More
import HandS.DictTup
import HandS.Dict
import KE.KDictKeyed
import PyProof.NeKinds
import PyProof.FactsAll.subtypes_4
import PyProof.FactsAll.dict_2
import PyProof.ReprBulk
import HandS.ExcOwn
import HandS.OwnEq
import KE.KStateDown
import HandS.Head0
import HandS.Head1
import HandS.Head2
import HandS.HeadEnd
import PySem.Challenge.RW_barsanddyes_k55_whole_road_dyes
set_option Elab.async false
set_option linter.all false
set_option maxRecDepth 100000
set_option maxHeartbeats 4000000
/-! Data over a visible heap; pure readings. -/
namespace Yd
open PySem PySem.Spec L2
theorem sz_of {n : Nat} (h : n ≤ 100000) : n ≤ sizeLine := Nat.le_trans h (by rw [sizeLine_eq]; decide)
theorem sz_lt {n : Nat} (h : n < 100000) : n < sizeLine := Nat.lt_of_lt_of_le h (by rw [sizeLine_eq]; decide)
mutual
/-- the value v holds the data d, by what stands in the visible heap G -/
inductive DV (G : Hp) : V → PyData → Prop
  | non : DV G .non .none
  | bl (b : Bool) : DV G (.bl b) (.bool b)
  | int (i : Int) : DV G (.int i) (.int i)
  | str (x : Str) : DV G (.str x) (.str x)
  | lst {a : Addr} {xs : List V} {ds : List PyData} : G a = some (.lst xs) → DVs G xs ds → DV G (.ref a) (.list ds)
  | tup {a : Addr} {xs : List V} {ds : List PyData} : G a = some (.tup xs) → DVs G xs ds → DV G (.ref a) (.tuple ds)
  | dic {a : Addr} : G a = some (.dK []) → DV G (.ref a) (.dict [])
inductive DVs (G : Hp) : List V → List PyData → Prop
  | nil : DVs G [] []
  | cons {v : V} {vs : List V} {d : PyData} {ds : List PyData} : DV G v d → DVs G vs ds → DVs G (v :: vs) (d :: ds)
end
mutual
theorem DV.mono {G G' : Hp} (s : Same G G') : ∀ {v : V} {d : PyData}, DV G v d → DV G' v d
  | _, _, .non => .non
  | _, _, .bl b => .bl b
  | _, _, .int i => .int i
  | _, _, .str x => .str x
  | _, _, .lst h k => .lst (s _ _ h) (DVs.mono s k)
  | _, _, .tup h k => .tup (s _ _ h) (DVs.mono s k)
  | _, _, .dic h => .dic (s _ _ h)
theorem DVs.mono {G G' : Hp} (s : Same G G') : ∀ {vs : List V} {ds : List PyData}, DVs G vs ds → DVs G' vs ds
  | _, _, .nil => .nil
  | _, _, .cons h k => .cons (DV.mono s h) (DVs.mono s k)
end
section
variable {G G' H : Hp} {v : V} {vs ws : List V} {d : PyData} {ds es : List PyData}
theorem DVs.length : ∀ {vs : List V} {ds : List PyData}, DVs G vs ds → vs.length = ds.length
  | _, _, .nil => rfl
  | _, _, .cons _ k => by simp [DVs.length k]
theorem DVs.get : ∀ {vs : List V} {ds : List PyData} {i : Nat} {d : PyData}, DVs G vs ds → ds[i]? = some d → ∃ v, vs[i]? = some v ∧ DV G v d
  | _, _, _, _, .nil, e => by simp at e
  | _, _, 0, _, .cons h _, e => by simp at e; subst e; exact ⟨_, rfl, h⟩
  | _, _, i + 1, _, .cons _ k, e => by
    obtain ⟨v, h1, h2⟩ := DVs.get (i := i) k (by simpa using e)
    exact ⟨v, by simpa using h1, h2⟩
theorem DVs.getV : ∀ {vs : List V} {ds : List PyData} {i : Nat} {v : V}, DVs G vs ds → vs[i]? = some v → ∃ d, ds[i]? = some d ∧ DV G v d
  | _, _, _, _, .nil, e => by simp at e
  | _, _, 0, _, .cons h _, e => by simp at e; subst e; exact ⟨_, rfl, h⟩
  | _, _, i + 1, _, .cons _ k, e => by
    obtain ⟨v, h1, h2⟩ := DVs.getV (i := i) k (by simpa using e)
    exact ⟨v, by simpa using h1, h2⟩
theorem DVs.append : ∀ {vs ws : List V} {ds es : List PyData}, DVs G vs ds → DVs G ws es → DVs G (vs ++ ws) (ds ++ es)
  | _, _, _, _, .nil, k => k
  | _, _, _, _, .cons h k, k2 => .cons h (DVs.append k k2)
theorem DVs.one (h : DV G v d) : DVs G [v] [d] := .cons h .nil
theorem DVs.take : ∀ {vs : List V} {ds : List PyData} (n : Nat), DVs G vs ds → DVs G (vs.take n) (ds.take n)
  | _, _, 0, _ => .nil
  | _, _, _ + 1, .nil => .nil
  | _, _, n + 1, .cons h k => .cons h (DVs.take n k)
theorem DVs.drop : ∀ {vs : List V} {ds : List PyData} (n : Nat), DVs G vs ds → DVs G (vs.drop n) (ds.drop n)
  | _, _, 0, k => k
  | _, _, _ + 1, .nil => .nil
  | _, _, n + 1, .cons _ k => DVs.drop n k
theorem DVs.rev : ∀ {vs : List V} {ds : List PyData}, DVs G vs ds → DVs G vs.reverse ds.reverse
  | _, _, .nil => .nil
  | _, _, .cons h k => by
    rw [List.reverse_cons, List.reverse_cons]
    exact (DVs.rev k).append (.one h)
theorem DVs.set : ∀ {vs : List V} {ds : List PyData} (i : Nat) {v : V} {d : PyData}, DVs G vs ds → DV G v d → DVs G (vs.set i v) (ds.set i d)
  | _, _, _, _, _, .nil, _ => .nil
  | _, _, 0, _, _, .cons _ k, h => .cons h k
  | _, _, i + 1, _, _, .cons h0 k, h => .cons h0 (DVs.set i k h)
theorem DVs.ints : ∀ (ns : List Int), DVs G (ns.map V.int) (ns.map PyData.int)
  | [] => .nil
  | n :: ns => .cons (.int n) (DVs.ints ns)
theorem DV.int_inv {i : Int} (h : DV G v (.int i)) : v = .int i := by cases h; rfl
theorem DV.str_inv {x : Str} (h : DV G v (.str x)) : v = .str x := by cases h; rfl
theorem DV.bl_inv {b : Bool} (h : DV G v (.bool b)) : v = .bl b := by cases h; rfl
theorem DV.non_inv (h : DV G v .none) : v = .non := by cases h; rfl
theorem DV.lst_inv (h : DV G v (.list ds)) : ∃ a xs, v = .ref a ∧ G a = some (.lst xs) ∧ DVs G xs ds := by cases h with | lst h k => exact ⟨_, _, rfl, h, k⟩
theorem DV.tup_inv (h : DV G v (.tuple ds)) : ∃ a xs, v = .ref a ∧ G a = some (.tup xs) ∧ DVs G xs ds := by cases h with | tup h k => exact ⟨_, _, rfl, h, k⟩
theorem DVs.ints_inv : ∀ {ns : List Int} {vs : List V}, DVs G vs (ns.map PyData.int) → vs = ns.map V.int
  | [], _, .nil => rfl
  | n :: ns, _, .cons h k => by rw [h.int_inv, DVs.ints_inv k]; rfl
theorem DVs.strs_inv : ∀ {ns : List Str} {vs : List V}, DVs G vs (ns.map PyData.str) → vs = ns.map V.str
  | [], _, .nil => rfl
  | n :: ns, _, .cons h k => by rw [h.str_inv, DVs.strs_inv k]; rfl
end
/-! ### what is known of a value -/
structure Pm where
  P : V → Hp → Prop
  mono : ∀ v G G', Same G G' → P v G → P v G'
def dat (d : PyData) : Pm := ⟨fun v G => DV G v d, fun _ _ _ s h => h.mono s⟩
def val (w : V) : Pm := ⟨fun v _ => v = w, fun _ _ _ _ h => h⟩
def AllP : List Pm → List V → Hp → Prop
  | [], vs, _ => vs = []
  | p :: ps, vs, G => ∃ v r, vs = v :: r ∧ p.P v G ∧ AllP ps r G
theorem AllP.mono {G G' : Hp} (s : Same G G') : ∀ {ps : List Pm} {vs : List V}, AllP ps vs G → AllP ps vs G'
  | [], _, h => h
  | _ :: _, _, ⟨v, r, e, h, k⟩ => ⟨v, r, e, Pm.mono _ _ _ _ s h, AllP.mono s k⟩
/-! ### how the visible and the whole heap grow; what is in M may change in the whole one -/
structure Gr (M : Addr → Prop) (G H G2 H2 : Hp) : Prop where
  s0 : Same G H
  gg : Same G G2
  gh : Same G2 H2
  hh : ∀ b o, H b = some o → ¬ M b → H2 b = some o
  th : ∀ b, H2 b = none → H b = none
  nw : ∀ b, G b = none → G2 b ≠ none → H b = none
abbrev No : Addr → Prop := fun _ => False
abbrev Gr0 := Gr No
section
variable {M : Addr → Prop} {G H G1 H1 G2 H2 : Hp}
theorem Gr.refl (s : Same G H) : Gr M G H G H := ⟨s, Same.refl _, s, fun _ _ e _ => e, fun _ e => e, fun _ h k => absurd h k⟩
theorem Gr.trans (a : Gr M G H G1 H1) (b : Gr M G1 H1 G2 H2) : Gr M G H G2 H2 where
  s0 := a.s0
  gg := a.gg.trans b.gg
  gh := b.gh
  hh := fun c o e n => b.hh c o (a.hh c o e n) n
  th := fun c e => a.th c (b.th c e)
  nw := fun c e k => by
    cases q : G1 c with
    | some o => exact a.nw c e (by rw [q]; exact fun z => nomatch z)
    | none => exact a.th c (b.nw c q k)
theorem Gr.mk0 (s0 : Same G H) (gg : Same G G2) (gh : Same G2 H2) (hh : Same H H2) (nw : ∀ b, G b = none → G2 b ≠ none → H b = none) : Gr0 G H G2 H2 where
  s0 := s0
  gg := gg
  gh := gh
  hh := fun b o e _ => hh b o e
  th := fun b e => hh.free e
  nw := nw
theorem Gr.same (a : Gr0 G H G2 H2) : Same H H2 := fun b o e => a.hh b o e id
theorem Gr.up (a : Gr0 G H G2 H2) : Gr M G H G2 H2 := ⟨a.s0, a.gg, a.gh, fun b o e _ => a.hh b o e id, a.th, a.nw⟩
theorem Gr.wide {M' : Addr → Prop} (a : Gr M G H G2 H2) (h : ∀ b, M b → M' b) : Gr M' G H G2 H2 := ⟨a.s0, a.gg, a.gh, fun b o e n => a.hh b o e fun m => n (h b m), a.th, a.nw⟩
theorem Gr.tr0 (a : Gr M G H G1 H1) (b : Gr0 G1 H1 G2 H2) : Gr M G H G2 H2 := a.trans b.up
/-- a new object, to be seen -/
theorem Gr.new {p : Addr} {o : HO} (s : Same G H) (hp : H p = none) : Gr M G H (upd G p o) (upd H p o) where
  s0 := s
  gg := fun b u e => by rw [upd_ne (ne_of_none (s b u e) hp)]; exact e
  gh := fun b u e => by
    by_cases hb : b = p
    · subst hb; rw [upd_same] at e ⊢; exact e
    · rw [upd_ne hb] at e ⊢; exact s b u e
  hh := fun b u e _ => by rw [upd_ne (ne_of_none e hp)]; exact e
  th := fun b e => by
    by_cases hb : b = p
    · subst hb; exact hp
    · rw [upd_ne hb] at e; exact e
  nw := fun b e k => by
    by_cases hb : b = p
    · subst hb; exact hp
    · rw [upd_ne hb] at k; exact absurd e k
/-- a new object, not to be seen yet -/
theorem Gr.hid {p : Addr} {o : HO} (s : Same G H) (hp : H p = none) : Gr M G H G (upd H p o) where
  s0 := s
  gg := Same.refl _
  gh := fun b u e => by rw [upd_ne (ne_of_none (s b u e) hp)]; exact s b u e
  hh := fun b u e _ => by rw [upd_ne (ne_of_none e hp)]; exact e
  th := fun b e => by
    by_cases hb : b = p
    · subst hb; exact hp
    · rw [upd_ne hb] at e; exact e
  nw := fun b e k => absurd e k
/-- what was not there at the start (or may change) and is not seen may be written -/
theorem Gr.wr {p : Addr} {o : HO} (a : Gr M G H G2 H2) (hp : H p = none ∨ M p) (hg : G2 p = none) : Gr M G H G2 (upd H2 p o) where
  s0 := a.s0
  gg := a.gg
  gh := fun b u e => by
    rw [upd_ne (fun z => by subst z; rw [hg] at e; cases e)]; exact a.gh b u e
  hh := fun b u e n => by
    rw [upd_ne (fun z => by
      subst z
      rcases hp with hp | hp
      · rw [hp] at e; cases e
      · exact n hp)]
    exact a.hh b u e n
  th := fun b e => by
    by_cases hb : b = p
    · subst hb; rw [upd_same] at e; cases e
    · rw [upd_ne hb] at e; exact a.th b e
  nw := a.nw
/-- what was not there at the start is shown -/
theorem Gr.sho {p : Addr} {o : HO} (a : Gr M G H G2 H2) (hp : H p = none) (h2 : H2 p = some o) : Gr M G H (upd G2 p o) H2 where
  s0 := a.s0
  gg := fun b u e => by
    rw [upd_ne (ne_of_none (a.s0 b u e) hp)]
    exact a.gg b u e
  gh := fun b u e => by
    by_cases hb : b = p
    · subst hb; rw [upd_same] at e; cases e; exact h2
    · rw [upd_ne hb] at e; exact a.gh b u e
  hh := a.hh
  th := a.th
  nw := fun b e k => by
    by_cases hb : b = p
    · subst hb; exact hp
    · rw [upd_ne hb] at k; exact a.nw b e k
/-- what stands, not seen, at the start is not seen behind -/
theorem Gr.out (a : Gr M G H G2 H2) {p : Addr} {o : HO} (hg : G p = none) (hp : H p = some o) : G2 p = none := by
  cases q : G2 p with
  | none => rfl
  | some u =>
    have := a.nw p hg (by rw [q]; exact fun z => nomatch z)
    rw [hp] at this; cases this
theorem same_sho {p : Addr} {o : HO} (s : Same G H) (h : H p = some o) (hg : G p = none) : Same (upd G p o) H := fun b u e => by
  by_cases hb : b = p
  · subst hb; rw [upd_same] at e; cases e; exact h
  · rw [upd_ne hb] at e; exact s b u e
theorem same_upd {p : Addr} {o : HO} (hg : G p = none) : Same G (upd G p o) := fun b u e => by
  rw [upd_ne (fun z => by subst z; rw [hg] at e; cases e)]; exact e
end
/-! ### pure readings: evaluated over any heap that bears G, leaving what stands, the value is p -/
def Is (te : TE) (σ : St) (G : Hp) (p : Pm) : Prop := ∀ G1 H1, Same G G1 → Same G1 H1 → ∀ Q : VK, (∀ v G2 H2, Gr0 G1 H1 G2 H2 → p.P v G2 → Q v H2) → te σ H1 Q
def IsT (tt : TT) (σ : St) (G : Hp) (b : Bool) : Prop := ∀ G1 H1, Same G G1 → Same G1 H1 → ∀ Q : Bool → Hp → Prop, (∀ G2 H2, Gr0 G1 H1 G2 H2 → Q b H2) → tt σ H1 Q
def IsA (ta : TA) (σ : St) (G : Hp) (ps : List Pm) : Prop := ∀ G1 H1, Same G G1 → Same G1 H1 → ∀ Q : List V → Hp → Prop, (∀ vs G2 H2, Gr0 G1 H1 G2 H2 → AllP ps vs G2 → Q vs H2) → ta σ H1 Q
/-- an operation on values -/
def RI (r : R2) (p q : Pm) (G : Hp) (s : Pm) : Prop := ∀ x y G1 H1, Same G G1 → Same G1 H1 → p.P x G1 → q.P y G1 → ∀ Q : VK, (∀ v G2 H2, Gr0 G1 H1 G2 H2 → s.P v G2 → Q v H2) → r x y H1 Q
def RC (r : List V → Hp → VK → Prop) (ps : List Pm) (G : Hp) (s : Pm) : Prop := ∀ vs G1 H1, Same G G1 → Same G1 H1 → AllP ps vs G1 → ∀ Q : VK, (∀ v G2 H2, Gr0 G1 H1 G2 H2 → s.P v G2 → Q v H2) → r vs H1 Q
section
variable {K : PySem.W.Frag} {σ : St} {G G' H : Hp} {ta tb te tl : TE} {t u : TT} {p q s : Pm} {v : V} {r : R2} {b c : Bool} {d e : PyData}
theorem Is.mono (h : Is te σ G p) (z : Same G G') : Is te σ G' p := fun G1 H1 s1 s2 => h G1 H1 (z.trans s1) s2
theorem IsT.mono (h : IsT t σ G b) (z : Same G G') : IsT t σ G' b := fun G1 H1 s1 s2 => h G1 H1 (z.trans s1) s2
theorem Is.imp (h : Is te σ G p) (z : ∀ v G1, Same G G1 → p.P v G1 → q.P v G1) : Is te σ G q := fun G1 H1 s1 s2 Q k => h G1 H1 s1 s2 Q fun v G2 H2 g pv => k v G2 H2 g (z v G2 (s1.trans g.gg) pv)
theorem Is.eqd (h : Is te σ G (dat d)) (z : d = e) : Is te σ G (dat e) := z ▸ h
theorem IsT.eqb (h : IsT t σ G b) (z : b = c) : IsT t σ G c := z ▸ h
theorem Is.use {Q : VK} (h : Is te σ G p) (g : Same G H) (k : ∀ v G2 H2, Gr0 G H G2 H2 → p.P v G2 → Q v H2) : te σ H Q := h G H (Same.refl _) g Q k
theorem IsT.use {Q : Bool → Hp → Prop} (h : IsT t σ G b) (g : Same G H) (k : ∀ G2 H2, Gr0 G H G2 H2 → Q b H2) : t σ H Q := h G H (Same.refl _) g Q k
theorem is_var {i : Nat} (h : σ[i]? = some (some v)) (hp : p.P v G) : Is (tVar i) σ G p := fun G1 H1 s1 s2 Q k => ⟨v, h, k v G1 H1 (.refl s2) (p.mono _ _ _ s1 hp)⟩
theorem is_c (hp : p.P v G) : Is (tC v) σ G p := fun G1 H1 s1 s2 Q k => k v G1 H1 (.refl s2) (p.mono _ _ _ s1 hp)
theorem is_op (ha : Is ta σ G p) (hb : Is tb σ G q) (hr : RI r p q G s) : Is (tOp r ta tb) σ G s := fun G1 H1 s1 s2 Q k =>
  ha G1 H1 s1 s2 _ fun x G2 H2 g2 px => hb G2 H2 (s1.trans g2.gg) g2.gh _ fun y G3 H3 g3 py =>
    hr x y G3 H3 ((s1.trans g2.gg).trans g3.gg) g3.gh (p.mono _ _ _ g3.gg px) py Q fun v G4 H4 g4 pv => k v G4 H4 (g2.trans (g3.trans g4)) pv
theorem isa_nil : IsA tNil σ G [] := fun G1 H1 s1 s2 Q k => k [] G1 H1 (.refl s2) rfl
theorem isa_cons {ps : List Pm} {tr : TA} (ha : Is ta σ G p) (hr : IsA tr σ G ps) : IsA (tCons ta tr) σ G (p :: ps) := fun G1 H1 s1 s2 Q k =>
  ha G1 H1 s1 s2 _ fun x G2 H2 g2 px => hr G2 H2 (s1.trans g2.gg) g2.gh _ fun xs G3 H3 g3 pxs => k (x :: xs) G3 H3 (g2.trans g3) ⟨x, xs, rfl, p.mono _ _ _ g3.gg px, pxs⟩
theorem allp_dat {G : Hp} : ∀ {ds : List PyData} {vs : List V}, AllP (ds.map dat) vs G → DVs G vs ds
  | [], _, h => by cases (show _ = _ from h); exact .nil
  | _ :: _, _, ⟨v, r, e, h, k⟩ => by subst e; exact .cons h (allp_dat k)
theorem is_tup {ta : TA} {ds : List PyData} (h : IsA ta σ G (ds.map dat)) (hz : ds.length ≤ 100000) : Is (tTup ta) σ G (dat (.tuple ds)) := fun G1 H1 s1 s2 Q k =>
  h G1 H1 s1 s2 _ fun xs G2 H2 g2 px => by
    have dv := allp_dat px
    refine ⟨by rw [dv.length]; exact sz_of hz, fun a ha => ?_⟩
    have g3 : Gr0 G2 H2 (upd G2 a (.tup xs)) (upd H2 a (.tup xs)) := .new g2.gh ha
    exact k _ _ _ (g2.trans g3) (.tup upd_same (dv.mono g3.gg))
theorem is_lst {ta : TA} {ds : List PyData} (h : IsA ta σ G (ds.map dat)) (hz : ds.length ≤ 100000) : Is (tLst ta) σ G (dat (.list ds)) := fun G1 H1 s1 s2 Q k =>
  h G1 H1 s1 s2 _ fun xs G2 H2 g2 px => by
    have dv := allp_dat px
    refine ⟨by rw [dv.length]; exact sz_of hz, fun a ha => ?_⟩
    have g3 : Gr0 G2 H2 (upd G2 a (.lst xs)) (upd H2 a (.lst xs)) := .new g2.gh ha
    exact k _ _ _ (g2.trans g3) (.lst upd_same (dv.mono g3.gg))
/-! ### tests -/
theorem ist_test (h : Is te σ G (dat (.bool b))) : IsT (tTest te) σ G b := fun G1 H1 s1 s2 Q k => h G1 H1 s1 s2 _ fun x G2 H2 g2 px => ⟨b, px.bl_inv, k G2 H2 g2⟩
theorem ist_B (h : Is te σ G (dat (.bool b))) : IsT (tB te) σ G b := fun G1 H1 s1 s2 Q k => h G1 H1 s1 s2 _ fun x G2 H2 g2 px => ⟨b, px.bl_inv, k G2 H2 g2⟩
theorem ist_and (h1 : IsT t σ G b) (h2 : b = true → IsT u σ G c) : IsT (tAnd t u) σ G (b && c) := fun G1 H1 s1 s2 Q k => h1 G1 H1 s1 s2 _ fun G2 H2 g2 => by
  cases b with
  | true => exact h2 rfl G2 H2 (s1.trans g2.gg) g2.gh _ fun G3 H3 g3 => k G3 H3 (g2.trans g3)
  | false => exact k G2 H2 g2
theorem ist_or (h1 : IsT t σ G b) (h2 : b = false → IsT u σ G c) : IsT (tOr t u) σ G (b || c) := fun G1 H1 s1 s2 Q k => h1 G1 H1 s1 s2 _ fun G2 H2 g2 => by
  cases b with
  | false => exact h2 rfl G2 H2 (s1.trans g2.gg) g2.gh _ fun G3 H3 g3 => k G3 H3 (g2.trans g3)
  | true => exact k G2 H2 g2
theorem ist_not (h1 : IsT t σ G b) : IsT (tNot t) σ G (!b) := fun G1 H1 s1 s2 Q k => h1 G1 H1 s1 s2 _ fun G2 H2 g2 => k G2 H2 g2
theorem is_andV (h1 : Is ta σ G (dat (.bool b))) (h2 : b = true → Is tb σ G (dat (.bool c))) : Is (tAndV ta tb) σ G (dat (.bool (b && c))) := fun G1 H1 s1 s2 Q k => h1 G1 H1 s1 s2 _ fun x G2 H2 g2 px => by
  refine ⟨b, px.bl_inv, ?_⟩
  cases b with
  | true => exact h2 rfl G2 H2 (s1.trans g2.gg) g2.gh _ fun v G3 H3 g3 pv => k v G3 H3 (g2.trans g3) pv
  | false => exact k _ G2 H2 g2 (.bl false)
theorem is_notV (h1 : Is ta σ G (dat (.bool b))) : Is (tNotV ta) σ G (dat (.bool (!b))) := fun G1 H1 s1 s2 Q k => h1 G1 H1 s1 s2 _ fun x G2 H2 g2 px => ⟨b, px.bl_inv, k _ G2 H2 g2 (.bl _)⟩
theorem is_if (h : IsT t σ G b) (h1 : b = true → Is ta σ G p) (h2 : b = false → Is tb σ G p) : Is (tIf t ta tb) σ G p := fun G1 H1 s1 s2 Q k => h G1 H1 s1 s2 _ fun G2 H2 g2 => by
  cases b with
  | true => exact h1 rfl G2 H2 (s1.trans g2.gg) g2.gh _ fun v G3 H3 g3 pv => k v G3 H3 (g2.trans g3) pv
  | false => exact h2 rfl G2 H2 (s1.trans g2.gg) g2.gh _ fun v G3 H3 g3 pv => k v G3 H3 (g2.trans g3) pv
end
/-! ### operations on data -/
mutual
theorem DV.dp {K : PySem.W.Frag} {G H : Hp} (s : Same G H) : ∀ {v : V} {d : PyData}, DV G v d → d.hasDict = false → Dp K H v d
  | _, _, .non, _ => .non
  | _, _, .bl b, _ => .bl b
  | _, _, .int i, _ => .int i
  | _, _, .str x, _ => .str x
  | _, _, .lst h k, n => .lst (SqL.of (s _ _ h)) (DVs.dp s k (by simpa [PyData.hasDict] using n))
  | _, _, .tup h k, n => .tup (SqT.of (s _ _ h)) (DVs.dp s k (by simpa [PyData.hasDict] using n))
  | _, _, .dic h, n => by simp [PyData.hasDict] at n
theorem DVs.dp {K : PySem.W.Frag} {G H : Hp} (s : Same G H) : ∀ {vs : List V} {ds : List PyData}, DVs G vs ds → PyData.hasDictAll ds = false → DpAll K H vs ds
  | _, _, .nil, _ => .nil
  | _, _, .cons h k, n => by
    simp only [PyData.hasDictAll, Bool.or_eq_false_iff] at n
    exact .cons (DV.dp s h n.1) (DVs.dp s k n.2)
end
mutual
theorem noDict_of_canLay0 : ∀ d : PyData, d.canLay0 = true → d.hasDict = false
  | .none, _ => by simp [PyData.hasDict]
  | .bool _, _ => by simp [PyData.hasDict]
  | .int _, _ => by simp [PyData.hasDict]
  | .str _, _ => by simp [PyData.hasDict]
  | .list xs, h => by simpa [PyData.hasDict] using noDictAll_of_canLay0 xs (by simpa [PyData.canLay0] using h)
  | .tuple xs, h => by simpa [PyData.hasDict] using noDictAll_of_canLay0 xs (by simpa [PyData.canLay0] using h)
  | .dict _, h => by simp [PyData.canLay0] at h
theorem noDictAll_of_canLay0 : ∀ ds : List PyData, PyData.canLayAll0 ds = true → PyData.hasDictAll ds = false
  | [], _ => by simp [PyData.hasDictAll]
  | d :: ds, h => by
    simp only [PyData.canLayAll0, Bool.and_eq_true] at h
    simp only [PyData.hasDictAll, Bool.or_eq_false_iff]
    exact ⟨noDict_of_canLay0 d h.1, noDictAll_of_canLay0 ds h.2⟩
end
theorem noDict_of_shaped {d : PyData} (h : SeqAt.shaped d = true) : d.hasDict = false := noDict_of_canLay0 d (SeqAt.canLay_of_shaped h)
section
variable {K : PySem.W.Frag} {σ : St} {G G' H : Hp} {ta tb te tl : TE} {t u : TT} {p q s : Pm} {v : V} {r : R2} {b c : Bool} {d e : PyData} {ds es : List PyData}
theorem ri_I {g : Int → Int → Int} {i j : Int} : RI (rI0 fun i j => .int (g i j)) (dat (.int i)) (dat (.int j)) G (dat (.int (g i j))) := fun x y G1 H1 s1 s2 px py Q k => ⟨i, j, px.int_inv, py.int_inv, k _ G1 H1 (.refl s2) (.int _)⟩
theorem ri_C {C : Int → Int → Prop} {g : Int → Int → Int} {i j : Int} (h : C i j) : RI (rI C fun i j => .int (g i j)) (dat (.int i)) (dat (.int j)) G (dat (.int (g i j))) := fun x y G1 H1 s1 s2 px py Q k => ⟨i, j, px.int_inv, py.int_inv, h, k _ G1 H1 (.refl s2) (.int _)⟩
theorem ri_B {g : Int → Int → Bool} {i j : Int} : RI (rI0 fun i j => .bl (g i j)) (dat (.int i)) (dat (.int j)) G (dat (.bool (g i j))) := fun x y G1 H1 s1 s2 px py Q k => ⟨i, j, px.int_inv, py.int_inv, k _ G1 H1 (.refl s2) (.bl _)⟩
theorem ri_eqD (hd : SeqAt.shaped d = true) (he : SeqAt.shaped e = true) : RI (rEqD K) (dat d) (dat e) G (dat (.bool (PyData.eqv d e))) := fun x y G1 H1 s1 s2 px py Q k =>
  ⟨d, e, DV.dp s2 px (noDict_of_shaped hd), DV.dp s2 py (noDict_of_shaped he), hd, he, k _ G1 H1 (.refl s2) (.bl _)⟩
theorem ri_neD (hd : SeqAt.shaped d = true) (he : SeqAt.shaped e = true) : RI (rNeD K) (dat d) (dat e) G (dat (.bool (!PyData.eqv d e))) := fun x y G1 H1 s1 s2 px py Q k =>
  ⟨d, e, DV.dp s2 px (noDict_of_shaped hd), DV.dp s2 py (noDict_of_shaped he), hd, he, k _ G1 H1 (.refl s2) (.bl _)⟩
theorem ri_inD (hd : SeqAt.shaped d = true) (he : SeqAt.shaped (.list ds) = true) : RI (rInD K) (dat d) (dat (.list ds)) G (dat (.bool (ds.any fun z => PyData.eqv z d))) := fun x y G1 H1 s1 s2 px py Q k =>
  ⟨d, ds, DV.dp s2 px (noDict_of_shaped hd), DV.dp s2 py (noDict_of_shaped he), hd, he, k _ G1 H1 (.refl s2) (.bl _)⟩
theorem ri_notInD (hd : SeqAt.shaped d = true) (he : SeqAt.shaped (.list ds) = true) : RI (rNotInD K) (dat d) (dat (.list ds)) G (dat (.bool (!ds.any fun z => PyData.eqv z d))) := fun x y G1 H1 s1 s2 px py Q k =>
  ⟨d, ds, DV.dp s2 px (noDict_of_shaped hd), DV.dp s2 py (noDict_of_shaped he), hd, he, k _ G1 H1 (.refl s2) (.bl _)⟩
theorem ri_ixL {i : Int} {j : Nat} (hi : i = (j : Int)) (h : ds[j]? = some d) : RI (rIx K) (dat (.list ds)) (dat (.int i)) G (dat d) := fun x y G1 H1 s1 s2 px py Q k => by
  obtain ⟨a, xs, rfl, ha, dv⟩ := px.lst_inv
  obtain ⟨v, hv, dd⟩ := dv.get h
  exact .inl ⟨a, xs, i, v, rfl, py.int_inv, SqL.of (s2 _ _ ha), at_of hi hv, k _ G1 H1 (.refl s2) dd⟩
theorem ri_ixT {i : Int} {j : Nat} (hi : i = (j : Int)) (h : ds[j]? = some d) : RI (rIx K) (dat (.tuple ds)) (dat (.int i)) G (dat d) := fun x y G1 H1 s1 s2 px py Q k => by
  obtain ⟨a, xs, rfl, ha, dv⟩ := px.tup_inv
  obtain ⟨v, hv, dd⟩ := dv.get h
  exact .inr (.inl ⟨a, xs, i, v, rfl, py.int_inv, SqT.of (s2 _ _ ha), at_of hi hv, k _ G1 H1 (.refl s2) dd⟩)
theorem ri_cat (hz : ds.length + es.length ≤ 100000) : RI rCat (dat (.list ds)) (dat (.list es)) G (dat (.list (ds ++ es))) := fun x y G1 H1 s1 s2 px py Q k => by
  obtain ⟨a, xs, rfl, ha, dv⟩ := px.lst_inv
  obtain ⟨a', xs', rfl, ha', dv'⟩ := py.lst_inv
  refine ⟨a, a', xs, xs', rfl, rfl, s2 _ _ ha, s2 _ _ ha', by rw [dv.length, dv'.length]; exact sz_of hz, fun l hl => ?_⟩
  have g : Gr0 G1 H1 (upd G1 l (.lst (xs ++ xs'))) (upd H1 l (.lst (xs ++ xs'))) := .new s2 hl
  exact k _ _ _ g (.lst upd_same ((dv.append dv').mono g.gg))
/-- a slice -/
theorem is_slice {tl th : TO} {lo hi : Option Int} (h : Is te σ G (dat (.list ds)))
    (h1 : ∀ G1 H1, Same G G1 → Same G1 H1 → ∀ Q : Option Int → Hp → Prop, (∀ G2 H2, Gr0 G1 H1 G2 H2 → Q lo H2) → tl σ H1 Q) (h2 : ∀ G1 H1, Same G G1 → Same G1 H1 → ∀ Q : Option Int → Hp → Prop, (∀ G2 H2, Gr0 G1 H1 G2 H2 → Q hi H2) → th σ H1 Q) :
    Is (tSl (rSlL K) te tl th) σ G (dat (.list ((ds.drop (HT.sIx ds.length 0 lo)).take (HT.sIx ds.length ds.length hi - HT.sIx ds.length 0 lo)))) := fun G1 H1 s1 s2 Q k =>
  h G1 H1 s1 s2 _ fun x G2 H2 g2 px => h1 G2 H2 (s1.trans g2.gg) g2.gh _ fun G3 H3 g3 => h2 G3 H3 ((s1.trans g2.gg).trans g3.gg) g3.gh _ fun G4 H4 g4 => by
    obtain ⟨a, xs, rfl, ha, dv⟩ := (px.mono (g3.gg.trans g4.gg)).lst_inv
    refine ⟨a, xs, rfl, SqL.of (g4.gh _ _ ha), fun l hl => ?_⟩
    have g5 : Gr0 G4 H4 (upd G4 l (.lst (cutV xs lo hi))) (upd H4 l (.lst (cutV xs lo hi))) := .new g4.gh hl
    refine k _ _ _ ((g2.trans (g3.trans g4)).trans g5) (.lst upd_same ?_)
    show DVs _ ((xs.drop (HT.sIx xs.length 0 lo)).take (HT.sIx xs.length xs.length hi - HT.sIx xs.length 0 lo)) _
    rw [dv.length]
    exact ((dv.drop _).take _).mono g5.gg
theorem ip_none {G1 H1 : Hp} (s1 : Same G G1) (s2 : Same G1 H1) (Q : Option Int → Hp → Prop) (k : ∀ G2 H2, Gr0 G1 H1 G2 H2 → Q none H2) : tNoPart σ H1 Q := k G1 H1 (.refl s2)
theorem ip_some {i : Int} (h : Is te σ G (dat (.int i))) {G1 H1 : Hp} (s1 : Same G G1) (s2 : Same G1 H1) (Q : Option Int → Hp → Prop) (k : ∀ G2 H2, Gr0 G1 H1 G2 H2 → Q (some i) H2) : tPart te σ H1 Q :=
  h G1 H1 s1 s2 _ fun x G2 H2 g2 px => ⟨i, px.int_inv, k G2 H2 g2⟩
theorem is_cb {ta : TA} {ps : List Pm} {r : List V → Hp → VK → Prop} (h : IsA ta σ G ps) (hr : RC r ps G s) : Is (tCB r ta) σ G s := fun G1 H1 s1 s2 Q k =>
  h G1 H1 s1 s2 _ fun vs G2 H2 g2 pv => hr vs G2 H2 (s1.trans g2.gg) g2.gh pv Q fun v G3 H3 g3 p3 => k v G3 H3 (g2.trans g3) p3
theorem rc_lenL : RC (fun xs H Q => ∃ x n, xs = [x] ∧ LenV K x H n ∧ Q (.int n) H) [dat (.list ds)] G (dat (.int ds.length)) := fun vs G1 H1 s1 s2 pv Q k => by
  obtain ⟨v, r, rfl, h, e⟩ := pv
  cases (show r = [] from e)
  obtain ⟨a, xs, rfl, ha, dv⟩ := (show DV G1 v (.list ds) from h).lst_inv
  exact ⟨_, ds.length, rfl, .inl ⟨xs, SqL.of (s2 _ _ ha), dv.length.symm⟩, k _ G1 H1 (.refl s2) (.int _)⟩
theorem rc_lenT : RC (fun xs H Q => ∃ x n, xs = [x] ∧ LenV K x H n ∧ Q (.int n) H) [dat (.tuple ds)] G (dat (.int ds.length)) := fun vs G1 H1 s1 s2 pv Q k => by
  obtain ⟨v, r, rfl, h, e⟩ := pv
  cases (show r = [] from e)
  obtain ⟨a, xs, rfl, ha, dv⟩ := (show DV G1 v (.tuple ds) from h).tup_inv
  exact ⟨_, ds.length, rfl, .inr ⟨xs, SqT.of (s2 _ _ ha), dv.length.symm⟩, k _ G1 H1 (.refl s2) (.int _)⟩
theorem rc_lenS {x : Str} (hz : x.length ≤ sizeLine) : RC (fun xs H Q => ∃ x n, xs = [x] ∧ LenV K x H n ∧ Q (.int n) H) [dat (.str x)] G (dat (.int x.length)) := fun vs G1 H1 s1 s2 pv Q k => by
  obtain ⟨v, r, rfl, h, e⟩ := pv
  cases (show r = [] from e)
  obtain rfl := (show DV G1 v (.str x) from h).str_inv
  exact ⟨_, x.length, rfl, ⟨hz, rfl⟩, k _ G1 H1 (.refl s2) (.int _)⟩
end
end Yd
set_option Elab.async false
set_option linter.all false
set_option maxRecDepth 100000
set_option maxHeartbeats 4000000
namespace Yd
open PySem PySem.Spec L2
/-! ### targets, comprehensions -/
def GT (g : TG) (x : V) (σ : St) (G : Hp) (σ2 : St) : Prop := ∀ H, Same G H → ∀ Q : St → Hp → Prop, Q σ2 H → g x σ H Q
def outI (n : Nat) (f : Nat → Bool) (o : Nat → PyData) : List PyData := ((List.range n).filter f).map o
theorem outI_zero (f : Nat → Bool) (o : Nat → PyData) : outI 0 f o = [] := rfl
theorem outI_yes {n : Nat} {f : Nat → Bool} {o : Nat → PyData} (h : f n = true) : outI (n + 1) f o = outI n f o ++ [o n] := by
  simp [outI, List.range_succ, List.filter_append, h]
theorem outI_no {n : Nat} {f : Nat → Bool} {o : Nat → PyData} (h : f n = false) : outI (n + 1) f o = outI n f o := by
  simp [outI, List.range_succ, List.filter_append, h]
theorem outI_len (n : Nat) (f : Nat → Bool) (o : Nat → PyData) : (outI n f o).length ≤ n := by
  rw [outI, List.length_map]
  exact Nat.le_trans (List.length_filter_le _ _) (by rw [List.length_range]; exact Nat.le_refl _)
theorem outI_list (p : PyData → Bool) (q : PyData → PyData) : ∀ ds : List PyData, outI ds.length (fun i => p (ds.getD i .none)) (fun i => q (ds.getD i .none)) = (ds.filter p).map q := by
  intro ds
  have h : ∀ n, n ≤ ds.length → outI n (fun i => p (ds.getD i .none)) (fun i => q (ds.getD i .none)) = ((ds.take n).filter p).map q := by
    intro n
    induction n with
    | zero => intro _; rfl
    | succ n ih =>
      intro hn
      have e : ds.take (n + 1) = ds.take n ++ [ds.getD n .none] := by
        rw [List.take_add_one, List.getD_eq_getElem?_getD, List.getElem?_eq_getElem hn]; rfl
      rw [e, List.filter_append, List.map_append, ← ih (Nat.le_of_succ_le hn)]
      cases c : p (ds.getD n .none) with
      | true => rw [outI_yes (f := fun i => p (ds.getD i .none)) c, List.filter_cons, if_pos c]; rfl
      | false => rw [outI_no (f := fun i => p (ds.getD i .none)) c, List.filter_cons, if_neg (by rw [c]; exact Bool.false_ne_true)]; exact (List.append_nil _).symm
  rw [h _ (Nat.le_refl _), List.take_length]
section
variable {K : PySem.W.Frag} {σ : St} {G G' H : Hp} {ta : TA} {tb te tl : TE} {tt t u : TT} {p q s : Pm} {v x y z : V} {r : R2} {b c : Bool} {d e : PyData} {ds es : List PyData} {g : TG} {vs : List Nat} {a : Addr} {i j k : Nat}
theorem gt_name : GT (gName j) x σ G (σ.set j (some x)) := fun H s Q k => k
theorem gt_tup2 (h : G a = some (.tup [x, y])) : GT (gTup K 2 (gCons (gName i) (gCons (gName j) gNil))) (.ref a) σ G ((σ.set i (some x)).set j (some y)) := fun H s Q k =>
  ⟨a, [x, y], rfl, SqT.of (s _ _ h), rfl, x, [y], rfl, y, [], rfl, rfl, k⟩
theorem gt_tup3 (h : G a = some (.tup [x, y, z])) : GT (gTup K 3 (gCons (gName i) (gCons (gName j) (gCons (gName k) gNil)))) (.ref a) σ G (((σ.set i (some x)).set j (some y)).set k (some z)) := fun H s Q k =>
  ⟨a, [x, y, z], rfl, SqT.of (s _ _ h), rfl, x, [y, z], rfl, y, [z], rfl, z, [], rfl, rfl, k⟩
/-- what a comprehension's turn keeps: D is made, acc is in it -/
def LcW (G1 H1 : Hp) (D : Addr) (f : Nat → Bool) (o : Nat → PyData) (i : Nat) (H' : Hp) : Prop :=
  ∃ G' acc, Gr0 G1 H1 G' H' ∧ H' D = some (.lst acc) ∧ G' D = none ∧ DVs G' acc (outI i f o)
theorem lcw_start {G1 H1 : Hp} {D : Addr} {f : Nat → Bool} {o : Nat → PyData} (s : Same G1 H1) (hD : H1 D = none) : LcW G1 H1 D f o 0 (upd H1 D (.lst [])) :=
  ⟨G1, [], .hid s hD, upd_same, s.free hD, .nil⟩
theorem lcw_end {G1 H1 H' : Hp} {D : Addr} {f : Nat → Bool} {o : Nat → PyData} {n : Nat} (hD : H1 D = none) (w : LcW G1 H1 D f o n H') : ∃ G', Gr0 G1 H1 G' H' ∧ DV G' (.ref D) (.list (outI n f o)) := by
  obtain ⟨G', acc, g, h, hg, dv⟩ := w
  exact ⟨upd G' D (.lst acc), g.sho hD h, .lst upd_same (dv.mono (same_upd hg))⟩
/-- one turn behind the target -/
theorem lcw_turn {G1 H1 G' H' : Hp} {D : Addr} {f : Nat → Bool} {o : Nat → PyData} {σ2 : St} {acc : List V} (hD : H1 D = none) (hg : Gr0 G1 H1 G' H') (hh : H' D = some (.lst acc)) (hn : G' D = none) (dv : DVs G' acc (outI i f o)) (hi : i < 100000)
    (ht : IsT tt σ2 G' (f i)) (he : f i = true → Is te σ2 G' (dat (o i))) :
    tt σ2 H' fun b H3 => if b = true then te σ2 H3 fun y H4 => ∃ acc, H4 D = some (.lst acc) ∧ acc.length < sizeLine ∧ LcW G1 H1 D f o (i + 1) (upd H4 D (.lst (acc ++ [y]))) else LcW G1 H1 D f o (i + 1) H3 := by
  refine ht G' H' (Same.refl _) hg.gh _ fun G3 H3 g3 => ?_
  cases c : f i with
  | false => exact ⟨G3, acc, hg.trans g3, g3.same _ _ hh, g3.out hn hh, by rw [outI_no c]; exact dv.mono g3.gg⟩
  | true =>
    refine he c G3 H3 g3.gg g3.gh _ fun y G4 H4 g4 py => ?_
    have h4 := (g3.trans g4).same _ _ hh
    have n4 := (g3.trans g4).out hn hh
    refine ⟨acc, h4, ?_, G4, acc ++ [y], ?_, upd_same, n4, ?_⟩
    · rw [dv.length]; exact Nat.lt_of_le_of_lt (outI_len _ _ _) (sz_lt hi)
    · exact (hg.trans (g3.trans g4)).wr (.inl hD) n4
    · rw [outI_yes c]; exact (dv.mono (g3.trans g4).gg).append (.one py)
theorem is_lcL {f : Nat → Bool} {o : Nat → PyData} (hl : Is tl σ G (dat (.list ds))) (hz : ds.length ≤ 100000)
    (hs : ∀ i x d G1, ds[i]? = some d → Same G G1 → DV G1 x d → ∃ σ2, GT g x (wipe σ vs) G1 σ2 ∧ wipe σ2 vs = wipe σ vs ∧ IsT tt σ2 G1 (f i) ∧ (f i = true → Is te σ2 G1 (dat (o i)))) :
    Is (tLc (iList K tl) g tt te vs) σ G (dat (.list (outI ds.length f o))) := fun G1 H1 s1 s2 Q k =>
  hl G1 H1 s1 s2 _ fun x G2 H2 g2 px => by
    obtain ⟨a, xs, rfl, ha, dv⟩ := px.lst_inv
    refine ⟨a, rfl, ⟨xs, SqL.of (g2.gh _ _ ha)⟩, fun D hD => ?_⟩
    refine lc_list (K := K) (a := a) (xs := xs) (LcW G2 H2 D f o) (lcw_start g2.gh hD) (fun i H' _ w => ?_) (fun i x H' hi w => ?_) (fun H' w => ?_)
    · obtain ⟨G', acc, g, _⟩ := w
      exact SqL.of (g.gh _ _ (g.gg _ _ ha))
    · obtain ⟨G', acc, g, hh, hn, dva⟩ := w
      obtain ⟨d, hd, hv⟩ := dv.getV hi
      obtain ⟨σ2, hgt, hw, ht, he⟩ := hs i x d G' hd ((s1.trans g2.gg).trans g.gg) (hv.mono g.gg)
      have hlt : i < ds.length := (List.getElem?_eq_some_iff.mp hd).1
      exact hgt H' g.gh _ ⟨hw, lcw_turn hD g hh hn dva (Nat.lt_of_lt_of_le hlt hz) ht he⟩
    · rw [dv.length] at w
      obtain ⟨G', g, d⟩ := lcw_end hD w
      exact k _ G' H' (g2.trans g) d
theorem is_lcF {f : PyData → Bool} {o : PyData → PyData} (hl : Is tl σ G (dat (.list ds))) (hz : ds.length ≤ 100000)
    (hs : ∀ x d G1, d ∈ ds → Same G G1 → DV G1 x d → ∃ σ2, GT g x (wipe σ vs) G1 σ2 ∧ wipe σ2 vs = wipe σ vs ∧ IsT tt σ2 G1 (f d) ∧ (f d = true → Is te σ2 G1 (dat (o d)))) :
    Is (tLc (iList K tl) g tt te vs) σ G (dat (.list ((ds.filter f).map o))) := by
  rw [← outI_list]
  refine is_lcL hl hz fun i x d G1 hi s1 hv => ?_
  have e : ds.getD i .none = d := by rw [List.getD_eq_getElem?_getD, hi]; rfl
  simp only [e]
  exact hs x d G1 (List.mem_of_getElem? hi) s1 hv
theorem is_lcR {f : Nat → Bool} {o : Nat → PyData} {n : Nat} (hl : IsA ta σ G [dat (.int (n : Int))]) (hz : n ≤ 100000)
    (hs : ∀ i G1, i < n → Same G G1 → ∃ σ2, GT g (.int (i : Int)) (wipe σ vs) G1 σ2 ∧ wipe σ2 vs = wipe σ vs ∧ IsT tt σ2 G1 (f i) ∧ (f i = true → Is te σ2 G1 (dat (o i)))) :
    Is (tLc (iRng1 ta) g tt te vs) σ G (dat (.list (outI n f o))) := fun G1 H1 s1 s2 Q k =>
  hl G1 H1 s1 s2 _ fun us G2 H2 g2 px => by
    obtain ⟨v, r, rfl, hv, e⟩ := px
    cases (show r = [] from e)
    obtain rfl := (show DV G2 v (.int n) from hv).int_inv
    refine ⟨n, rfl, by omega, by omega, ?_⟩
    rw [Int.toNat_natCast]
    intro D hD
    refine lc_range (lo := 0) (n := n) (LcW G2 H2 D f o) (lcw_start g2.gh hD) (fun i H' hi w => ?_) (fun H' w => ?_)
    · obtain ⟨G', acc, g, hh, hn, dva⟩ := w
      obtain ⟨σ2, hgt, hw, ht, he⟩ := hs i G' hi ((s1.trans g2.gg).trans g.gg)
      rw [Int.zero_add]
      exact hgt H' g.gh _ ⟨hw, lcw_turn hD g hh hn dva (Nat.lt_of_lt_of_le hi hz) ht he⟩
    · obtain ⟨G', g, d⟩ := lcw_end hD w
      exact k _ G' H' (g2.trans g) d
/-- over enumerate: each turn's pair is a new tuple -/
theorem is_lcE {f : Nat → Bool} {o : Nat → PyData} (hl : IsA ta σ G [dat (.list ds)]) (hz : ds.length ≤ 100000)
    (hs : ∀ (i : Nat) x d T G1, ds[i]? = some d → Same G G1 → DV G1 x d → G1 T = some (.tup [.int (i : Int), x]) → ∃ σ2, GT g (.ref T) (wipe σ vs) G1 σ2 ∧ wipe σ2 vs = wipe σ vs ∧ IsT tt σ2 G1 (f i) ∧ (f i = true → Is te σ2 G1 (dat (o i)))) :
    Is (tLc (iEnum K ta) g tt te vs) σ G (dat (.list (outI ds.length f o))) := fun G1 H1 s1 s2 Q k =>
  hl G1 H1 s1 s2 _ fun us G2 H2 g2 px => by
    obtain ⟨v, r, rfl, hv, e⟩ := px
    cases (show r = [] from e)
    obtain ⟨a, xs, rfl, ha, dv⟩ := (show DV G2 v (.list ds) from hv).lst_inv
    refine ⟨a, xs, rfl, SqL.of (g2.gh _ _ ha), fun D hD => ?_⟩
    refine ⟨fun i m H' => m + i = ds.length ∧ LcW G2 H2 D f o i H', ⟨ds.length, by omega, lcw_start g2.gh hD⟩, fun i m H' ⟨hm, w⟩ => ?_⟩
    obtain ⟨G', acc, g, hh, hn, dva⟩ := id w
    have hS : SqL K H' a xs := SqL.of (g.gh _ _ (g.gg _ _ ha))
    by_cases hi : i < ds.length
    · right
      obtain ⟨d, hd⟩ : ∃ d, ds[i]? = some d := ⟨_, List.getElem?_eq_getElem hi⟩
      obtain ⟨x, hx, hv⟩ := dv.get hd
      refine ⟨⟨xs, x, hS, hx⟩, LcW G2 H2 D f o (i + 1), fun H3 w3 => ⟨m - 1, by omega, by omega, w3⟩, ?_⟩
      rintro _ H3 ⟨T, x', rfl, hT, rfl, hall⟩
      have ex : x' = x := Option.some.inj ((hall xs hS).symm.trans hx)
      subst ex
      have g3 : Gr0 G' H' (upd G' T (.tup [.int (i : Nat), x'])) (upd H' T (.tup [.int (i : Nat), x'])) := .new g.gh hT
      obtain ⟨σ2, hgt, hw, ht, he⟩ := hs i x' d T _ hd (((s1.trans g2.gg).trans g.gg).trans g3.gg) (hv.mono (g.gg.trans g3.gg)) upd_same
      exact hgt _ g3.gh _ ⟨hw, lcw_turn hD (g.trans g3) (g3.same _ _ hh) (g3.out hn hh) (dva.mono g3.gg) (Nat.lt_of_lt_of_le hi hz) ht he⟩
    · left
      refine ⟨⟨xs, hS, by rw [dv.length]; omega⟩, ?_⟩
      have hlen : i = ds.length := by omega
      rw [hlen] at w
      obtain ⟨G', g, d⟩ := lcw_end hD w
      exact k _ G' H' (g2.trans g) d
end
/-! ### statements -/
section
variable {K : PySem.W.Frag} {σ : St} {G G' H : Hp} {ta : TA} {tb te tl : TE} {tt t u : TT} {p q s : Pm} {v x y z : V} {b c : Bool} {d e : PyData} {ds es : List PyData} {g : TG} {vs : List Nat} {a : Addr} {i j k : Nat} {D : Ends} {t1 t2 t3 : TS}
theorem st_seq (h : t1 { D with nx := t2 D } σ H) : tSeq t1 t2 D σ H := h
theorem set_is (h : Is te σ G p) (s : Same G H) (k : ∀ v G2 H2, Gr0 G H G2 H2 → p.P v G2 → D.nx (σ.set i (some v)) H2) : tAsg te (gName i) D σ H := h G H (Same.refl _) s _ k
theorem asg_is (h : Is te σ G p) (s : Same G H) (k : ∀ v G2 H2, Gr0 G H G2 H2 → p.P v G2 → g v σ H2 D.nx) : tAsg te g D σ H := h G H (Same.refl _) s _ k
theorem ret_is (h : Is te σ G p) (s : Same G H) (k : ∀ v G2 H2, Gr0 G H G2 H2 → p.P v G2 → D.rt v H2) : tRet te D σ H := h G H (Same.refl _) s _ k
theorem drop_is (h : Is te σ G p) (s : Same G H) (k : ∀ v G2 H2, Gr0 G H G2 H2 → p.P v G2 → D.nx σ H2) : tDrop te D σ H := h G H (Same.refl _) s _ k
theorem if_is (h : IsT t σ G b) (s : Same G H) (k1 : b = true → ∀ G2 H2, Gr0 G H G2 H2 → t1 D σ H2) (k2 : b = false → ∀ G2 H2, Gr0 G H G2 H2 → t2 D σ H2) : tIfS t t1 t2 D σ H :=
  h G H (Same.refl _) s _ fun G2 H2 g => by
    cases b with
    | true => exact k1 rfl G2 H2 g
    | false => exact k2 rfl G2 H2 g
/-- a loop over a list of data -/
theorem for_dat (hl : Is tl σ G (dat (.list ds))) (s : Same G H) (Pv : Nat → St → Hp → Hp → Prop) (h0 : ∀ G1 H1, Gr0 G H G1 H1 → Pv 0 σ G1 H1)
    (hs : ∀ i x d σ' G' H', ds[i]? = some d → DV G' x d → Same G' H' → Same G G' → Pv i σ' G' H' → ∃ σ2, GT g x σ' G' σ2 ∧
      ∀ N : St → Hp → Prop, (∀ σ3 G3 H3, Same G' G3 → Same G3 H3 → Pv (i + 1) σ3 G3 H3 → N σ3 H3) → t1 { D with nx := N, ct := N, bk := D.nx } σ2 H')
    (hd : ∀ σ' G' H', Same G' H' → Same G G' → Pv ds.length σ' G' H' → D.nx σ' H') : tFor (iList K tl) g t1 D σ H :=
  hl G H (Same.refl _) s _ fun x G1 H1 g1 px => by
    obtain ⟨a, xs, rfl, ha, dv⟩ := px.lst_inv
    refine ⟨a, rfl, ⟨xs, SqL.of (g1.gh _ _ ha)⟩, ?_⟩
    refine for_list (K := K) (a := a) (xs := xs) (fun i σ' H' => ∃ G', Same G1 G' ∧ Same G' H' ∧ Pv i σ' G' H') ⟨G1, Same.refl _, g1.gh, h0 G1 H1 g1⟩ ?_ ?_ ?_
    · rintro i σ' H' _ ⟨G', z1, z2, _⟩
      exact SqL.of (z2 _ _ (z1 _ _ ha))
    · rintro i x σ' H' hi ⟨G', z1, z2, pv⟩
      obtain ⟨d, hd', hv⟩ := dv.getV hi
      obtain ⟨σ2, hgt, hN⟩ := hs i x d σ' G' H' hd' (hv.mono z1) z2 (g1.gg.trans z1) pv
      exact hgt H' z2 _ (hN _ fun σ3 G3 H3 y1 y2 pv3 => ⟨G3, z1.trans y1, y2, pv3⟩)
    · rintro σ' H' ⟨G', z1, z2, pv⟩
      rw [dv.length] at pv
      exact hd σ' G' H' z2 (g1.gg.trans z1) pv
theorem for_tdat (hl : Is tl σ G (dat (.tuple ds))) (s : Same G H) (Pv : Nat → St → Hp → Hp → Prop) (h0 : ∀ G1 H1, Gr0 G H G1 H1 → Pv 0 σ G1 H1)
    (hs : ∀ i x d σ' G' H', ds[i]? = some d → DV G' x d → Same G' H' → Same G G' → Pv i σ' G' H' → ∃ σ2, GT g x σ' G' σ2 ∧
      ∀ N : St → Hp → Prop, (∀ σ3 G3 H3, Same G' G3 → Same G3 H3 → Pv (i + 1) σ3 G3 H3 → N σ3 H3) → t1 { D with nx := N, ct := N, bk := D.nx } σ2 H')
    (hd : ∀ σ' G' H', Same G' H' → Same G G' → Pv ds.length σ' G' H' → D.nx σ' H') : tFor (iTup K tl) g t1 D σ H :=
  hl G H (Same.refl _) s _ fun x G1 H1 g1 px => by
    obtain ⟨a, xs, rfl, ha, dv⟩ := px.tup_inv
    refine ⟨a, rfl, ⟨xs, SqT.of (g1.gh _ _ ha)⟩, ?_⟩
    refine for_tup (K := K) (a := a) (xs := xs) (fun i σ' H' => ∃ G', Same G1 G' ∧ Same G' H' ∧ Pv i σ' G' H') ⟨G1, Same.refl _, g1.gh, h0 G1 H1 g1⟩ ?_ ?_ ?_
    · rintro i σ' H' _ ⟨G', z1, z2, _⟩
      exact SqT.of (z2 _ _ (z1 _ _ ha))
    · rintro i x σ' H' hi ⟨G', z1, z2, pv⟩
      obtain ⟨d, hd', hv⟩ := dv.getV hi
      obtain ⟨σ2, hgt, hN⟩ := hs i x d σ' G' H' hd' (hv.mono z1) z2 (g1.gg.trans z1) pv
      exact hgt H' z2 _ (hN _ fun σ3 G3 H3 y1 y2 pv3 => ⟨G3, z1.trans y1, y2, pv3⟩)
    · rintro σ' H' ⟨G', z1, z2, pv⟩
      rw [dv.length] at pv
      exact hd σ' G' H' z2 (g1.gg.trans z1) pv
theorem for_rng {n : Nat} (hl : IsA ta σ G [dat (.int (n : Int))]) (hz : n ≤ 100000) (s : Same G H) (Pv : Nat → St → Hp → Hp → Prop) (h0 : ∀ G1 H1, Gr0 G H G1 H1 → Pv 0 σ G1 H1)
    (hs : ∀ i σ' G' H', i < n → Same G' H' → Same G G' → Pv i σ' G' H' → ∃ σ2, GT g (.int (i : Int)) σ' G' σ2 ∧
      ∀ N : St → Hp → Prop, (∀ σ3 G3 H3, Same G' G3 → Same G3 H3 → Pv (i + 1) σ3 G3 H3 → N σ3 H3) → t1 { D with nx := N, ct := N, bk := D.nx } σ2 H')
    (hd : ∀ σ' G' H', Same G' H' → Same G G' → Pv n σ' G' H' → D.nx σ' H') : tFor (iRng1 ta) g t1 D σ H :=
  hl G H (Same.refl _) s _ fun us G1 H1 g1 px => by
    obtain ⟨v, r, rfl, hv, e⟩ := px
    cases (show r = [] from e)
    obtain rfl := (show DV G1 v (.int n) from hv).int_inv
    refine ⟨n, rfl, by omega, by omega, ?_⟩
    rw [Int.toNat_natCast]
    refine for_range (lo := 0) (n := n) (fun i σ' H' => ∃ G', Same G1 G' ∧ Same G' H' ∧ Pv i σ' G' H') ⟨G1, Same.refl _, g1.gh, h0 G1 H1 g1⟩ ?_ ?_
    · rintro i σ' H' hi ⟨G', z1, z2, pv⟩
      obtain ⟨σ2, hgt, hN⟩ := hs i σ' G' H' hi z2 (g1.gg.trans z1) pv
      rw [Int.zero_add]
      exact hgt H' z2 _ (hN _ fun σ3 G3 H3 y1 y2 pv3 => ⟨G3, z1.trans y1, y2, pv3⟩)
    · rintro σ' H' ⟨G', z1, z2, pv⟩
      exact hd σ' G' H' z2 (g1.gg.trans z1) pv
/-- over enumerate -/
theorem for_enm (hl : IsA ta σ G [dat (.list ds)]) (s : Same G H) (Pv : Nat → St → Hp → Hp → Prop) (h0 : ∀ G1 H1, Gr0 G H G1 H1 → Pv 0 σ G1 H1)
    (mono : ∀ i σ' G' H' G3 H3, Pv i σ' G' H' → Gr0 G' H' G3 H3 → Pv i σ' G3 H3)
    (hs : ∀ (i : Nat) x d T σ' G' H', ds[i]? = some d → DV G' x d → G' T = some (.tup [.int (i : Int), x]) → Same G' H' → Same G G' → Pv i σ' G' H' → ∃ σ2, GT g (.ref T) σ' G' σ2 ∧
      ∀ N : St → Hp → Prop, (∀ σ3 G3 H3, Same G' G3 → Same G3 H3 → Pv (i + 1) σ3 G3 H3 → N σ3 H3) → t1 { D with nx := N, ct := N, bk := D.nx } σ2 H')
    (hd : ∀ σ' G' H', Same G' H' → Same G G' → Pv ds.length σ' G' H' → D.nx σ' H') : tFor (iEnum K ta) g t1 D σ H :=
  hl G H (Same.refl _) s _ fun us G1 H1 g1 px => by
    obtain ⟨v, r, rfl, hv, e⟩ := px
    cases (show r = [] from e)
    obtain ⟨a, xs, rfl, ha, dv⟩ := (show DV G1 v (.list ds) from hv).lst_inv
    refine ⟨a, xs, rfl, SqL.of (g1.gh _ _ ha), ?_⟩
    refine ⟨fun i m σ' H' => m + i = ds.length ∧ ∃ G', Same G1 G' ∧ Same G' H' ∧ Pv i σ' G' H', ⟨ds.length, by omega, G1, Same.refl _, g1.gh, h0 G1 H1 g1⟩, ?_⟩
    rintro i m σ' H' ⟨hm, G', z1, z2, pv⟩
    have hS : SqL K H' a xs := SqL.of (z2 _ _ (z1 _ _ ha))
    by_cases hi : i < ds.length
    · right
      obtain ⟨d, hd'⟩ : ∃ d, ds[i]? = some d := ⟨_, List.getElem?_eq_getElem hi⟩
      obtain ⟨x, hx, hv⟩ := dv.get hd'
      refine ⟨⟨xs, x, hS, hx⟩, fun σ3 H3 => ∃ G3, Same G1 G3 ∧ Same G3 H3 ∧ Pv (i + 1) σ3 G3 H3, fun σ3 H3 w3 => ⟨m - 1, by omega, by omega, w3⟩, ?_⟩
      rintro _ H3 ⟨T, x', rfl, hT, rfl, hall⟩
      have ex : x' = x := Option.some.inj ((hall xs hS).symm.trans hx)
      subst ex
      have g3 : Gr0 G' H' (upd G' T (.tup [.int (i : Nat), x'])) (upd H' T (.tup [.int (i : Nat), x'])) := .new z2 hT
      obtain ⟨σ2, hgt, hN⟩ := hs i x' d T σ' _ _ hd' (hv.mono (z1.trans g3.gg)) upd_same g3.gh ((g1.gg.trans z1).trans g3.gg) (mono _ _ _ _ _ _ pv g3)
      exact hgt _ g3.gh _ (hN _ fun σ3 G3 H3 y1 y2 pv3 => ⟨G3, (z1.trans g3.gg).trans y1, y2, pv3⟩)
    · left
      refine ⟨⟨xs, hS, by rw [dv.length]; omega⟩, ?_⟩
      have hlen : i = ds.length := by omega
      rw [hlen] at pv
      exact hd σ' G' H' z2 (g1.gg.trans z1) pv
end
/-! ### promises of defs that change nothing -/
def PureSp (pre : List V → Hp → Pm → Prop) : Sp := fun vs H Q _ => ∃ G p, Same G H ∧ pre vs G p ∧ ∀ v G2 H2, Gr0 G H G2 H2 → p.P v G2 → Q v H2
theorem is_call {σ : St} {G : Hp} {ta : TA} {ps : List Pm} {s : Pm} {E : XK} {pre : List V → Hp → Pm → Prop} (h : IsA ta σ G ps) (hp : ∀ vs G1, Same G G1 → AllP ps vs G1 → pre vs G1 s) : Is (tCall (PureSp pre) [] E ta) σ G s := fun G1 H1 s1 s2 Q k =>
  h G1 H1 s1 s2 _ fun vs G2 H2 g2 pv => by
    rw [List.append_nil]
    exact ⟨G2, s, g2.gh, hp vs G2 (s1.trans g2.gg) pv, fun v G3 H3 g3 p3 => k v G3 H3 (g2.trans g3) p3⟩
/-- where a def stands, with its promise -/
def Has (P : Program) (w : World) (K : PySem.W.Frag) (mg : Str → Option Value) (base : Heap) (CX : CXT) (k : Nat) (x : Str) (ps : List Str) (sp : Sp) : Prop :=
  ∃ f fd, FnOk P w K mg base CX k f fd ps sp ∧ mg x = some (.ref f) ∧ PySem.W.keepIn K (.ref f) = true ∧ Binds K fd ps []
theorem pe_callH {X : Cx} {CX : CXT} {k : Nat} {ps : List Str} {sp : Sp} {E : XK} {x : Str} {p pos : Pos} {e : Expr} {es : List Expr} {t : TA} (F : Has X.prog X.w X.K X.mg X.base CX k x ps sp) (hr : Room k X.A) (hx : Passes CX X E) (ha : PA X (e :: es) t)
    (hg : Gl X x := by rfl) (hdb : (x == ("__debug__" : Str)) = false := by decide) (he : starEach (e :: es) X.env = (false, eval e X.env) :: starEach es X.env := by rfl) (hpl : (backTo pos (starEach es X.env)).any (·.1) = false := by rfl) :
    PE X (.Call (.Name x p) (e :: es) [] pos) (tCall sp [] E t) := by
  obtain ⟨f, fd, F, hm, hk, hb⟩ := F
  exact pe_call F hr hg hm hk hb .nil hx ha hdb he hpl
end Yd
set_option Elab.async false
set_option linter.all false
set_option maxRecDepth 100000
set_option maxHeartbeats 4000000
/-! operators over several kinds of values; isinstance; more rules -/
namespace Yd
open PySem PySem.Spec L2
abbrev rAddI : R2 := rI0 fun i j => .int (i + j)
abbrev rAddS : R2 := fun x y H Q => ∃ i j, x = .str i ∧ y = .str j ∧ i.length + j.length ≤ sizeLine ∧ Q (.str (i ++ j)) H
abbrev rAddU : R2 := fun x y H Q => rAddI x y H Q ∨ (rCat x y H Q ∨ rAddS x y H Q)
abbrev rMulI : R2 := rI CMulX fun i j => .int (i * j)
abbrev rMulU : R2 := fun x y H Q => rMulI x y H Q ∨ rRep x y H Q
def CPowU (i j : Int) : Prop := 0 ≤ j ∧ (Builtin.Int.intBits i : Int) * j ≤ 2 ^ 27
section
variable {X : Cx}
theorem op_addU : OpR X (binaryOp .Add) rAddU := OpR.or op_add (OpR.or op_cat op_add_str)
theorem op_mulU : OpR X (binaryOp .Mult) rMulU := OpR.or op_mulX op_rep
theorem op_powU : OpR X (binaryOp .Pow) (rI CPowU fun i j => .int (i ^ j.toNat)) := opI fun i j t u s Q E hc q => PyProof.Rows.pow_int hc.1 hc.2 q
end
section
variable {K : PySem.W.Frag} {G : Hp} {ds es : List PyData} {d : PyData} {p q s : Pm} {r r' : R2} {i j : Int}
theorem ri_inl (h : RI r p q G s) : RI (fun x y H Q => r x y H Q ∨ r' x y H Q) p q G s := fun x y G1 H1 s1 s2 px py Q k => .inl (h x y G1 H1 s1 s2 px py Q k)
theorem ri_inr (h : RI r' p q G s) : RI (fun x y H Q => r x y H Q ∨ r' x y H Q) p q G s := fun x y G1 H1 s1 s2 px py Q k => .inr (h x y G1 H1 s1 s2 px py Q k)
theorem ri_addI : RI rAddU (dat (.int i)) (dat (.int j)) G (dat (.int (i + j))) := ri_inl (ri_I (g := fun i j => i + j))
theorem ri_addL (hz : ds.length + es.length ≤ 100000) : RI rAddU (dat (.list ds)) (dat (.list es)) G (dat (.list (ds ++ es))) := ri_inr (ri_inl (ri_cat hz))
theorem ri_addS {x y : Str} (hz : x.length + y.length ≤ sizeLine) : RI rAddU (dat (.str x)) (dat (.str y)) G (dat (.str (x ++ y))) := fun u v G1 H1 s1 s2 px py Q k =>
  .inr (.inr ⟨x, y, px.str_inv, py.str_inv, hz, k _ G1 H1 (.refl s2) (.str _)⟩)
theorem ri_mulI (h : CMulX i j) : RI rMulU (dat (.int i)) (dat (.int j)) G (dat (.int (i * j))) := ri_inl (ri_C h)
theorem DVs.rep {G : Hp} {vs : List V} (h : DVs G vs ds) : ∀ k : Nat, DVs G (List.replicate k vs).flatten (List.replicate k ds).flatten
  | 0 => .nil
  | k + 1 => by
    rw [List.replicate_succ, List.replicate_succ, List.flatten_cons, List.flatten_cons]
    exact h.append (DVs.rep h k)
theorem ri_mulL {k : Nat} (hz : ds.length * k ≤ 100000) (hk : k ≤ 100000) : RI rMulU (dat (.list ds)) (dat (.int (k : Int))) G (dat (.list (List.replicate k ds).flatten)) := fun x y G1 H1 s1 s2 px py Q kk => by
  obtain ⟨a, xs, rfl, ha, dv⟩ := px.lst_inv
  refine .inr ⟨a, k, xs, rfl, py.int_inv, s2 _ _ ha, by omega, by omega, ?_, fun l hl => ?_⟩
  · rw [Int.toNat_natCast, dv.length]; exact sz_of hz
  · rw [Int.toNat_natCast]
    have g : Gr0 G1 H1 (upd G1 l (.lst (List.replicate k xs).flatten)) (upd H1 l (.lst (List.replicate k xs).flatten)) := .new s2 hl
    exact kk _ _ _ g (.lst upd_same ((dv.rep k).mono g.gg))
def isNoneD : PyData → Bool
  | .none => true
  | _ => false
theorem DV.isNone {v : V} (h : DV G v d) : decide (v = V.non) = isNoneD d := by cases h <;> simp [isNoneD]
theorem ri_isN : RI (fun x y H Q => y = .non ∧ Q (.bl (decide (x = .non))) H) (dat d) (dat .none) G (dat (.bool (isNoneD d))) := fun x y G1 H1 s1 s2 px py Q k =>
  ⟨py.non_inv, k _ G1 H1 (.refl s2) (DV.isNone px ▸ .bl _)⟩
theorem ri_notN : RI (fun x y H Q => y = .non ∧ Q (.bl (!decide (x = .non))) H) (dat d) (dat .none) G (dat (.bool (!isNoneD d))) := fun x y G1 H1 s1 s2 px py Q k =>
  ⟨py.non_inv, k _ G1 H1 (.refl s2) (DV.isNone px ▸ .bl _)⟩
theorem is_rev {σ : St} {te : TE} (h : Is te σ G (dat (.list ds))) : Is (tRevL K te) σ G (dat (.list ds.reverse)) := fun G1 H1 s1 s2 Q k =>
  h G1 H1 s1 s2 _ fun x G2 H2 g2 px => by
    obtain ⟨a, xs, rfl, ha, dv⟩ := px.lst_inv
    refine ⟨a, xs, rfl, SqL.of (g2.gh _ _ ha), fun l hl => ?_⟩
    have g : Gr0 G2 H2 (upd G2 l (.lst xs.reverse)) (upd H2 l (.lst xs.reverse)) := .new g2.gh hl
    exact k _ _ _ (g2.trans g) (.lst upd_same (dv.rev.mono g.gg))
end
section
variable {σ : St} {G : Hp} {i : Nat} {v : V} {d : PyData}
theorem is_d (h : σ[i]? = some (some v)) (hv : DV G v d) : Is (tVar i) σ G (dat d) := is_var h hv
theorem is_int (n : Int) : Is (tC (.int n)) σ G (dat (.int n)) := is_c (p := dat (.int n)) (.int n)
theorem is_str (x : Str) : Is (tC (.str x)) σ G (dat (.str x)) := is_c (p := dat (.str x)) (.str x)
theorem is_bl (b : Bool) : Is (tC (.bl b)) σ G (dat (.bool b)) := is_c (p := dat (.bool b)) (.bl b)
theorem is_non : Is (tC .non) σ G (dat .none) := is_c (p := dat .none) .non
theorem is_ty (n : String) : Is (tC (.ty n)) σ G (val (.ty n)) := is_c (p := val (.ty n)) rfl
end
/-! ### isinstance of data -/
def tyN : PyData → String
  | .none => "NoneType"
  | .bool _ => "bool"
  | .int _ => "int"
  | .str _ => "str"
  | .list _ => "list"
  | .tuple _ => "tuple"
  | .dict _ => "dict"
theorem DV.ty {K : PySem.W.Frag} {G H : Hp} (s : Same G H) {v : V} {d : PyData} (h : DV G v d) : TyX K H v (.type (tyN d)) := by
  cases h with
  | non => exact .base .non
  | bl b => exact .base (.bl b)
  | int i => exact .base (.int i)
  | str x => exact .base (.str x)
  | lst h _ => exact .base (.lst (s _ _ h))
  | tup h _ => exact .base (.tup (s _ _ h))
  | dic h => exact .base (.dK (s _ _ h))
def isTy (d : PyData) (n : String) : Bool := (kitB (tyN d) n).getD false
section
variable {K : PySem.W.Frag} {G : Hp} {d : PyData}
theorem rc_isi {n : String} (h : kitB (tyN d) n = some (isTy d n)) : RC (rIsi K) [dat d, val (.ty n)] G (dat (.bool (isTy d n))) := fun vs G1 H1 s1 s2 pv Q k => by
  obtain ⟨v, r, rfl, hv, u, r2, rfl, hu, e⟩ := pv
  cases (show r2 = [] from e)
  obtain rfl : u = V.ty n := hu
  exact ⟨v, .ty n, _, .type n, _, rfl, .ty n, DV.ty s2 hv, kit_ty h, k _ G1 H1 (.refl s2) (.bl _)⟩
def tyNs : List String := ["NoneType", "bool", "int", "str", "list", "tuple", "dict"]
theorem tyN_mem (d : PyData) : tyN d ∈ tyNs := by cases d <;> simp [tyN, tyNs]
theorem some_getD {o : Option Bool} (h : o.isSome = true) : o = some (o.getD false) := by cases o with
  | none => cases h
  | some b => rfl
theorem kb_of {n : String} (h : (tyNs.all fun t => (kitB t n).isSome) = true) (d : PyData) : kitB (tyN d) n = some (isTy d n) := some_getD (List.all_eq_true.mp h _ (tyN_mem d))
theorem kb_int (d : PyData) : kitB (tyN d) "int" = some (isTy d "int") := kb_of (by decide +kernel) d
theorem kb_bool (d : PyData) : kitB (tyN d) "bool" = some (isTy d "bool") := kb_of (by decide +kernel) d
theorem kb_str (d : PyData) : kitB (tyN d) "str" = some (isTy d "str") := kb_of (by decide +kernel) d
theorem kb_list (d : PyData) : kitB (tyN d) "list" = some (isTy d "list") := kb_of (by decide +kernel) d
theorem kb_tuple (d : PyData) : kitB (tyN d) "tuple" = some (isTy d "tuple") := kb_of (by decide +kernel) d
theorem is_of {n : String} {p : String → Bool} (h : (tyNs.all fun t => (kitB t n).getD false == p t) = true) (d : PyData) : isTy d n = p (tyN d) := eq_of_beq (List.all_eq_true.mp h _ (tyN_mem d))
theorem isTy_int (d : PyData) : isTy d "int" = (decide (tyN d = "int") || decide (tyN d = "bool")) := is_of (p := fun t => decide (t = "int") || decide (t = "bool")) (by decide +kernel) d
theorem isTy_bool (d : PyData) : isTy d "bool" = decide (tyN d = "bool") := is_of (p := fun t => decide (t = "bool")) (by decide +kernel) d
theorem isTy_str (d : PyData) : isTy d "str" = decide (tyN d = "str") := is_of (p := fun t => decide (t = "str")) (by decide +kernel) d
theorem isTy_list (d : PyData) : isTy d "list" = decide (tyN d = "list") := is_of (p := fun t => decide (t = "list")) (by decide +kernel) d
theorem isTy_tuple (d : PyData) : isTy d "tuple" = decide (tyN d = "tuple") := is_of (p := fun t => decide (t = "tuple")) (by decide +kernel) d
end
/-! ### repr of data -/
theorem DV.reads {X : Cx} {pins : List (Addr × Obj)} {σ : St} {G H : Hp} {s : Shared} (I : Inv X pins σ H s) (z : Same G H) : ∀ (d : PyData) (v : V) (u : Value), d.hasDict = false → DV G v d → RelV v u → ∃ as, Reads s.heap u d as
  | d, v, u, n, h, r => Dp.reads I d v u (DV.dp z h n) r
theorem dic_reads {X : Cx} {pins : List (Addr × Obj)} {σ : St} {G H : Hp} {s : Shared} (I : Inv X pins σ H s) (z : Same G H) {a : Addr} (h : G a = some (.dK [])) : Reads s.heap (.ref a) (.dict []) [a] ∧ sysModules ≠ a := by
  obtain ⟨_, hs, vs, kv, o, es, ep, e, ex, hd, _, hp, _⟩ := I.hok a _ (z _ _ h)
  have ev : vs = [] := by cases kv; rfl
  subst ev
  have ees : es.toList = [] := by
    cases q : es.toList with
    | nil => rfl
    | cons x l => rw [q] at hp; cases hp
  refine ⟨.dict (kvs := []) (as := []) (bs := []) e ex.1 hd ?_ ?_, fun q => ?_⟩
  · rw [ees]; exact .nil
  · rw [ees]; exact .nil
  · subst q
    simp at hs
/-- repr of a list or tuple of data without dicts, of None, of a list that holds an empty dict alone -/
def rReprD : List V → Hp → VK → Prop := fun xs H Q => ∃ x d G, xs = [x] ∧ Same G H ∧ DV G x d ∧ d.showable = true ∧ d.depth ≤ 64 ∧ d.shown.length ≤ sizeLine ∧ (d = .none ∨ ((∃ ds, d = .list ds) ∧ d.hasDict = false) ∨ d = .list [.dict []]) ∧ Q (.str d.shown) H
theorem call_reprD {X : Cx} (hg : X.A.guards = some []) (hu : X.A.units + 70 < cLine) : CallR X (.builtin "repr") rReprD := by
  intro pins s σ H xs us Q I r h
  obtain ⟨x, d, G, rfl, z, hv, hsh, hdp, hsz, hk, q⟩ := h
  obtain ⟨u, rfl, rx⟩ := vals1 r
  rcases hk with rfl | ⟨⟨ds, rfl⟩, hn⟩ | rfl
  · cases hv
    cases rx
    refine P.repr_of_none ?_
    have e : PyData.shown .none = "None" := by simp [PyData.shown]
    exact ⟨.str _, H, I.tok _, ⟨_, rfl⟩, e ▸ q⟩
  · obtain ⟨as, rd⟩ := DV.reads I z _ _ _ hn hv rx
    cases hv
    cases rx
    exact repr_of_reads' rd hsh (fun e => by rw [hn] at e; cases e) hg (by omega) (fun _ _ e => e) (fun h' u tk k => ⟨.str _, H, I.kept k, ⟨_, rfl⟩, q⟩) hsz
  · obtain ⟨a, xs, rfl, ha, dv⟩ := hv.lst_inv
    cases rx
    cases dv with
    | cons hd hnil =>
      cases hnil
      cases hd with
      | dic hb =>
        rename_i b
        obtain ⟨rb, nb⟩ := dic_reads I z hb
        obtain ⟨its, n, rv, e, _⟩ := I.lst (z _ _ ha)
        obtain ⟨v1, rfl, r1⟩ := rv.one
        cases r1
        have h4 : ReadsAll s.heap [.ref b] [.dict []] ([b] ++ []) := .cons rb .nil
        have rl : Reads s.heap (.ref a) (.list [.dict []]) (a :: ([b] ++ [])) := .list e rfl rfl h4
        have hz' : (listText (PyData.shownAll [.dict []])).length ≤ sizeLine := by simpa only [PyData.shown] using hsz
        obtain ⟨bs, hbs, hk⟩ := ReprAllK.of_readsAll (prog := X.prog) (w := X.w) h4 (by simpa [PyData.showable] using hsh) (fun _ hm => nb (by simpa using hm)) (fun t ht => Nat.le_trans (listText_mem_le ht) hz')
        have hna : a ∉ bs := not_mem_of_deeper rl (by simp only [PyData.depth]; omega) hbs
        have hd1 : PyData.depthAll [.dict []] ≤ 1 := by simp [PyData.depthAll, PyData.depth, PyData.depthKv]
        refine call_repr_slot (T := "list") (idr := "list.__repr__") (by omega) ⟨_, e, rfl⟩ F.slot_list_repr.toG ?_
        refine call_list_reprK (g := []) e rfl rfl hna (by simpa using hk.length_eq) (fun i y e => hk.item i y (by simpa using e)) hg (fun b _ => Clear.nil b) (by show X.A.units + 1 + (PyData.depthAll [.dict []] + 1) < cLine; omega) (fun _ _ e => e) (fun h' u tk k => ⟨_, _, rfl, .str _, H, I.kept k, ⟨_, rfl⟩, ?_⟩) hz'
        simpa only [PyData.shown] using q
end Yd
set_option Elab.async false
set_option linter.all false
set_option maxRecDepth 100000
set_option maxHeartbeats 4000000
/-! the text by places; what the top leaves -/
namespace Yd
open PySem PySem.Spec L2
def top (i : Nat) : Stmt := PySem.Challenge.pw_barsanddyes_k55_whole_road_dyes.main.body.getD i (.Pass ⟨0, 0, 0, 0⟩)
def fd0 (x : Str) (i : Nat) : He.DefD := ⟨(x, none), x, x, defArgs (top i), defBody (top i), defScope (top i), [], []⟩
def fdM (c m q : Str) (i j : Nat) (dfl : List He.Dv) : He.DefD := ⟨(c, some m), m, q, defArgs (inClass (top i) j), defBody (inClass (top i) j), defScope (inClass (top i) j), dfl, []⟩

def fn : List He.DefD := [fd0 "is_kind" 11, fd0 "is_whole" 12, fd0 "is_count" 13, fd0 "is_place" 14, fd0 "is_road" 15, fd0 "is_road_within" 16, fd0 "are_places" 17, fd0 "check_kind" 18, fd0 "check_place" 19, fd0 "are_roads" 22, fd0 "ends_by" 23, fd0 "check_web" 24, fd0 "led" 25, fd0 "is_leading" 26, fd0 "lines_of" 28, fd0 "web_of_lines" 29, fd0 "all_ahead" 30, fd0 "all_behind" 31, fd0 "closed_pairs" 32, fd0 "pairs" 33, fd0 "web_of_pairs" 34, fd0 "road_dyes" 35, fd0 "check_dyed" 36, fd0 "dyed_on" 37, fd0 "dyed_back" 38, fd0 "_law_purse" 40, fd0 "_law_mixed" 41, fd0 "_law_draw" 42, fd0 "_law_purses" 43, fd0 "_law_one_of" 44, fd0 "_law_shuffled" 45, fd0 "_law_word" 46, fd0 "_law_kinds_of" 47, fd0 "_law_roads" 48, fd0 "_law_leads" 49, fd0 "_law_leadings" 50, fd0 "_law_pieces_of" 51, fd0 "_law_thinned" 52, fd0 "_law_piece_led" 53, fd0 "_law_led" 54, fd0 "_law_small_web" 55, fd0 "_law_object" 56, fd0 "_law_lots" 57, fd0 "_law_line_web" 58, fd0 "_law_pairs_of" 59, fd0 "_law_pair_web" 60, fd0 "_law_is_leading" 61, fd0 "_law_odd_lists" 62, fd0 "_law_caught" 63, fd0 "_law_way_right" 64, fd0 "_law_kinds_right" 65, fd0 "law" 66,
  fdM "Web" "__init__" "Web.__init__" 21 0 [], fdM "Web" "size" "Web.size" 21 1 [], fdM "Web" "roads" "Web.roads" 21 2 [], fdM "Web" "__eq__" "Web.__eq__" 21 9 []]
def fa : List He.Fa := [.glo "is_kind", .glo "is_whole", .glo "is_count", .glo "is_place", .glo "is_road", .glo "is_road_within", .glo "are_places", .glo "check_kind", .glo "check_place", .glo "are_roads", .glo "ends_by", .glo "check_web", .glo "led", .glo "is_leading", .glo "lines_of", .glo "web_of_lines", .glo "all_ahead", .glo "all_behind", .glo "closed_pairs", .glo "pairs", .glo "web_of_pairs", .glo "road_dyes", .glo "check_dyed", .glo "dyed_on", .glo "dyed_back", .glo "_law_purse", .glo "_law_mixed", .glo "_law_draw", .glo "_law_purses", .glo "_law_one_of", .glo "_law_shuffled", .glo "_law_word", .glo "_law_kinds_of", .glo "_law_roads", .glo "_law_leads", .glo "_law_leadings", .glo "_law_pieces_of", .glo "_law_thinned", .glo "_law_piece_led", .glo "_law_led", .glo "_law_small_web", .glo "_law_object", .glo "_law_lots", .glo "_law_line_web", .glo "_law_pairs_of", .glo "_law_pair_web", .glo "_law_is_leading", .glo "_law_odd_lists", .glo "_law_caught", .glo "_law_way_right", .glo "_law_kinds_right", .glo "law", .glo "Web", .glo "InvalidLeading", .cls "Web", .mkr "Web", .meth "Web" "size", .meth "Web" "roads", .noat "Web" "many", .noat "Web" "lines", .noat "Web" "fore", .noat "Web" "back", .free "len", .free "range", .free "isinstance", .free "list", .free "set", .free "sorted", .free "repr", .free "sum", .free "max", .free "min", .free "int", .free "tuple", .free "dict", .free "enumerate", .free "str", .free "bool", .str "LETTERS" "abcdefghijklmnopqrstuvwxyz"]

/-- what the walk knows of the top -/
structure Tx (K : PySem.W.Frag) (mg : Str → Option Value) : Prop where
  c : He.SaysD fa fn K
  h : ∃ h : Heap, K.In h ∧ h.Ns mainGlobals mg
  ca : PySem.W.findIn K (.ref (He.ga K "Web")) "__class__" = some (some (.builtin "object.__class__"))
  cn : PySem.W.specialIn K (.builtin "object.__class__") "__get__" = some (some (.builtin "getset_descriptor.__get__"))
  ct : PySem.W.takesIn K (.builtin "object.__class__") = some true
  cm : PySem.W.mroIn K (He.ga K "Web") (.type "object") = some true
section
variable {P : Program} {w : World} {K : PySem.W.Frag} {mg : Str → Option Value} {base : Heap}
theorem Tx.gloI (T : Tx K mg) (i : Nat) {x : Str} (h : fa[i]? = some (.glo x) := by rfl) : mg x = some (.ref (He.ga K x)) := by
  obtain ⟨_, X, G⟩ := T.h
  exact He.glo_ok X G (T.c.fact i h)
theorem Tx.freeI (T : Tx K mg) (i : Nat) {x : Str} (h : fa[i]? = some (.free x) := by rfl) : mg x = none := by
  obtain ⟨_, X, G⟩ := T.h
  exact He.free_ok X G (T.c.fact i h)
def isFree (x : Str) : He.Fa → Bool
  | .free y => decide (y = x)
  | _ => false
theorem Tx.free (T : Tx K mg) (x : Str) (h : (fa.any (isFree x)) = true := by decide +kernel) : mg x = none := by
  obtain ⟨f, hf, e⟩ := List.any_eq_true.mp h
  cases f with
  | free y =>
    have ey : y = x := of_decide_eq_true e
    subst ey
    obtain ⟨i, hi⟩ := List.mem_iff_getElem?.mp hf
    exact T.freeI i hi
  | _ => cases e
theorem Tx.cls (T : Tx K mg) : Cls K (He.ga K "Web") := He.cls_ok (T.c.fact 54 (f := .cls "Web") rfl)
theorem Tx.mkW (T : Tx K mg) : Mk K (He.ga K "Web") (He.ma K (He.ga K "Web") "__init__") := He.mkr_ok (T.c.fact 55 (f := .mkr "Web") rfl)
theorem Tx.size (T : Tx K mg) : Meth K (He.ga K "Web") "size" (He.ma K (He.ga K "Web") "size") := He.meth_ok (T.c.fact 56 (f := .meth "Web" "size") rfl)
theorem Tx.roads (T : Tx K mg) : Meth K (He.ga K "Web") "roads" (He.ma K (He.ga K "Web") "roads") := He.meth_ok (T.c.fact 57 (f := .meth "Web" "roads") rfl)
theorem Tx.many (T : Tx K mg) : NoAttr K (He.ga K "Web") "many" := He.noat_ok (T.c.fact 58 (f := .noat "Web" "many") rfl)
theorem Tx.lines (T : Tx K mg) : NoAttr K (He.ga K "Web") "lines" := He.noat_ok (T.c.fact 59 (f := .noat "Web" "lines") rfl)
theorem Tx.fore (T : Tx K mg) : NoAttr K (He.ga K "Web") "fore" := He.noat_ok (T.c.fact 60 (f := .noat "Web" "fore") rfl)
theorem Tx.back (T : Tx K mg) : NoAttr K (He.ga K "Web") "back" := He.noat_ok (T.c.fact 61 (f := .noat "Web" "back") rfl)
theorem Tx.gWeb (T : Tx K mg) : mg "Web" = some (.ref (He.ga K "Web")) := T.gloI 52
theorem Tx.has (T : Tx K mg) {CX : CXT} {k : Nat} {x : Str} {n : Nat} {ps : List Str} {sp : Sp} (i : Nat)
    (F : ∀ fd, FunD K x x (defArgs (top n)) (defBody (top n)) (defScope (top n)) [] [] (He.ga K x) fd → FnOk P w K mg base CX k (He.ga K x) fd ps sp)
    (b : ∀ fd, FunD K x x (defArgs (top n)) (defBody (top n)) (defScope (top n)) [] [] (He.ga K x) fd → Binds K fd ps [])
    (h : fn[i]? = some (fd0 x n) := by rfl) (h2 : fa[i]? = some (.glo x) := by rfl) : Has P w K mg base CX k x ps sp := by
  obtain ⟨fd, F0⟩ := T.c.def_ i h
  have F1 : FunD K x x (defArgs (top n)) (defBody (top n)) (defScope (top n)) [] [] (He.ga K x) fd := F0
  exact ⟨_, fd, F fd F1, T.gloI i h2, F1.kp, b fd F1⟩
/-- a method of Web -/
def HasM (P : Program) (w : World) (K : PySem.W.Frag) (mg : Str → Option Value) (base : Heap) (CX : CXT) (k : Nat) (m : Str) (ps : List Str) (sp : Sp) : Prop :=
  ∃ fd, FnOk P w K mg base CX k (He.ma K (He.ga K "Web") m) fd ps sp ∧ Binds K fd ps []
theorem Tx.hasM (T : Tx K mg) {CX : CXT} {k : Nat} {m q : Str} {j : Nat} {ps : List Str} {sp : Sp} (i : Nat)
    (F : ∀ fd, FunD K m q (defArgs (inClass (top 21) j)) (defBody (inClass (top 21) j)) (defScope (inClass (top 21) j)) [] [] (He.ma K (He.ga K "Web") m) fd → FnOk P w K mg base CX k (He.ma K (He.ga K "Web") m) fd ps sp)
    (b : ∀ fd, FunD K m q (defArgs (inClass (top 21) j)) (defBody (inClass (top 21) j)) (defScope (inClass (top 21) j)) [] [] (He.ma K (He.ga K "Web") m) fd → Binds K fd ps [])
    (h : fn[i]? = some (fdM "Web" m q 21 j []) := by rfl) : HasM P w K mg base CX k m ps sp := by
  obtain ⟨fd, F0⟩ := T.c.def_ i h
  have F1 : FunD K m q (defArgs (inClass (top 21) j)) (defBody (inClass (top 21) j)) (defScope (inClass (top 21) j)) [] [] (He.ma K (He.ga K "Web") m) fd := F0
  exact ⟨fd, F fd F1, b fd F1⟩
def isStr (x z : Str) : He.Fa → Bool
  | .str y u => decide (y = x) && decide (u = z)
  | _ => false
theorem Tx.letters (T : Tx K mg) : ∃ t, mg "LETTERS" = some (.str "abcdefghijklmnopqrstuvwxyz" t) := by
  have h : (fa.any (isStr "LETTERS" "abcdefghijklmnopqrstuvwxyz")) = true := by decide +kernel
  obtain ⟨f, hf, e⟩ := List.any_eq_true.mp h
  cases f with
  | str y u =>
    have ey := Bool.and_eq_true_iff.mp e
    have e1 : y = "LETTERS" := of_decide_eq_true ey.1
    have e2 : u = "abcdefghijklmnopqrstuvwxyz" := of_decide_eq_true ey.2
    subst e1 e2
    obtain ⟨i, hi⟩ := List.mem_iff_getElem?.mp hf
    obtain ⟨_, X, G⟩ := T.h
    exact He.str_ok X G (T.c.fact i hi)
  | _ => cases e
end
end Yd
set_option Elab.async false
set_option linter.all false
set_option maxRecDepth 100000
set_option maxHeartbeats 4000000
/-! plain facts of data -/
namespace Yd
open PySem PySem.Spec L2
/-- no dict within, no deeper than n -/
def Sd (n : Nat) (d : PyData) : Prop := d.canLay0 = true ∧ d.depth ≤ n
theorem Sd.up {n m : Nat} {d : PyData} (h : Sd n d) (hm : n ≤ m) : Sd m d := ⟨h.1, Nat.le_trans h.2 hm⟩
theorem Sd.sh {n : Nat} {d : PyData} (h : Sd n d) (hn : n ≤ 64 := by decide) : SeqAt.shaped d = true := by
  unfold SeqAt.shaped
  rw [Bool.and_eq_true_iff]
  exact ⟨h.1, decide_eq_true (Nat.le_trans h.2 hn)⟩
theorem sd_non {n : Nat} : Sd n .none := ⟨by simp [PyData.canLay0], by simp [PyData.depth]⟩
theorem sd_bool {n : Nat} (b : Bool) : Sd n (.bool b) := ⟨by simp [PyData.canLay0], by simp [PyData.depth]⟩
theorem sd_int {n : Nat} (i : Int) : Sd n (.int i) := ⟨by simp [PyData.canLay0], by simp [PyData.depth]⟩
theorem sd_str {n : Nat} {x : Str} (h : PyData.strOk x = true) : Sd n (.str x) := ⟨by simpa [PyData.canLay0] using h, by simp [PyData.depth]⟩
theorem sd_all {n : Nat} : ∀ {ds : List PyData}, (∀ d ∈ ds, Sd n d) → PyData.canLayAll0 ds = true ∧ PyData.depthAll ds ≤ n
  | [], _ => ⟨by simp [PyData.canLayAll0], by simp [PyData.depthAll]⟩
  | d :: ds, h => by
    obtain ⟨h1, h2⟩ := sd_all (ds := ds) fun e he => h e (List.mem_cons_of_mem _ he)
    obtain ⟨k1, k2⟩ := h d List.mem_cons_self
    exact ⟨by simp [PyData.canLayAll0, k1, h1], by simp only [PyData.depthAll]; omega⟩
theorem sd_list {n : Nat} {ds : List PyData} (h : ∀ d ∈ ds, Sd n d) : Sd (n + 1) (.list ds) := by
  obtain ⟨h1, h2⟩ := sd_all h
  exact ⟨by simpa [PyData.canLay0] using h1, by simp only [PyData.depth]; omega⟩
theorem sd_tup {n : Nat} {ds : List PyData} (h : ∀ d ∈ ds, Sd n d) : Sd (n + 1) (.tuple ds) := by
  obtain ⟨h1, h2⟩ := sd_all h
  exact ⟨by simpa [PyData.canLay0] using h1, by simp only [PyData.depth]; omega⟩
theorem sd_mem {n : Nat} : ∀ {ds : List PyData}, PyData.canLayAll0 ds = true → PyData.depthAll ds ≤ n → ∀ d ∈ ds, Sd n d
  | e :: ds, h1, h2, d, hd => by
    simp only [PyData.canLayAll0, Bool.and_eq_true] at h1
    simp only [PyData.depthAll] at h2
    rcases List.mem_cons.mp hd with rfl | hd
    · exact ⟨h1.1, by omega⟩
    · exact sd_mem h1.2 (by omega) d hd
theorem Sd.list_inv {n : Nat} {ds : List PyData} (h : Sd (n + 1) (.list ds)) : ∀ d ∈ ds, Sd n d := by
  obtain ⟨h1, h2⟩ := h
  simp only [PyData.depth] at h2
  exact sd_mem (by simpa [PyData.canLay0] using h1) (by omega)
theorem sd_ints {n : Nat} (is : List Int) : Sd (n + 1) (.list (is.map PyData.int)) := sd_list fun d hd => by
  obtain ⟨i, _, rfl⟩ := List.mem_map.mp hd
  exact sd_int i
theorem sd_nil {n : Nat} : Sd (n + 1) (.list []) := sd_list fun _ h => nomatch h
/-! ### == -/
theorem eqv_nil (ds : List PyData) : PyData.eqv (.list ds) (.list []) = ds.isEmpty := by
  cases ds <;> simp [PyData.eqv, PyData.eqvAll]
theorem eqv_int (i j : Int) : PyData.eqv (.int i) (.int j) = decide (i = j) := by
  simp only [PyData.eqv]
  by_cases h : i = j <;> simp [h]
theorem eqv_str (x y : Str) : PyData.eqv (.str x) (.str y) = decide (x = y) := by
  simp only [PyData.eqv]
  by_cases h : x = y <;> simp [h]
/-- no bools, no dicts: == is equality -/
inductive Pl : PyData → Prop
  | non : Pl .none
  | int (i : Int) : Pl (.int i)
  | str (x : Str) : Pl (.str x)
  | list {ds : List PyData} : (∀ d ∈ ds, Pl d) → Pl (.list ds)
  | tup {ds : List PyData} : (∀ d ∈ ds, Pl d) → Pl (.tuple ds)
theorem eqvAll_iff : ∀ {ds es : List PyData}, (∀ d ∈ ds, ∀ e ∈ es, (PyData.eqv d e = true ↔ d = e)) → (PyData.eqvAll ds es = true ↔ ds = es)
  | [], [], _ => by simp [PyData.eqvAll]
  | [], _ :: _, _ => by simp [PyData.eqvAll]
  | _ :: _, [], _ => by simp [PyData.eqvAll]
  | d :: ds, e :: es, h => by
    have h1 := h d List.mem_cons_self e List.mem_cons_self
    have h2 := eqvAll_iff (ds := ds) (es := es) fun x hx y hy => h x (List.mem_cons_of_mem _ hx) y (List.mem_cons_of_mem _ hy)
    simp only [PyData.eqvAll, Bool.and_eq_true, h1, h2, List.cons.injEq]
theorem Pl.eqv {d : PyData} (h : Pl d) : ∀ {e : PyData}, Pl e → (PyData.eqv d e = true ↔ d = e) := by
  induction h with
  | non => intro e k; cases k <;> simp [PyData.eqv]
  | int i => intro e k; cases k <;> simp [PyData.eqv]
  | str x => intro e k; cases k <;> simp [PyData.eqv]
  | list h ih =>
    intro e k
    cases k with
    | list k => simp only [PyData.eqv, PyData.list.injEq]; exact eqvAll_iff fun d hd e he => ih d hd (k e he)
    | _ => simp [PyData.eqv]
  | tup h ih =>
    intro e k
    cases k with
    | tup k => simp only [PyData.eqv, PyData.tuple.injEq]; exact eqvAll_iff fun d hd e he => ih d hd (k e he)
    | _ => simp [PyData.eqv]
theorem pl_ints (is : List Int) : Pl (.list (is.map PyData.int)) := .list fun d hd => by
  obtain ⟨i, _, rfl⟩ := List.mem_map.mp hd
  exact .int i
/-! ### kinds, roads -/
structure KindOk (x : Str) : Prop where
  one : 1 ≤ x.length
  eight : x.length ≤ 8
  az : ∀ c ∈ x.cps.toList, 97 ≤ c ∧ c ≤ 122
abbrev Road := Str × Nat × Nat
def rd (r : Road) : PyData := .tuple [.str r.1, .int (r.2.1 : Int), .int (r.2.2 : Int)]
structure RoadOk (n : Nat) (r : Road) : Prop where
  kind : KindOk r.1
  near : r.2.1 < n
  far : r.2.2 < n
theorem KindOk.sok {x : Str} (h : KindOk x) : PyData.strOk x = true := by
  unfold PyData.strOk
  rw [Array.all_eq_true']
  intro c hc
  exact decide_eq_true (Nat.lt_of_le_of_lt (h.az c (by simpa using hc)).2 (by decide))
theorem KindOk.len {x : Str} (h : KindOk x) : x.length ≤ sizeLine := Nat.le_trans h.eight (by decide)
theorem rd_inj {r q : Road} (h : rd r = rd q) : r = q := by
  obtain ⟨a, b, c⟩ := r
  obtain ⟨a', b', c'⟩ := q
  simp only [rd, PyData.tuple.injEq, List.cons.injEq, PyData.str.injEq, PyData.int.injEq, and_true] at h
  obtain ⟨rfl, h2, h3⟩ := h
  have e2 : b = b' := by omega
  have e3 : c = c' := by omega
  rw [e2, e3]
theorem pl_rd (r : Road) : Pl (rd r) := .tup fun d hd => by
  simp only [List.mem_cons, List.not_mem_nil, or_false] at hd
  rcases hd with rfl | rfl | rfl
  · exact .str _
  · exact .int _
  · exact .int _
theorem pl_rds (rs : List Road) : Pl (.list (rs.map rd)) := .list fun d hd => by
  obtain ⟨r, _, rfl⟩ := List.mem_map.mp hd
  exact pl_rd r
theorem sd_rd {n : Nat} {r : Road} (h : KindOk r.1) : Sd (n + 1) (rd r) := sd_tup fun d hd => by
  simp only [List.mem_cons, List.not_mem_nil, or_false] at hd
  rcases hd with rfl | rfl | rfl
  · exact sd_str h.sok
  · exact sd_int _
  · exact sd_int _
theorem sd_rds {n : Nat} {rs : List Road} (h : ∀ r ∈ rs, KindOk r.1) : Sd (n + 2) (.list (rs.map rd)) := sd_list fun d hd => by
  obtain ⟨r, hr, rfl⟩ := List.mem_map.mp hd
  exact sd_rd (h r hr)
theorem any_rd (r : Road) (rs : List Road) : ((rs.map rd).any fun z => PyData.eqv z (rd r)) = decide (r ∈ rs) := by
  rw [Bool.eq_iff_iff, List.any_eq_true, decide_eq_true_iff]
  constructor
  · rintro ⟨d, hd, e⟩
    obtain ⟨q, hq, rfl⟩ := List.mem_map.mp hd
    have := rd_inj (((pl_rd q).eqv (pl_rd r)).mp e)
    rw [← this]; exact hq
  · intro h
    exact ⟨rd r, List.mem_map_of_mem h, ((pl_rd r).eqv (pl_rd r)).mpr rfl⟩
theorem any_int (i : Int) (is : List Int) : ((is.map PyData.int).any fun z => PyData.eqv z (.int i)) = decide (i ∈ is) := by
  rw [Bool.eq_iff_iff, List.any_eq_true, decide_eq_true_iff]
  constructor
  · rintro ⟨d, hd, e⟩
    obtain ⟨q, hq, rfl⟩ := List.mem_map.mp hd
    rw [eqv_int] at e
    have := of_decide_eq_true e
    rw [← this]; exact hq
  · intro h
    exact ⟨.int i, List.mem_map_of_mem h, by rw [eqv_int]; simp⟩
def letters : Str := "abcdefghijklmnopqrstuvwxyz"
theorem letters_eq : letters.cps.toList = List.range' 97 26 := by decide +kernel
theorem mem_letters {c : Nat} : c ∈ letters.cps.toList ↔ 97 ≤ c ∧ c ≤ 122 := by
  rw [letters_eq, List.mem_range'_1]
  omega
/-! ### over the signs of a text -/
theorem is_lcS {σ : St} {G : Hp} {tl te : TE} {tt : TT} {g : TG} {vs : List Nat} {x : Str} {f : Nat → Bool} {o : Nat → PyData} (hl : Is tl σ G (dat (.str x))) (hz : x.length ≤ 100000)
    (hs : ∀ i c G1, x.cps[i]? = some c → Same G G1 → ∃ σ2, GT g (.str ⟨#[c]⟩) (wipe σ vs) G1 σ2 ∧ wipe σ2 vs = wipe σ vs ∧ IsT tt σ2 G1 (f i) ∧ (f i = true → Is te σ2 G1 (dat (o i)))) :
    Is (tLc (iStr tl) g tt te vs) σ G (dat (.list (outI x.length f o))) := fun G1 H1 s1 s2 Q k =>
  hl G1 H1 s1 s2 _ fun v G2 H2 g2 px => by
    obtain rfl := (show DV G2 v (.str x) from px).str_inv
    refine ⟨x, rfl, fun D hD => ?_⟩
    refine ⟨fun i m H' => m + i = x.length ∧ LcW G2 H2 D f o i H', ⟨x.length, by omega, lcw_start g2.gh hD⟩, fun i m H' ⟨hm, w⟩ => ?_⟩
    obtain ⟨G', acc, g', hh, hn, dva⟩ := id w
    by_cases hi : i < x.cps.size
    · right
      refine ⟨hi, LcW G2 H2 D f o (i + 1), fun H3 w3 => ⟨m - 1, by have : x.length = x.cps.size := rfl; omega, by have : x.length = x.cps.size := rfl; omega, w3⟩, ?_⟩
      rintro _ H3 ⟨rfl, c, hc, rfl⟩
      obtain ⟨σ2, hgt, hw, ht, he⟩ := hs i c G' hc ((s1.trans g2.gg).trans g'.gg)
      exact hgt _ g'.gh _ ⟨hw, lcw_turn hD g' hh hn dva (Nat.lt_of_lt_of_le hi hz) ht he⟩
    · left
      refine ⟨by show x.cps.size ≤ i; omega, ?_⟩
      have hlen : i = x.length := by have : x.length = x.cps.size := rfl; omega
      rw [hlen] at w
      obtain ⟨G', g, d⟩ := lcw_end hD w
      exact k _ G' H' (g2.trans g) d
theorem outI_none {n : Nat} {o : Nat → PyData} : outI n (fun _ => false) o = [] := by
  unfold outI
  rw [List.filter_eq_nil_iff.mpr (fun _ _ h => Bool.false_ne_true h)]; rfl
end Yd
set_option Elab.async false
set_option linter.all false
set_option maxRecDepth 100000
set_option maxHeartbeats 4000000
/-! sorted of data -/
namespace Yd
open PySem PySem.Spec L2
open PySem.W (AllAlike Sortable dataLe EachIs)
/-- sorted, of data -/
def dsort (ds : List PyData) : List PyData := ds.mergeSort (dataLe false id)
theorem dsort_perm (ds : List PyData) : (dsort ds).Perm ds := List.mergeSort_perm _ _
theorem dvs_of_each {G : Hp} : ∀ {us : List Value} {ds : List PyData}, EachIs (fun u d => ∃ v, RelV v u ∧ DV G v d) us ds → ∃ vs, Vals vs us ∧ DVs G vs ds
  | [], [], .nil => ⟨[], .nil, .nil⟩
  | _ :: _, _ :: _, .cons ⟨v, r, dv⟩ e => by
    obtain ⟨vs, r2, dv2⟩ := dvs_of_each e
    exact ⟨v :: vs, .cons r r2, .cons dv dv2⟩
theorem each_of_dvs {G : Hp} : ∀ {vs : List V} {us : List Value} {ds : List PyData}, Vals vs us → DVs G vs ds → EachIs (fun u d => ∃ v, RelV v u ∧ DV G v d) us ds
  | [], [], [], .nil, .nil => .nil
  | _ :: _, _ :: _, _ :: _, .cons r t, .cons d k => .cons ⟨_, r, d⟩ (each_of_dvs t k)
/-- sorted(xs), xs a list of data alike -/
def rSortD : List V → Hp → VK → Prop := fun vs H Q => ∃ v ds G, vs = [v] ∧ Same G H ∧ DV G v (.list ds) ∧ AllAlike ds ∧ Sortable ds ∧ (∀ d ∈ ds, d.hasDict = false ∧ d.depth ≤ 60) ∧ ds.length ≤ 100000 ∧
  ∀ p ys, DVs G ys (dsort ds) → H p = none → Q (.ref p) (upd H p (.lst ys))
section
variable {X : Cx}
theorem cr_sortD (hu : X.A.units + 70 < cLine) : CallR X (.builtin "sorted") rSortD := by
  intro pins s σ H vs us Q I r h
  obtain ⟨v, ds, G, rfl, z, hv, hal, hso, hd, hn, q⟩ := h
  obtain ⟨a, xs, rfl, ha, dv⟩ := hv.lst_inv
  obtain ⟨its, rv, hl, hz⟩ := I.list (SqL.of (z _ _ ha))
  rw [Vals.ref1 r]
  have e := each_of_dvs rv dv
  have er : EachIs (fun u d => ∃ as, Reads s.heap u (id d) as) its ds := by
    have key : ∀ {us : List Value} {es : List PyData}, (∀ d ∈ es, d.hasDict = false) → EachIs (fun u d => ∃ v, RelV v u ∧ DV G v d) us es → EachIs (fun u d => ∃ as, Reads s.heap u (id d) as) us es := by
      intro us es hes e
      induction e with
      | nil => exact .nil
      | cons h _ ih =>
        obtain ⟨v, r, k⟩ := h
        exact .cons (DV.reads I z _ _ _ (hes _ List.mem_cons_self) k r) (ih fun d hd => hes d (List.mem_cons_of_mem _ hd))
    exact key (fun d hd' => (hd d hd').1) e
  refine PySem.W.sorted_data (enc := id) (R := fun u d => ∃ v, RelV v u ∧ DV G v d) hl.isList e er (by rw [List.map_id]; exact hal) (by rw [List.map_id]; exact hso) (sz_of hn) (fun b hb => ?_) fun out hout eo => ?_
  · have := (hd b hb).2
    show X.A.units + 2 + b.depth < cLine
    omega
  · obtain ⟨ys, r3, dv3⟩ := dvs_of_each eo
    obtain ⟨ep, he'⟩ := PyProof.Rows.sortedAll_at s.heap its out.toArray
    have hlen : ys.length ≤ sizeLine := by
      rw [dv3.length, List.length_mergeSort]; exact sz_of hn
    refine ⟨.ref _, upd H (s.heap.objs.size + 1) (.lst ys), I.laid (t' := s.toks) (fun _ _ => PyProof.Rows.sortedAll_old) (Nat.le_succ _) ⟨hlen, out, ep, r3, he'⟩, rfl, q _ _ dv3 (I.hok.fresh (Nat.le_succ _))⟩
end
theorem rc_sortD {G : Hp} {ds : List PyData} (hal : AllAlike ds) (hso : Sortable ds) (hd : ∀ d ∈ ds, d.hasDict = false ∧ d.depth ≤ 60) (hn : ds.length ≤ 100000) : RC rSortD [dat (.list ds)] G (dat (.list (dsort ds))) := fun vs G1 H1 s1 s2 pv Q k => by
  obtain ⟨v, r, rfl, h, e⟩ := pv
  cases (show r = [] from e)
  refine ⟨v, ds, G1, rfl, s2, h, hal, hso, hd, hn, fun p ys dv hp => ?_⟩
  have g : Gr0 G1 H1 (upd G1 p (.lst ys)) (upd H1 p (.lst ys)) := .new s2 hp
  exact k _ _ _ g (.lst upd_same (dv.mono g.gg))
end Yd
set_option Elab.async false
set_option linter.all false
set_option maxRecDepth 100000
set_option maxHeartbeats 4000000
/-! a set of distinct tuples of texts and ints: how many -/
namespace Yd
open PySem PySem.Spec PyProof.Rows L2
/-! ### the round of the slots, for larger tables -/
def visit (m : Nat) : Nat → Nat → Nat → Nat
  | 0, _, acc => acc
  | f + 1, i, acc => visit m f ((i * 5 + 1) % (m + 1)) (acc ||| (1 <<< i))
theorem visit_bit (m j : Nat) : ∀ f a acc, (visit m f (lcgN m a) acc).testBit j = true → acc.testBit j = true ∨ ∃ b, b < a + f ∧ lcgN m b = j
  | 0, a, acc, h => .inl h
  | f + 1, a, acc, h => by
    have h' : (visit m f (lcgN m (a + 1)) (acc ||| (1 <<< lcgN m a))).testBit j = true := h
    rcases visit_bit m j f (a + 1) _ h' with z | ⟨b, hb, e⟩
    · rw [Nat.testBit_or, Bool.or_eq_true] at z
      rcases z with z | z
      · exact .inl z
      · rw [Nat.one_shiftLeft, Nat.testBit_two_pow] at z
        exact .inr ⟨a, by omega, of_decide_eq_true z⟩
    · exact .inr ⟨b, by omega, e⟩
def MaskP (m : Nat) : Prop := m = 7 ∨ m = 31 ∨ m = 127 ∨ m = 511 ∨ m = 2047
theorem mp_round {m : Nat} (hm : MaskP m) : lcgN m (m + 1) = 0 := by
  rcases hm with e | e | e | e | e <;> subst e <;> decide +kernel
theorem mp_visit {m : Nat} (hm : MaskP m) : visit m (m + 1) 0 0 = 2 ^ (m + 1) - 1 := by
  rcases hm with e | e | e | e | e <;> subst e <;> decide +kernel
theorem mp_all {m : Nat} (hm : MaskP m) {j : Nat} (hj : j ≤ m) : ∃ b, b ≤ m ∧ lcgN m b = j := by
  have h : (visit m (m + 1) (lcgN m 0) 0).testBit j = true := by
    show (visit m (m + 1) 0 0).testBit j = true
    rw [mp_visit hm, Nat.testBit_two_pow_sub_one]
    exact decide_eq_true (by omega)
  rcases visit_bit m j (m + 1) 0 0 h with z | ⟨b, hb, e⟩
  · simp at z
  · exact ⟨b, by omega, e⟩
theorem mp_mod {m : Nat} (hm : MaskP m) : ∀ k, lcgN m (m + 1 + k) = lcgN m k
  | 0 => mp_round hm
  | k + 1 => by
    show (lcgN m (m + 1 + k) * 5 + 1) % (m + 1) = (lcgN m k * 5 + 1) % (m + 1)
    rw [mp_mod hm k]
theorem mp_from {m : Nat} (hm : MaskP m) {i j : Nat} (hi : i ≤ m) (hj : j ≤ m) : ∃ k, k ≤ m ∧ lcgI m i k = j := by
  obtain ⟨a, ha, ea⟩ := mp_all hm hi
  obtain ⟨b, hb, eb⟩ := mp_all hm hj
  rw [← ea]
  rcases Nat.lt_or_ge b a with c | c
  · refine ⟨b + (m + 1) - a, by omega, ?_⟩
    rw [lcgN_add, show a + (b + (m + 1) - a) = m + 1 + b by omega, mp_mod hm, eb]
  · refine ⟨b - a, by omega, ?_⟩
    rw [lcgN_add, show a + (b - a) = b by omega, eb]
theorem mp_run {m : Nat} (hm : MaskP m) (h : Int) {j : Nat} (hj : j ≤ m) : ∃ n, n ≤ m + 12 ∧ runI m (SetTable.bits h) n = j := by
  obtain ⟨k, hk, e⟩ := mp_from hm (runI_le m (SetTable.bits h) 12) hj
  exact ⟨12 + k, by omega, by rw [runI_tail (bits_lt h)]; exact e⟩
theorem mp_meets {m : Nat} (hm : MaskP m) (h : Int) {j : Nat} (hj : j ≤ m) : ∃ k, k < 10 * SetTable.turns m ∧ way m h k = j := by
  obtain ⟨n, hn, e⟩ := mp_run hm h hj
  obtain ⟨k, hk, e2⟩ := run_nth m (SetTable.bits h) n
  refine ⟨k, by unfold SetTable.turns; omega, ?_⟩
  show (nth m _ k).j = j
  rw [e2]
  exact e
theorem mp_le {m : Nat} {h : Int} {k : Nat} : way m h k ≤ m := by
  have hi : SetTable.bits h % (m + 1) ≤ m := Nat.le_of_lt_succ (Nat.mod_lt _ (Nat.succ_pos _))
  have r := runEnd_bd hi
  have q := nth_in (m := m) k (runAt m (SetTable.bits h % (m + 1)) (SetTable.bits h)) (by
    show SetTable.bits h % (m + 1) + (SetTable.runEnd m (SetTable.bits h % (m + 1)) - SetTable.bits h % (m + 1)) ≤ m
    omega)
  show (nth m (runAt m (SetTable.bits h % (m + 1)) (SetTable.bits h)) k).j ≤ m
  omega
theorem mp_odd {m : Nat} (h : MaskP m) : m % 2 = 1 := by rcases h with e | e | e | e | e <;> subst e <;> rfl
/-! ### a table that only grows -/
structure TabG (t : SetTable) (n : Nat) : Prop where
  ris : Ris t.place.toList
  dm : t.dummies = #[]
  sz : t.place.size = n
  mok : MaskP t.mask
theorem TabG.first {t : SetTable} {n : Nat} (T : TabG t n) (hl : n ≤ t.mask) (h : Int) : ∃ K, K < 10 * SetTable.turns t.mask ∧ way t.mask h K ∉ t.place.toList ∧ ∀ k, k < K → way t.mask h k ∈ t.place.toList := by
  have hlen : t.place.toList.length < t.mask + 1 := by
    rw [Array.length_toList, T.sz]; omega
  obtain ⟨j, hj, hn⟩ := st_missing t.place.toList (t.mask + 1) hlen
  obtain ⟨k, hk, e⟩ := mp_meets T.mok h (Nat.le_of_lt_succ hj)
  obtain ⟨K, h1, h2, h3⟩ := st_least (p := fun k => way t.mask h k ∉ t.place.toList) k (by show way t.mask h k ∉ _; rw [e]; exact hn)
  refine ⟨K, Nat.lt_of_le_of_lt h1 hk, h2, fun k' hk' => ?_⟩
  rcases Classical.em (way t.mask h k' ∈ t.place.toList) with c | c
  · exact c
  · exact absurd c (h3 k' hk')
theorem TabG.put {t : SetTable} {n j : Nat} (T : TabG t n) (hj : j ∉ t.place.toList) : (t.put j).2 = SetTable.below t.place j ∧ SetTable.below t.place j ≤ n ∧ TabG (t.put j).1 (n + 1) ∧ (t.put j).1.mask = t.mask ∧ (t.put j).1.fill = n + 1 := by
  obtain ⟨c1, _, _⟩ := below_cut T.ris j
  have hpl : SetTable.below t.place j ≤ t.place.toList.length := by rw [Array.length_toList]; exact c1
  have hnp : t.place[SetTable.below t.place j]? ≠ some j := fun e => hj (List.mem_of_getElem? (by rw [Array.getElem?_toList]; exact e))
  have hsize : (t.put j).1.place.size = n + 1 := by
    rw [← Array.length_toList, put_place, len_ins _ hpl, Array.length_toList, T.sz]
  refine ⟨rfl, by rw [← T.sz]; exact c1, ⟨ris_insert T.ris hnp, put_dm T.dm j, hsize, T.mok⟩, rfl, ?_⟩
  show (t.put j).1.place.size + (t.put j).1.dummies.size = n + 1
  rw [hsize, put_dm T.dm j] <;> rfl
/-! ### laying all anew -/
theorem mp_free {m : Nat} (hm : MaskP m) (owner : Array (Option Nat)) (h : Int) {j : Nat} (hj : j ≤ m) (hf : oAt owner j = none) :
    ∃ K, SetTable.layClean.free m owner (SetTable.turns m) (SetTable.bits h % (m + 1)) (SetTable.bits h) = some (way m h K) ∧ oAt owner (way m h K) = none := by
  obtain ⟨n, hn, e⟩ := mp_run hm h hj
  have hw : way m h (off m (SetTable.bits h % (m + 1)) (SetTable.bits h) n) = j := by
    show (nth m (runAt m (SetTable.bits h % (m + 1)) (SetTable.bits h)) (off m (SetTable.bits h % (m + 1)) (SetTable.bits h) n)).j = j
    rw [nth_off, itL_run]
    exact e
  obtain ⟨K, k1, k2, k3⟩ := st_least (p := fun k => oAt owner (way m h k) = none) (off m (SetTable.bits h % (m + 1)) (SetTable.bits h) n) (by
    show oAt owner (way m h (off m (SetTable.bits h % (m + 1)) (SetTable.bits h) n)) = none
    rw [hw]; exact hf)
  refine ⟨K, ?_, k2⟩
  refine free_spec m owner (SetTable.turns m) n _ _ K (by unfold SetTable.turns; omega) k1 (fun k hk => ?_) ?_
  · have q := k3 k hk
    cases z : oAt owner (nth m (runAt m (SetTable.bits h % (m + 1)) (SetTable.bits h)) k).j with
    | none => exact absurd z q
    | some _ => rfl
  · have q : oAt owner (nth m (runAt m (SetTable.bits h % (m + 1)) (SetTable.bits h)) K).j = none := k2
    rw [q] <;> rfl
/-- who sits: n sitters, each once -/
structure OwnG (m n : Nat) (owner : Array (Option Nat)) : Prop where
  sz : owner.size = m + 1
  ps : ∃ ps : List Nat, ps.length = n ∧ ps.Nodup ∧ (∀ j ∈ ps, j ≤ m) ∧ (∀ j, j ≤ m → (oAt owner j ≠ none ↔ j ∈ ps)) ∧ ps.map (oAt owner) = (List.range n).reverse.map some
theorem OwnG.init (m : Nat) : OwnG m 0 (Array.replicate (m + 1) none) where
  sz := by simp
  ps := ⟨[], rfl, List.nodup_nil, fun j h => (by cases h), fun j hj => ⟨fun h => absurd (oAt_init hj) h, fun h => (by cases h)⟩, rfl⟩
theorem OwnG.step {m n : Nat} (hm : MaskP m) {owner : Array (Option Nat)} (W : OwnG m n owner) (hl : n ≤ m) (h : Int) :
    ∃ j, SetTable.layClean.free m owner (SetTable.turns m) (SetTable.bits h % (m + 1)) (SetTable.bits h) = some j ∧ OwnG m (n + 1) (owner.setIfInBounds j (some n)) := by
  obtain ⟨ps, hps, hnd, hle, hin, hmap⟩ := W.ps
  obtain ⟨j0, h0, hn0⟩ := st_missing ps (m + 1) (by omega)
  have hj0 : oAt owner j0 = none := by
    cases z : oAt owner j0 with
    | none => rfl
    | some k => exact absurd ((hin j0 (Nat.le_of_lt_succ h0)).mp (by rw [z]; exact fun e => nomatch e)) hn0
  obtain ⟨K, e1, e2⟩ := mp_free hm owner h (Nat.le_of_lt_succ h0) hj0
  have hjm : way m h K ≤ m := mp_le
  have hjs : way m h K < owner.size := by rw [W.sz]; exact Nat.lt_succ_of_le hjm
  refine ⟨way m h K, e1, by rw [Array.size_setIfInBounds]; exact W.sz, way m h K :: ps, by rw [List.length_cons, hps], List.nodup_cons.mpr ⟨fun hc => ?_, hnd⟩, fun j hj => ?_, fun j hj => ?_, ?_⟩
  · exact (hin _ hjm).mpr hc e2
  · rcases List.mem_cons.mp hj with rfl | hj
    · exact hjm
    · exact hle j hj
  · by_cases c : j = way m h K
    · subst c
      rw [oAt_set_self (some n) hjs]
      exact ⟨fun _ => List.mem_cons_self, fun _ e => nomatch e⟩
    · rw [oAt_set_ne _ c, hin j hj, List.mem_cons]
      exact ⟨.inr, fun z => z.resolve_left c⟩
  · rw [List.range_succ, List.reverse_append, List.map_append, List.map_cons, oAt_set_self (some n) hjs]
    show some n :: _ = some n :: _
    congr 1
    rw [← hmap]
    refine List.map_congr_left fun j hj => oAt_set_ne _ fun c => ?_
    subst c
    exact (hin _ hjm).mpr hj e2
theorem foldG {m : Nat} (hm : MaskP m) : ∀ (rest : List Int) (n : Nat) (owner : Array (Option Nat)), OwnG m n owner → n + rest.length ≤ m →
    ∃ owner', rest.foldl (stepF m) (some (owner, n)) = some (owner', n + rest.length) ∧ OwnG m (n + rest.length) owner'
  | [], n, owner, W, _ => ⟨owner, rfl, W⟩
  | h :: rest, n, owner, W, hl => by
    rw [List.length_cons] at hl
    obtain ⟨j, e, W'⟩ := W.step hm (by omega) h
    obtain ⟨owner', f, W2⟩ := foldG hm rest (n + 1) _ W' (by omega)
    have ea : n + 1 + rest.length = n + (h :: rest).length := by rw [List.length_cons]; omega
    rw [ea] at f W2
    refine ⟨owner', ?_, W2⟩
    rw [List.foldl_cons, stepF_some e]
    exact f
theorem relaidG (t : SetTable) {hs : Array Int} {wanted M : Nat} (hw : SetTable.sizeAbove wanted - 1 = M) (hM : MaskP M) (hn : hs.size ≤ M) :
    ∃ t' order, t.relaid hs wanted = some (t', order) ∧ order.toList.Perm (List.range hs.size) ∧ TabG t' hs.size ∧ t'.mask = M := by
  obtain ⟨owner, f, W⟩ := foldG hM hs.toList 0 _ (OwnG.init M) (by rw [Array.length_toList]; omega)
  rw [Nat.zero_add, Array.length_toList] at f W
  have hlc : SetTable.layClean M hs = some owner := by
    rw [layClean_eq, f] <;> rfl
  have hr : t.relaid hs wanted = some (tabOf t M owner, ((liveOf M owner).map (·.2)).toArray) := by
    rw [relaid_eq, hw, hlc] <;> rfl
  have ris := ris_live (fun j => owner.getD j none) (List.range (M + 1)) (by
    unfold Ris
    first | exact List.pairwise_lt_range | exact List.pairwise_lt_range _)
  have r1 : Ris ((liveOf M owner).map (·.1)) := ris.1
  have nd : ((liveOf M owner).map (·.1)).Nodup := List.Pairwise.imp (fun h => Nat.ne_of_lt h) r1
  obtain ⟨ps, hps, hnd, hle, hin, hmap⟩ := W.ps
  have hall : ∀ k, k < hs.size → ∃ j, j ≤ M ∧ oAt owner j = some k := fun k hk => by
    have : some k ∈ ps.map (oAt owner) := by
      rw [hmap]
      exact List.mem_map_of_mem (List.mem_reverse.mpr (List.mem_range.mpr hk))
    obtain ⟨j, hj, e⟩ := List.mem_map.mp this
    exact ⟨j, hle j hj, e⟩
  have hlen : (liveOf M owner).length = hs.size := by
    have a := nat_nodup_len ((liveOf M owner).map (·.1)) ps nd fun x hx => by
      obtain ⟨q, hq, rfl⟩ := List.mem_map.mp hx
      obtain ⟨b1, b2⟩ := (mem_live (j := q.1) (k := q.2) W.sz).1 hq
      exact (hin _ b1).mp (by rw [b2]; exact fun z => nomatch z)
    have b := nat_nodup_len (List.range hs.size) ((liveOf M owner).map (·.2)) List.nodup_range fun k hk => by
      obtain ⟨j, b1, b2⟩ := hall k (List.mem_range.mp hk)
      exact List.mem_map.mpr ⟨(j, k), (mem_live W.sz).2 ⟨b1, b2⟩, rfl⟩
    rw [List.length_map, hps] at a
    rw [List.length_map, List.length_range] at b
    omega
  refine ⟨tabOf t M owner, ((liveOf M owner).map (·.2)).toArray, hr, ?_, ⟨r1, rfl, ?_, hM⟩, rfl⟩
  · refine perm_range hs.size _ ?_ fun k hk => ?_
    · show ((liveOf M owner).map (·.2)).length = hs.size
      rw [List.length_map]; exact hlen
    · obtain ⟨j, b1, b2⟩ := hall k hk
      exact List.mem_map.mpr ⟨(j, k), (mem_live W.sz).2 ⟨b1, b2⟩, rfl⟩
  · show ((liveOf M owner).map (·.1)).toArray.size = hs.size
    rw [List.size_toArray, List.length_map]; exact hlen
end Yd
set_option Elab.async false
set_option linter.all false
set_option maxRecDepth 100000
set_option maxHeartbeats 4000000
namespace Yd
open PySem PySem.Spec PyProof.Rows L2
abbrev kh (P : Program) (w : World) (k : List Key) : Int := tupleKeyHash (mixKind P w) k
abbrev KT (P : Program) (w : World) (h : Heap) (k : List Key) (a : Addr) : Prop := IsTupleKey (mixKind P w) h k a
def rowsG (P : Program) (w : World) (L : List (Addr × List Key)) : List (Int × Value) := L.map fun p => (kh P w p.2, Value.ref p.1)
section
variable {P : Program} {w : World} {A : Around} {E : Value → Shared → Prop} {s : Shared}
theorem items_key {k : List Key} {vs : List Value} (h : ItemsAre (mixKind P w) k vs) : ∀ v ∈ vs, (∃ i t, v = Value.int i t) ∨ ∃ x t, v = Value.str x t := by
  induction h with
  | nil => intro v hv; cases hv
  | @cons k0 v' ks vs h1 _ ih =>
    intro v hv
    rcases List.mem_cons.mp hv with rfl | hv
    · rcases keyIs_shape h1 with ⟨i, t, _, e⟩ | ⟨x, t, _, e⟩
      · exact .inl ⟨i, t, e⟩
      · exact .inr ⟨x, t, e⟩
    · exact ih v hv
theorem ofA_str (n : Nat) (i : Str) (t : Tok) : ofAClassStatement n (.str i t) = pure false := by cases n <;> rfl
theorem hashBy_str (n : Nat) (i : Str) (t : Tok) : hashByValue n (.str i t) = pure false := by cases n <;> rfl
theorem ofA_tup {k : List Key} {b : Addr} {Q : Bool → Shared → Prop} (hk : KT P w s.heap k b) (h : Q false s) : wpAny (model P w) A (ofAClassStatement 8 (.ref b)) Q E s := by
  have hT := hk.typeIs
  obtain ⟨o, items, n, ho, _, hd, hi⟩ := hk
  unfold ofAClassStatement
  refine wpAny_bind (wpAny_typeOf hT ?_)
  dsimp only
  have e : (("tuple" : String) == "tuple") = true := by decide
  simp only [e, if_true, Bool.not_true, Bool.false_eq_true, if_false]
  try refine wpAny_bind (wpAny_pure ?_)
  try simp only [Bool.not_true, Bool.false_eq_true, if_false]
  show wpAny _ _ (seqItems? (.ref b) >>= _) _ _ s
  refine wpAny_bind (wpAny_seqItems ho hd ?_)
  dsimp only
  refine wpAny_bind ?_
  show wpAny _ _ (forIn items _ _) _ _ s
  rw [← Array.forIn_toList]
  refine wpAny_forIn_list _ (fun rest r s' => r.1 = none ∧ s' = s ∧ ∀ v ∈ rest, (∃ i t, v = Value.int i t) ∨ ∃ x t, v = Value.str x t) _ ?_ ?_ _ _ ⟨rfl, rfl, items_key hi⟩
  · rintro v rest r s' ⟨hr, rfl, hall⟩
    have e0 : ofAClassStatement 7 v = pure false := by
      rcases hall v List.mem_cons_self with ⟨i, t, rfl⟩ | ⟨x, t, rfl⟩
      · exact ofAClass_int _ _ _
      · exact ofA_str _ _ _
    rw [e0]
    refine wpAny_bind (wpAny_pure ?_)
    simp only [Bool.false_eq_true, if_false]
    exact wpAny_pure ⟨rfl, rfl, fun u hu' => hall u (List.mem_cons_of_mem _ hu')⟩
  · rintro ⟨r1, r2⟩ s' ⟨hr, rfl, _⟩
    simp only at hr
    subst hr
    exact wpAny_pure h
/-- whether the hash is by value: some answer -/
theorem hashBy_any {k : List Key} {b : Addr} {Q : Bool → Shared → Prop} (hk : KT P w s.heap k b) (h : ∀ c, Q c s) : wpAny (model P w) A (hashByValue 8 (.ref b)) Q E s := by
  have hT := hk.typeIs
  obtain ⟨o, items, n, ho, _, hd, hi⟩ := hk
  unfold hashByValue
  refine wpAny_bind (wpAny_specialOf hT F.slot_tuple_hash.lookup ?_)
  show wpAny _ _ (seqItems? (.ref b) >>= _) _ _ s
  refine wpAny_bind (wpAny_seqItems ho hd ?_)
  refine wpAny_bind ?_
  show wpAny _ _ (forIn items _ _) _ _ s
  rw [← Array.forIn_toList]
  refine wpAny_forIn_list _ (fun rest r s' => (r.1 = none ∨ ∃ c, r.1 = some c ∧ rest = []) ∧ s' = s ∧ ∀ v ∈ rest, (∃ i t, v = Value.int i t) ∨ ∃ x t, v = Value.str x t) _ ?_ ?_ _ _ ⟨.inl rfl, rfl, items_key hi⟩
  · rintro v rest r s' ⟨hr, rfl, hall⟩
    rcases hall v List.mem_cons_self with ⟨i, t, rfl⟩ | ⟨x, t, rfl⟩
    · rw [hashBy_int]
      refine wpAny_bind (wpAny_pure ?_)
      simp only [Bool.not_true, Bool.false_eq_true, if_false]
      exact wpAny_pure ⟨.inl rfl, rfl, fun u hu' => hall u (List.mem_cons_of_mem _ hu')⟩
    · rw [hashBy_str]
      refine wpAny_bind (wpAny_pure ?_)
      simp only [Bool.not_false, if_true]
      exact wpAny_pure (wpAny_pure (h _))
  · rintro ⟨r1, r2⟩ s' ⟨hr, rfl, _⟩
    simp only at hr
    rcases hr with rfl | ⟨c, rfl, _⟩
    · exact wpAny_pure (h _)
    · exact wpAny_pure (h _)
theorem seen_key {k : List Key} {b : Addr} {Q : Bool → Shared → Prop} (hk : KT P w s.heap k b) {ys : List Value} (hy : ∀ y ∈ ys, ∃ k' c, y = Value.ref c ∧ KT P w s.heap k' c) (h : Q false s) :
    wpAny (model P w) A (searchCouldBeSeen (.ref b) ys) Q E s := by
  unfold searchCouldBeSeen
  refine wpAny_bind ?_
  refine wpAny_forIn_list _ (fun rest r s' => r.1 = none ∧ s' = s ∧ ∀ y ∈ rest, ∃ k' c, y = Value.ref c ∧ KT P w s.heap k' c) _ ?_ ?_ _ _ ⟨rfl, rfl, hy⟩
  · rintro v rest r s' ⟨hr, rfl, hall⟩
    obtain ⟨k', c, rfl, hc⟩ := hall v List.mem_cons_self
    have rest' : ∀ y ∈ rest, ∃ k' c, y = Value.ref c ∧ KT P w s'.heap k' c := fun u hu' => hall u (List.mem_cons_of_mem _ hu')
    dsimp only
    by_cases hv : (b == c || (carriedByValue (.ref b) && carriedByValue (.ref c))) = true
    · refine wp_if_pos hv ?_
      exact wpAny_pure ⟨rfl, rfl, rest'⟩
    · refine wp_if_neg hv ?_
      refine wpAny_bind (wpAny_eqIsQuiet_tuple hk ?_)
      simp only [Bool.not_true, Bool.false_eq_true, if_false]
      refine wpAny_bind (wpAny_eqIsQuiet_tuple hc ?_)
      simp only [Bool.not_true, Bool.false_eq_true, if_false]
      refine wpAny_bind (ofA_tup hk ?_)
      simp only [Bool.false_eq_true, if_false]
      refine wpAny_bind (ofA_tup hc ?_)
      simp only [Bool.false_eq_true, if_false]
      exact wpAny_pure ⟨rfl, rfl, rest'⟩
  · rintro ⟨r1, r2⟩ s' ⟨hr, rfl, _⟩
    simp only at hr
    subst hr
    exact wpAny_pure h
/-- the set, that only grows -/
structure SetG (P : Program) (w : World) (h : Heap) (a : Addr) (L : List (Addr × List Key)) (es : Array (Int × Value)) (ep : Nat) (t : SetTable) : Prop where
  ob : ∃ o, h.get? a = some o ∧ o.ExactSet ∧ o.data = .set es ep t
  rows : es.toList = rowsG P w L
  tab : TabG t L.length
  tup : ∀ p ∈ L, KT P w h p.2 p.1
  room : L.length * 5 < t.mask * 3
variable {a : Addr} {L : List (Addr × List Key)} {es : Array (Int × Value)} {ep : Nat} {t : SetTable}
theorem rowsG_size (h : es.toList = rowsG P w L) : es.size = L.length := by
  have h := congrArg List.length h
  unfold rowsG at h
  rw [Array.length_toList, List.length_map] at h
  exact h
theorem SetG.size (R : SetG P w s.heap a L es ep t) : es.size = L.length := rowsG_size R.rows
theorem SetG.fits (R : SetG P w s.heap a L es ep t) : t.fits es.size = true := by
  have h1 := R.tab.sz
  have h2 := R.size
  have h3 := R.room
  unfold SetTable.fits SetTable.fill
  rw [R.tab.dm, Bool.and_eq_true, beq_iff_eq, decide_eq_true_eq]
  show t.place.size = es.size ∧ t.place.size + 0 ≤ t.mask
  omega
theorem SetG.entry (R : SetG P w s.heap a L es ep t) {i : Nat} {p : Addr × List Key} (h : L[i]? = some p) : es[i]? = some (kh P w p.2, Value.ref p.1) := by
  rw [← Array.getElem?_toList, R.rows]
  unfold rowsG
  rw [List.getElem?_map, h] <;> rfl
theorem SetG.gw (R : SetG P w s.heap a L es ep t) : ¬ t.gaveWay = true := by
  unfold SetTable.gaveWay
  rw [mp_odd R.tab.mok]
  decide
/-- the search of one that isn't there -/
theorem searchG_from (R : SetG P w s.heap a L es ep t) {x : Addr} {k : List Key} (hx : KT P w s.heap k x) (hnk : k ∉ L.map (·.2)) (hu : A.units < cLine) {K : Nat} (hKf : K < 10 * SetTable.turns t.mask)
    (hK : way t.mask (kh P w k) K ∉ t.place.toList) (hKb : ∀ c, c < K → way t.mask (kh P w k) c ∈ t.place.toList) {Q : SetFound → Shared → Prop}
    (hout : Q (.free (way t.mask (kh P w k) K) false) s) :
    ∀ (f c : Nat) (stand : Option SetTable.Probe), stand.getD (t.probeStart (kh P w k)) = nth t.mask (runAt t.mask (SetTable.bits (kh P w k) % (t.mask + 1)) (SetTable.bits (kh P w k))) c → c ≤ K → K - c < f →
      wpAny (model P w) A (setSearchFrom a (.ref x) (kh P w k) true f stand) Q E s
  | 0, c, stand, _, _, hf => absurd hf (Nat.not_lt_zero _)
  | f + 1, c, stand, hst, hc, hf => by
    obtain ⟨o, ho, hex, hd⟩ := R.ob
    rw [setSearchFrom_succ]
    refine wpAny_bind (wpAny_setState_of ho hd R.fits ?_)
    dsimp only
    refine wp_if_neg R.gw ?_
    try refine wpAny_bind (wpAny_pure ?_)
    have hnd : (nth t.mask (runAt t.mask (SetTable.bits (kh P w k) % (t.mask + 1)) (SetTable.bits (kh P w k))) c).dummy = none := by
      have key : ∀ (n : Nat) (p : SetTable.Probe), p.dummy = none → (nth t.mask p n).dummy = none := by
        intro n
        induction n with
        | zero => intro p h; exact h
        | succ n ih =>
          intro p h
          refine ih (adv t.mask p) ?_
          unfold adv
          split <;> exact h
      exact key c _ rfl
    have sh : ∀ q, nth t.mask (nth t.mask (runAt t.mask (SetTable.bits (kh P w k) % (t.mask + 1)) (SetTable.bits (kh P w k))) c) q = nth t.mask (runAt t.mask (SetTable.bits (kh P w k) % (t.mask + 1)) (SetTable.bits (kh P w k))) (c + q) := fun q => (nth_add t.mask c _ q).symm
    have e1 : ∀ q, (nth t.mask (nth t.mask (runAt t.mask (SetTable.bits (kh P w k) % (t.mask + 1)) (SetTable.bits (kh P w k))) c) q).j = way t.mask (kh P w k) (c + q) := fun q => congrArg SetTable.Probe.j (sh q)
    have spec := go_spec t R.tab.ris R.tab.dm (fun i => (es[i]?.map (·.1)).getD 0) (kh P w k) (10 * SetTable.turns t.mask) (K - c) _ hnd (by omega)
      (fun q hq => by rw [e1]; exact hKb (c + q) (by omega)) (by rw [e1, show c + (K - c) = K by omega]; exact hK)
    rcases spec with ⟨q, i, hq, hi, hh, hno, hpr⟩ | ⟨hno, hpr⟩
    · have hpr' : t.probe (fun i => (es[i]?.map (·.1)).getD 0) (kh P w k) (stand.getD (t.probeStart (kh P w k))) = some (.candidate (way t.mask (kh P w k) (c + q)) i (nth t.mask (runAt t.mask (SetTable.bits (kh P w k) % (t.mask + 1)) (SetTable.bits (kh P w k))) (c + (q + 1)))) := by
        rw [hst, ← e1, ← sh]
        exact hpr
      rw [hpr']
      dsimp only
      rw [e1] at hi
      have hil : i < L.length := by
        have h1 : i < t.place.toList.length := (List.getElem?_eq_some_iff.mp hi).1
        have h2 := R.tab.sz
        rw [Array.length_toList] at h1
        omega
      have hp : L[i]? = some L[i] := List.getElem?_eq_getElem hil
      generalize hpe : L[i] = p at hp
      have hmem : p ∈ L := List.mem_of_getElem? hp
      have hpt := R.tup p hmem
      have hkk : ¬ p.2 = k := fun e => hnk (List.mem_map.mpr ⟨p, hmem, e⟩)
      have rest : wpAny (model P w) A (searchRest a (.ref x) (kh P w k) true f es t (way t.mask (kh P w k) (c + q)) i (nth t.mask (runAt t.mask (SetTable.bits (kh P w k) % (t.mask + 1)) (SetTable.bits (kh P w k))) (c + (q + 1)))) Q E s := by
        unfold searchRest
        rw [R.entry hp]
        dsimp only
        refine wpAny_bind (wpAny_holding (wpAny_eqBool_tuple hu hpt hx ?_))
        refine wpAny_bind (wpAny_setState_of ho hd R.fits ?_)
        dsimp only
        refine wp_if_neg (by simp [hkk]) ?_
        try refine wpAny_bind (wpAny_pure ?_)
        rw [sameMem]
        dsimp only
        have hsl : t.slot (way t.mask (kh P w k) (c + q)) = .live i := slot_live R.tab.ris hi
        simp only [if_true, hsl, R.entry hp]
        refine wpAny_bind (wpAny_isSame_ref_self (wpAny_bind (wpAny_pure ?_)))
        simp only [if_true]
        refine wp_if_neg (by simp [hkk]) ?_
        exact searchG_from R hx hnk hu hKf hK hKb hout f (c + (q + 1)) _ rfl (by omega) (by omega)
      by_cases hl : t.led = true
      · refine wp_if_neg (by simp [hl]) ?_
        try refine wpAny_bind (wpAny_pure ?_)
        exact rest
      · refine wp_if_pos (by simp [hl]) ?_
        refine wpAny_bind (seen_key hx (fun y hy => ?_) ?_)
        · obtain ⟨e, he, ee⟩ := List.mem_map.mp hy
          have he1 : e ∈ es ∧ e.1 = kh P w k := by simpa using he
          have he2 : e ∈ es.toList := by simpa using he1.1
          rw [R.rows] at he2
          obtain ⟨p2, hp2, e2⟩ := List.mem_map.mp he2
          refine ⟨p2.2, p2.1, ?_, R.tup p2 hp2⟩
          rw [← ee, ← e2]
        · refine wp_if_neg (by decide) ?_
          try refine wpAny_bind (wpAny_pure ?_)
          exact rest
    · have hpr' : t.probe (fun i => (es[i]?.map (·.1)).getD 0) (kh P w k) (stand.getD (t.probeStart (kh P w k))) = some (.empty (way t.mask (kh P w k) K) none) := by
        have e2 : way t.mask (kh P w k) K = (nth t.mask (nth t.mask (runAt t.mask (SetTable.bits (kh P w k) % (t.mask + 1)) (SetTable.bits (kh P w k))) c) (K - c)).j := by
          rw [e1, show c + (K - c) = K by omega]
        rw [hst, e2]
        exact hpr
      rw [hpr']
      dsimp only
      exact wpAny_pure hout
theorem searchG (R : SetG P w s.heap a L es ep t) {x : Addr} {k : List Key} (hx : KT P w s.heap k x) (hnk : k ∉ L.map (·.2)) (hu : A.units < cLine) {Q : SetFound → Shared → Prop}
    (hout : ∀ j, j ∉ t.place.toList → Q (.free j false) s) :
    wpAny (model P w) A (setSearch a (.ref x) (kh P w k) true) Q E s := by
  have hroom := R.room
  obtain ⟨K, hKf, hK, hKb⟩ := R.tab.first (by omega) (kh P w k)
  have hbig : K < 100000 := by
    have : 10 * SetTable.turns t.mask ≤ 30000 := by
      unfold SetTable.turns
      rcases R.tab.mok with e | e | e | e | e <;> omega
    omega
  unfold setSearch
  exact searchG_from R hx hnk hu hKf hK hKb (hout _ hK) 100000 0 none rfl (Nat.zero_le _) (by omega)
theorem kt_same {h h' : Heap} {k : List Key} {a b : Addr} {o : Obj} {es : Array (Int × Value)} {ep : Nat} {t : SetTable} (hb : KT P w h k b) (ho : h.get? a = some o) (hd : o.data = .set es ep t) (hs : Heap.SameBut a h h') : KT P w h' k b := by
  obtain ⟨o', items, n, ho', hc, hd', hi⟩ := hb
  have hne : b ≠ a := by
    rintro rfl
    obtain rfl : o' = o := Option.some.inj (ho'.symm.trans ho)
    rw [hd] at hd'
    exact nomatch hd'
  exact ⟨o', items, n, (hs.2 b hne).trans ho', hc, hd', hi⟩
theorem kt_keep {h h' : Heap} {k : List Key} {b : Addr} (x : KT P w h k b) (hk : ∀ c o, h.get? c = some o → h'.get? c = some o) : KT P w h' k b := by
  obtain ⟨o, items, n, ho, r⟩ := x
  exact ⟨o, items, n, hk b o ho, r⟩
theorem rowsG_put (L : List (Addr × List Key)) (p : Nat) (x : Addr) (k : List Key) : rowsG P w (L.take p ++ (x, k) :: L.drop p) = (rowsG P w L).take p ++ (kh P w k, Value.ref x) :: (rowsG P w L).drop p := by
  unfold rowsG
  rw [List.map_append, List.map_cons, List.map_take, List.map_drop]
theorem orderG (L : List (Addr × List Key)) (es : Array (Int × Value)) (order : Array Nat) (hr : es.toList = rowsG P w L) (hp : order.toList.Perm (List.range L.length)) :
    ∃ L2, (order.filterMap (es[·]?)).toList = rowsG P w L2 ∧ L2.Perm L := by
  have ent : ∀ i (h : i < L.length), es[i]? = some (kh P w (L[i]).2, Value.ref (L[i]).1) := fun i h => by
    rw [← Array.getElem?_toList, hr]
    unfold rowsG
    rw [List.getElem?_map, List.getElem?_eq_getElem h] <;> rfl
  have key : ∀ l : List Nat, (∀ i ∈ l, i < L.length) → l.filterMap (fun i => es[i]?) = rowsG P w (l.filterMap (fun i => L[i]?)) := by
    intro l
    induction l with
    | nil => intro _; rfl
    | cons i l ih =>
      intro hl
      have hi := hl i List.mem_cons_self
      rw [List.filterMap_cons_some (ent i hi), List.filterMap_cons_some (List.getElem?_eq_getElem hi), ih fun j hj => hl j (List.mem_cons_of_mem _ hj)] <;> rfl
  refine ⟨order.toList.filterMap (fun i => L[i]?), by
    have := key order.toList fun i hi => List.mem_range.mp (hp.mem_iff.mp hi)
    first | (rw [Array.toList_filterMap]; exact this) | simpa using this, ?_⟩
  have h2 : (List.range L.length).filterMap (fun i => L[i]?) = L := by
    have key2 : ∀ n, n ≤ L.length → (List.range n).filterMap (fun i => L[i]?) = L.take n := by
      intro n
      induction n with
      | zero => intro _; rfl
      | succ n ih =>
        intro hn
        have hlt : n < L.length := hn
        rw [List.range_succ, List.filterMap_append, ih (Nat.le_of_lt hlt), List.take_succ, List.getElem?_eq_getElem hlt]
        rw [List.filterMap_cons_some (List.getElem?_eq_getElem hlt)] <;> rfl
    rw [key2 L.length (Nat.le_refl _), List.take_length]
  have h1 := hp.filterMap (fun i => L[i]?)
  rw [h2] at h1
  exact h1
/-- laid anew, larger -/
theorem relayG {o : Obj} (ho : s.heap.get? a = some o) (hex : o.ExactSet) (hd : o.data = .set es ep t) (hrows : es.toList = rowsG P w L) (hsz : t.place.size = es.size) (hdm : t.dummies = #[]) (hfl : es.size ≤ t.mask)
    (tup : ∀ p ∈ L, KT P w s.heap p.2 p.1) {wanted M : Nat} (hfew : L.length ≤ 100000)
    (hw : SetTable.sizeAbove wanted - 1 = M) (hM : MaskP M) (hw2 : SetTable.sizeAbove wanted ≤ 2048) (hn : L.length * 5 < M * 3) {Q : Unit → Shared → Prop}
    (hQ : ∀ h' L' es' ep' t', Heap.SameBut a s.heap h' → SetG P w h' a L' es' ep' t' → L'.Perm L → Q () { s with heap := h' }) : wpAny (model P w) A (setRelay a wanted) Q E s := by
  have hsl : es.size = L.length := rowsG_size hrows
  have hfits : t.fits es.size = true := by
    unfold SetTable.fits SetTable.fill
    rw [hdm, Bool.and_eq_true, beq_iff_eq, decide_eq_true_eq]
    show t.place.size = es.size ∧ t.place.size + 0 ≤ t.mask
    omega
  obtain ⟨t', order, e, hp, T, em⟩ := relaidG t (hs := es.map (·.1)) (wanted := wanted) hw hM (by rw [Array.size_map, hsl]; omega)
  rw [Array.size_map, hsl] at hp T
  obtain ⟨L2, r1, r2⟩ := orderG L es order hrows hp
  rw [← r2.length_eq] at T
  have hs2 : (order.filterMap (es[·]?)).size = es.size := by
    rw [rowsG_size r1, r2.length_eq, hsl]
  rw [setRelay_eq]
  refine wpAny_bind (wpAny_setState_of ho hd hfits ?_)
  dsimp only
  refine wp_if_neg (by rw [sizeLine_eq]; omega) ?_
  try refine wpAny_bind (wpAny_pure ?_)
  rw [e]
  dsimp only
  refine wpAny_bind ?_
  refine wp_if_neg (by rw [hs2]; simp) ?_
  try refine wpAny_bind (wpAny_pure ?_)
  refine wpAny_pure ?_
  dsimp only
  refine wpAny_storeSet_of ho hd ?_ (by rw [hs2, hsl, sizeLine_eq]; omega)
  have sb : Heap.SameBut a s.heap (s.heap.update a (Obj.putSet (order.filterMap (es[·]?)) t')) := Heap.SameBut.update ..
  refine hQ _ L2 (order.filterMap (es[·]?)) (ep + 1) t' sb ?_ r2
  refine ⟨⟨_, store_at ho hd, ⟨hex.1, hex.2.1, hex.2.2⟩, rfl⟩, r1, T, fun p hpm => kt_same (tup p (r2.mem_iff.mp hpm)) ho hd sb, ?_⟩
  rw [r2.length_eq, em]
  exact hn
theorem sa5 : SetTable.sizeAbove (SetTable.grown 5) = 32 := by decide +kernel
theorem sa19 : SetTable.sizeAbove (SetTable.grown 19) = 128 := by decide +kernel
theorem sa77 : SetTable.sizeAbove (SetTable.grown 77) = 512 := by decide +kernel
theorem sa307 : SetTable.sizeAbove (SetTable.grown 307) = 2048 := by decide +kernel
/-- adding one that isn't there -/
theorem addG (R : SetG P w s.heap a L es ep t) {x : Addr} {k : List Key} (hx : KT P w s.heap k x) (hnk : k ∉ L.map (·.2)) (hu : A.units < cLine) (hfew : L.length + 1 ≤ 1228) {Q : Bool → Shared → Prop}
    (hQ : ∀ b h' L' es' ep' t', Heap.SameBut a s.heap h' → SetG P w h' a L' es' ep' t' → L'.Perm ((x, k) :: L) → Q b { s with heap := h' }) :
    wpAny (model P w) A (setAddHashed a (.ref x) (kh P w k)) Q E s := by
  obtain ⟨o, ho, hex, hd⟩ := R.ob
  have hsl := R.size
  have hroom := R.room
  unfold setAddHashed
  refine wpAny_holding ?_
  rw [show (100000 : Nat) = 99999 + 1 from rfl, setAddHashedIn_succ]
  refine wpAny_bind (wpAny_setState_of ho hd R.fits ?_)
  dsimp only
  refine wp_if_neg (by simp [byScan, Value.scannable]) ?_
  try refine wpAny_bind (wpAny_pure ?_)
  refine wpAny_bind (searchG R hx hnk hu fun j hj => ?_)
  dsimp only
  refine wpAny_bind (wpAny_setState_of ho hd R.fits ?_)
  dsimp only
  obtain ⟨q1, q2, q3, q4, q9⟩ := R.tab.put hj
  generalize hpt : t.put j = pt at q1 q3 q4 q9 ⊢
  obtain ⟨t1, p⟩ := pt
  dsimp only at q1 q3 q4 q9 ⊢
  subst q1
  have key : ∀ t2 : SetTable, t2.place = t1.place → t2.dummies = t1.dummies → t2.mask = t1.mask →
      wpAny (model P w) A (do storeSet a (SetTable.insertAt es (SetTable.below t.place j) (kh P w k, Value.ref x)) t2
                              if !false && t2.tooFull then setRelay a (SetTable.grown (es.size + 1))
                              return true) Q E s := by
    intro t2 g1 g2 g3
    have q3' : TabG t2 (L.length + 1) := ⟨by rw [g1]; exact q3.ris, by rw [g2]; exact q3.dm, by rw [g1]; exact q3.sz, by rw [g3]; exact q3.mok⟩
    have q4' : t2.mask = t.mask := g3.trans q4
    have q9' : t2.fill = L.length + 1 := by
      unfold SetTable.fill at q9 ⊢
      rw [g1, g2]; exact q9
    have hin : (SetTable.insertAt es (SetTable.below t.place j) (kh P w k, Value.ref x)).toList = rowsG P w (L.take (SetTable.below t.place j) ++ (x, k) :: L.drop (SetTable.below t.place j)) := by
      rw [SetTable.toList_insertAt, rowsG_put, R.rows]
    generalize hpp : SetTable.below t.place j = p at q2 hin ⊢
    have pm := put_perm L p (x, k)
    have hlen : (L.take p ++ (x, k) :: L.drop p).length = L.length + 1 := pm.length_eq
    have hes : (SetTable.insertAt es p (kh P w k, Value.ref x)).size = L.length + 1 := by
      rw [rowsG_size hin, hlen]
    generalize SetTable.insertAt es p (kh P w k, Value.ref x) = es1 at hin hes ⊢
    generalize L.take p ++ (x, k) :: L.drop p = L1 at pm hlen hin
    rw [← hlen] at q3'
    refine wpAny_bind (wpAny_storeSet_of ho hd ?_ (by rw [hes, sizeLine_eq]; omega))
    have sb : Heap.SameBut a s.heap (s.heap.update a (Obj.putSet es1 t2)) := Heap.SameBut.update ..
    have ho1 := store_at (es' := es1) (t' := t2) ho hd
    generalize s.heap.update a (Obj.putSet es1 t2) = h1 at sb ho1 ⊢
    have tup1 : ∀ p ∈ L1, KT P w h1 p.2 p.1 := fun p hp => by
      rcases List.mem_cons.mp (pm.mem_iff.mp hp) with e | hp
      · rw [e]; exact kt_same hx ho hd sb
      · exact kt_same (R.tup p hp) ho hd sb
    by_cases hf : t2.tooFull = true
    · first
        | (refine wpAny_bind ?_; refine wp_if_pos (by simp [hf]) ?_)
        | (refine wp_if_pos (by simp [hf]) ?_; refine wpAny_bind ?_)
      have hfull : (L.length + 1) * 5 ≥ t2.mask * 3 := by
        have h := hf
        unfold SetTable.tooFull at h
        rw [decide_eq_true_eq, q9'] at h
        exact h
      rw [hsl]
      have hsz1 : t2.place.size = es1.size := by rw [q3'.sz, hlen, hes]
      have cases2 : (t.mask = 7 ∧ L.length = 4) ∨ (t.mask = 31 ∧ L.length = 18) ∨ (t.mask = 127 ∧ L.length = 76) ∨ (t.mask = 511 ∧ L.length = 306) := by
        rcases R.tab.mok with e | e | e | e | e
        · left; rw [q4', e] at hfull; rw [e] at hroom; exact ⟨e, by omega⟩
        · right; left; rw [q4', e] at hfull; rw [e] at hroom; exact ⟨e, by omega⟩
        · right; right; left; rw [q4', e] at hfull; rw [e] at hroom; exact ⟨e, by omega⟩
        · right; right; right; rw [q4', e] at hfull; rw [e] at hroom; exact ⟨e, by omega⟩
        · exfalso; rw [q4', e] at hfull; omega
      have go : ∀ M, SetTable.sizeAbove (SetTable.grown (L.length + 1)) - 1 = M → MaskP M → SetTable.sizeAbove (SetTable.grown (L.length + 1)) ≤ 2048 → (L.length + 1) * 5 < M * 3 →
          wpAny (model P w) A (setRelay a (SetTable.grown (L.length + 1))) (fun _ s' => wpAny (model P w) A (pure true) Q E s') E { s with heap := h1 } := fun M h1' h2' h3' h4' => by
        refine relayG (s := { s with heap := h1 }) ho1 ⟨hex.1, hex.2.1, hex.2.2⟩ rfl hin hsz1 q3'.dm (by rw [hes, q4']; rcases cases2 with ⟨e, e2⟩ | ⟨e, e2⟩ | ⟨e, e2⟩ | ⟨e, e2⟩ <;> omega) tup1 (by rw [hlen]; omega) h1' h2' h3' (by rw [hlen]; exact h4') ?_
        intro h2 L2 es2 ep2 t3 sb2 R2 pm2
        exact wpAny_pure (hQ true h2 L2 es2 ep2 t3 (sb.trans sb2) R2 (pm2.trans pm))
      rcases cases2 with ⟨_, e2⟩ | ⟨_, e2⟩ | ⟨_, e2⟩ | ⟨_, e2⟩
      · exact go 31 (by rw [e2, sa5]) (.inr (.inl rfl)) (by rw [e2, sa5]; decide) (by omega)
      · exact go 127 (by rw [e2, sa19]) (.inr (.inr (.inl rfl))) (by rw [e2, sa19]; decide) (by omega)
      · exact go 511 (by rw [e2, sa77]) (.inr (.inr (.inr (.inl rfl)))) (by rw [e2, sa77]; decide) (by omega)
      · exact go 2047 (by rw [e2, sa307]) (.inr (.inr (.inr (.inr rfl)))) (by rw [e2, sa307]; decide) (by omega)
    · first
        | refine wp_if_neg (by simp [hf]) ?_
        | (refine wpAny_bind ?_; refine wp_if_neg (by simp [hf]) ?_; refine wpAny_pure ?_)
      refine wpAny_pure (hQ true h1 L1 es1 (ep + 1) t2 sb ⟨⟨_, ho1, ⟨hex.1, hex.2.1, hex.2.2⟩, rfl⟩, hin, q3', tup1, ?_⟩ pm)
      have h := hf
      unfold SetTable.tooFull at h
      rw [decide_eq_true_eq, q9'] at h
      rw [hlen]
      omega
  by_cases hp1 : t1.plain = true
  · first
      | (refine wpAny_bind ?_; refine wp_if_pos hp1 ?_; refine hashBy_any hx fun c => ?_)
      | refine wp_if_pos hp1 (wpAny_bind (hashBy_any hx fun c => ?_))
    cases c with
    | true => exact key t1 rfl rfl rfl
    | false => exact key { t1 with plain := false } rfl rfl rfl
  · first
      | (refine wpAny_bind ?_; refine wp_if_neg hp1 ?_; refine wpAny_pure ?_)
      | refine wp_if_neg hp1 (wpAny_bind (wpAny_pure ?_))
    exact key t1 rfl rfl rfl
end
end Yd
set_option Elab.async false
set_option linter.all false
set_option maxRecDepth 100000
set_option maxHeartbeats 4000000
namespace Yd
open PySem PySem.Spec PyProof.Rows L2
section
variable {P : Program} {w : World} {A : Around} {E : Value → Shared → Prop} {s : Shared}
theorem SetG.keep {h h' : Heap} {a : Addr} {L : List (Addr × List Key)} {es : Array (Int × Value)} {ep : Nat} {t : SetTable} (R : SetG P w h a L es ep t) (ha : ∀ o, h.get? a = some o → h'.get? a = some o) (ht : ∀ p ∈ L, KT P w h' p.2 p.1) : SetG P w h' a L es ep t := by
  obtain ⟨o, ho, r⟩ := R.ob
  exact ⟨⟨o, ha o ho, r⟩, R.rows, R.tab, ht, R.room⟩
theorem setG_fresh {h : Heap} {a : Addr} (ho : h.get? a = some { cls := .type "set", dict := none, data := .set #[] 0 (.fresh 0 0 (!w.params.followText "set-order")) }) : SetG P w h a [] #[] 0 (.fresh 0 0 (!w.params.followText "set-order")) where
  ob := ⟨_, ho, ⟨rfl, rfl, rfl⟩, rfl⟩
  rows := rfl
  tab := ⟨List.Pairwise.nil, rfl, rfl, .inl rfl⟩
  tup := fun p hp => (by cases hp)
  room := by
    show 0 * 5 < 7 * 3
    decide
theorem set_updateG {I : Addr} {fp wr : List Addr} {G : Array GenState → Array GenState → Prop} {n : Nat} {Pv : Nat → Value → Prop} {St : Nat → Shared → Prop} {R : Result → Shared → Prop}
    (W : WalksS P w A.in1 I fp wr G n Pv St) (S : Addr) (hSf : S ∉ fp) (ks : List (Addr × List Key)) (hn : n = ks.length) (hnd : (ks.map (·.2)).Nodup) (hfew : ks.length ≤ 1228) (hval : ∀ i v, Pv i v → ∃ p, ks[i]? = some p ∧ v = .ref p.1)
    (h0 : Heap) (hk : ∀ p ∈ ks, KT P w h0 p.2 p.1) (hS0 : h0.get? S = none) (hw0 : ∀ b ∈ wr, h0.get? b = none) (hu : A.in1.units < cLine) :
    ∀ (k i : Nat) (s : Shared), n - i = k → i ≤ n → St i s → (∀ b o, h0.get? b = some o → s.heap.get? b = some o) → (∃ L es ep t, SetG P w s.heap S L es ep t ∧ L.Perm (ks.take i)) →
      (∀ s' L es ep t, Moved (S :: wr) G s s' → SetG P w s'.heap S L es ep t → L.Perm ks → (∀ b o, h0.get? b = some o → s'.heap.get? b = some o) → R (.ok (.ret .none)) s') →
      codeAny (model P w) A (.builtin "set.update.loop" ⟨[.ref S, .ref I], []⟩) R s := by
  have hSw : S ∉ wr := fun h => hSf (W.sub _ h)
  have hsub : ∀ b ∈ wr, b ∈ S :: wr := fun b hb => List.mem_cons_of_mem _ hb
  have keepM : ∀ {s s' : Shared}, Moved wr G s s' → (∀ b o, h0.get? b = some o → s.heap.get? b = some o) → ∀ b o, h0.get? b = some o → s'.heap.get? b = some o := fun hm hkp b o e =>
    hm.heap b o (fun hb => by rw [hw0 b hb] at e; cases e) (hkp b o e)
  intro k
  induction k with
  | zero =>
    intro i s hk' hi hst hkp ⟨L, es, ep, t, hS, g⟩ hR
    have hin : i = n := by omega
    subst hin
    refine codeAny_builtin F.entry_set_update_loop ?_
    rw [Around.under_plainId F.plain_set_update_loop _]
    show wpAny _ A.in1 (pyNext (.ref I) >>= _) _ _ s
    refine wpAny_bind (W.done s _ _ hst fun s' hm => ?_)
    show wpAny _ A.in1 (ret Value.none) _ _ s'
    have hkp' := keepM hm hkp
    rw [hn, List.take_length] at g
    have sub : ∀ p ∈ L, p ∈ ks := fun p hp => g.mem_iff.mp hp
    exact wpAny_pure (hR s' L es ep t (hm.mono hsub) (hS.keep (fun o e => hm.heap S o hSw e) fun p hp => kt_keep (hk p (sub p hp)) hkp') g hkp')
  | succ k ih =>
    intro i s hk' hi hst hkp ⟨L, es, ep, t, hS, g⟩ hR
    have hlt : i < n := by omega
    refine codeAny_builtin F.entry_set_update_loop ?_
    rw [Around.under_plainId F.plain_set_update_loop _]
    show wpAny _ A.in1 (pyNext (.ref I) >>= _) _ _ s
    refine wpAny_bind (W.item i s _ _ hlt hst fun v s' hP hst' hm => ?_)
    obtain ⟨p, hp, rfl⟩ := hval i v hP
    have hkp' := keepM hm hkp
    have sub : ∀ p ∈ L, p ∈ ks := fun p hp => List.mem_of_mem_take (g.mem_iff.mp hp)
    have hS' : SetG P w s'.heap S L es ep t := hS.keep (fun o e => hm.heap S o hSw e) fun q hq => kt_keep (hk q (sub q hq)) hkp'
    have hx : KT P w s'.heap p.2 p.1 := kt_keep (hk p (List.mem_of_getElem? hp)) hkp'
    have hilt : i < ks.length := by omega
    have htk : ks.take (i + 1) = ks.take i ++ [p] := take_next hp
    have hnk : p.2 ∉ L.map (·.2) := fun hm => by
      have hm2 : p.2 ∈ (ks.take i).map (·.2) := (g.map (·.2)).mem_iff.mp hm
      have nd2 : ((ks.take (i + 1)).map (·.2)).Nodup := hnd.sublist ((List.take_sublist _ _).map _)
      rw [htk, List.map_append, List.nodup_append] at nd2
      exact nd2.2.2 _ hm2 _ (by simp) rfl
    show wpAny _ A.in1 (holding [Value.ref p.1] (setAdd S (.ref p.1)) >>= _) _ _ s'
    refine wpAny_bind (wpAny_holding ?_)
    unfold setAdd
    refine wpAny_holding ?_
    refine wpAny_bind (wpAny_pyHash_tuple hu hx ?_)
    have gl : L.length = i := by rw [g.length_eq, List.length_take]; omega
    refine addG (s := { s' with toks := s'.toks + (p.2.length + 1) }) hS' hx hnk hu (by omega) fun b h' L' es' ep' t' hsb hS2 c2 => ?_
    have g' : L'.Perm (ks.take (i + 1)) := by
      rw [htk]
      exact c2.trans ((g.cons _).trans (List.perm_append_singleton _ _).symm)
    have hkp2 : ∀ b o, h0.get? b = some o → h'.get? b = some o := fun b o e => (hsb.2 b (fun z => by rw [z, hS0] at e; cases e)).trans (hkp' b o e)
    refine wpAny_pure ⟨plainId_quiet F.plain_set_update_loop _, ih (i + 1) _ (by omega) hlt (W.frame _ s' _ _ hst' (Nat.le_add_right _ _) fun b hb o e => ?_) hkp2 ⟨L', es', ep', t', hS2, g'⟩ fun s'' L2 es2 ep2 t2 hm'' hS'' g'' hkp'' => ?_⟩
    · rw [hsb.2 b (fun h : b = S => hSf (by rw [← h]; exact hb))]; exact e
    · refine hR s'' L2 es2 ep2 t2 (Moved.trans W.gtrans ((hm.mono hsub).then_heap (Nat.le_add_right _ _) fun b o hb e => ?_) hm'') hS'' g'' hkp''
      rw [hsb.2 b (fun h : b = S => hb (by rw [h]; exact List.mem_cons_self))]; exact e
/-- set(xs) -/
theorem call_setG {l : Addr} {items : Array Value} (ks : List (Addr × List Key)) {Q : Value → Shared → Prop} (hh : A.handled = none) (hl : s.heap.IsList l items) (hit : items.toList = ks.map fun p => Value.ref p.1)
    (hk : ∀ p ∈ ks, KT P w s.heap p.2 p.1) (hnd : (ks.map (·.2)).Nodup) (hfew : ks.length ≤ 1228) (hu : A.units + 3 < cLine)
    (h : ∀ (h' : Heap) (tk : Nat) L es ep t, SetG P w h' s.heap.objs.size L es ep t → L.Perm ks → (∀ b o, s.heap.get? b = some o → h'.get? b = some o) → Q (.ref s.heap.objs.size) { s with heap := h', toks := tk }) :
    wpAny (model P w) A (call (.type "set") [.ref l]) Q E s := by
  have hisz : items.size = ks.length := by
    have q := congrArg List.length hit
    rw [Array.length_toList, List.length_map] at q
    exact q
  obtain ⟨c, tl, hmro⟩ := F.called_set.mro
  have hmade := F.called_set.made
  have hsub := F.called_set.sub
  refine wpAny_call (codeAny_of_tree ?_)
  show wpAny _ _ (callAny (.type "set") _) _ _ _
  refine wpAny_pure ⟨Code.quiet_builtin _ (by decide +kernel), codeAny_builtin F.entry_type_call ?_⟩
  rw [Around.under_plain (weight_type_call_type "set" [.ref l] []) rfl]
  have h1 := F.called_set.notType
  have h2 := F.called_set.canCreate
  have hct := F.typeCall_set_1 (.ref l)
  repeat (any_goals (first | assumption | wp_step))

  refine codeAny_mono (code_set_led1 (.ref l) (E := E) (Q₁ := fun obj s₁ => obj = .ref s.heap.objs.size ∧ s₁ = { s with heap := s.heap.push { cls := .type "set", dict := none, data := .set #[] 0 (.fresh 0 0 (!w.params.followText "set-order")) } }) ⟨rfl, rfl⟩) fun r s₁ hr => ?_
  cases r with
  | error e => exact hr
  | ok fl =>
    cases fl with
    | ret obj =>
      obtain ⟨rfl, rfl⟩ := hr
      have hS : (s.heap.push { cls := .type "set", dict := none, data := .set #[] 0 (.fresh 0 0 (!w.params.followText "set-order")) }).get? s.heap.objs.size = some { cls := .type "set", dict := none, data := .set #[] 0 (.fresh 0 0 (!w.params.followText "set-order")) } := Heap.get?_push_size _ rfl
      have hT : Shared.TypeIs { s with heap := s.heap.push { cls := .type "set", dict := none, data := .set #[] 0 (.fresh 0 0 (!w.params.followText "set-order")) } } (.ref s.heap.objs.size) "set" := ⟨_, hS, rfl⟩
      have hli := F.called_set.init.lookup
      have hbi := F.called_set.init.bind (.ref s.heap.objs.size)
      repeat (any_goals (first | assumption | wp_step))

      refine codeAny_mono (codeAny_call_builtin (R := wants (fun r s₂ => r = .none ∧ ∃ h' tk L es ep t, s₂ = { s with heap := h', toks := tk } ∧ SetG P w h' s.heap.objs.size L es ep t ∧ L.Perm ks ∧
          (∀ b o, s.heap.get? b = some o → h'.get? b = some o)) E) F.called_set.init.plain F.entry_set_init (check_set_init_1 hT ?_)) fun r₂ s₂ hr₂ => ?_
      · obtain ⟨ol, hol, hcl, nl, hdl⟩ := hl
        obtain ⟨ocls, odict, odata, oslots⟩ := ol
        simp only at hcl hdl
        subst hcl; subst hdl
        have hol' : (s.heap.push { cls := .type "set", dict := none, data := .set #[] 0 (.fresh 0 0 (!w.params.followText "set-order")) }).get? l = some { cls := .type "list", dict := odict, data := .seq items nl, slots := oslots } := Heap.get?_push_of_some _ hol
        have hsls := F.sub_list_set
        have hslf := F.sub_list_frozenset
        have hne : (Value.type "list" == Value.type "dict") = false := by decide
        have hl1 : (s.heap.push { cls := .type "set", dict := none, data := .set #[] 0 (.fresh 0 0 (!w.params.followText "set-order")) }).IsList l items := ⟨_, hol', rfl, nl, rfl⟩
        unfold Builtin.«set.__init__» noKeywords Builtin.Frozenset.updateFrom
        generalize hPI : pyIter = PI
        wp_walk
        subst hPI

        refine wpAny_pyIter_list hl1 ?_
        refine wpAny_bind (wpAny_runValue ?_)
        have hlS : l < s.heap.objs.size := Heap.lt_size hol
        have hh3 : A.in1.in1.in1.handled = none := by simp [hh]
        have hz1 : (s.heap.push { cls := .type "set", dict := none, data := .set #[] 0 (.fresh 0 0 (!w.params.followText "set-order")) }).objs.size = s.heap.objs.size + 1 := Heap.size_push ..
        have hneI : l ≠ (s.heap.push { cls := .type "set", dict := none, data := .set #[] 0 (.fresh 0 0 (!w.params.followText "set-order")) }).objs.size := by
          rw [Heap.size_push]; exact Nat.ne_of_lt (Nat.lt_succ_of_lt hlS)
        have hSf : s.heap.objs.size ∉ [(s.heap.push { cls := .type "set", dict := none, data := .set #[] 0 (.fresh 0 0 (!w.params.followText "set-order")) }).objs.size, l] := by
          rw [Heap.size_push]; simp only [List.mem_cons, List.mem_singleton, List.not_mem_nil, or_false, not_or]
          exact ⟨Nat.ne_of_lt (Nat.lt_succ_self _), Nat.ne_of_gt hlS⟩
        have hval : ∀ (i : Nat) (v : Value), items[i]? = some v → ∃ p, ks[i]? = some p ∧ v = .ref p.1 := fun i v hv => by
          have q : items.toList[i]? = some v := by rw [Array.getElem?_toList]; exact hv
          rw [hit, List.getElem?_map] at q
          cases hq : ks[i]? with
          | none => rw [hq] at q; cases q
          | some p =>
            rw [hq] at q
            exact ⟨p, rfl, (Option.some.inj q).symm⟩
        have none_of : ∀ b, s.heap.objs.size ≤ b → s.heap.get? b = none := fun b hb => by
          cases q : s.heap.get? b with
          | none => rfl
          | some o => exact absurd (Nat.lt_of_lt_of_le (Heap.lt_size q) hb) (Nat.lt_irrefl _)
        refine set_updateG ((Walks.list hh3 _ l hneI items).toS) s.heap.objs.size
          hSf ks hisz hnd hfew hval s.heap hk (none_of _ (Nat.le_refl _)) (fun b hb => none_of b (by
            rw [List.mem_singleton.mp hb, Heap.size_push]
            exact Nat.le_succ _)) hu (items.size - 0) 0 _ (by omega) (Nat.zero_le _)
          ⟨⟨_, Heap.get?_push_size _ rfl, rfl, rfl⟩, (hl1.push _)⟩ (fun b o e => Heap.get?_push_of_some _ (Heap.get?_push_of_some _ e)) ?hS0 ?hR
        case hS0 =>
          have hget : ((s.heap.push { cls := .type "set", dict := none, data := .set #[] 0 (.fresh 0 0 (!w.params.followText "set-order")) }).push { cls := .type "list_iterator", data := .fields #[.ref l, .int 0 0] }).get? s.heap.objs.size
              = some { cls := .type "set", dict := none, data := .set #[] 0 (.fresh 0 0 (!w.params.followText "set-order")) } := Heap.get?_push_of_some _ hS
          exact ⟨[], #[], 0, _, setG_fresh hget, List.Perm.refl _⟩
        case hR =>
          intro s' L es ep t hm hS' g' hkp
          obtain ⟨h', g2, d', tk', os'⟩ := s'
          have eg : g2 = s.gens := hm.gens
          have ed : d' = s.drawn := hm.drawn
          have eo : os' = s.os := hm.os
          subst eg; subst ed; subst eo
          show wpAny _ _ _ _ _ _
          refine wpAny_pure ?_
          show wpAny _ _ (ret Value.none) _ _ _
          exact wpAny_pure ⟨rfl, h', tk', L, es, ep, t, rfl, hS', g', hkp⟩

      · cases r₂ with
        | error e => exact hr₂
        | ok fl₂ =>
          cases fl₂ with
          | ret r =>
            obtain ⟨rfl, h', tk, L, es, ep, t, rfl, hS', g', hk'⟩ := hr₂
            repeat (any_goals (first | assumption | wp_step))
            exact h _ _ _ _ _ _ hS' g' hk'
          | _ => exact hr₂.elim
    | _ => exact hr.elim
end
/-! ### len(set(xs)), xs a list of distinct roads -/
def rdK (r : Road) : List Key := [.inr r.1, .inl (r.2.1 : Int), .inl (r.2.2 : Int)]
theorem rdK_inj {r q : Road} (h : rdK r = rdK q) : r = q := by
  obtain ⟨a, b, c⟩ := r
  obtain ⟨a', b', c'⟩ := q
  simp only [rdK, List.cons.injEq, Sum.inr.injEq, Sum.inl.injEq, and_true] at h
  obtain ⟨rfl, h2, h3⟩ := h
  have e2 : b = b' := by omega
  have e3 : c = c' := by omega
  rw [e2, e3]
theorem road_tup {G : Hp} {v : V} {r : Road} (h : DV G v (rd r)) : ∃ a, v = .ref a ∧ G a = some (.tup [.str r.1, .int r.2.1, .int r.2.2]) := by
  obtain ⟨a, xs, rfl, ha, dv⟩ := (show DV G v (.tuple _) from h).tup_inv
  refine ⟨a, rfl, ?_⟩
  rw [ha]
  cases dv with
  | cons h1 t1 =>
    cases t1 with
    | cons h2 t2 =>
      cases t2 with
      | cons h3 t3 =>
        cases t3
        rw [h1.str_inv, h2.int_inv, h3.int_inv]
theorem road_tups {G : Hp} : ∀ {rs : List Road} {vs : List V}, DVs G vs (rs.map rd) → ∃ as : List Addr, vs = as.map V.ref ∧ as.length = rs.length ∧ ∀ p ∈ as.zip rs, G p.1 = some (.tup [.str p.2.1, .int p.2.2.1, .int p.2.2.2])
  | [], _, .nil => ⟨[], rfl, rfl, fun _ h => by cases h⟩
  | r :: rs, _, .cons h k => by
    obtain ⟨a, rfl, ha⟩ := road_tup h
    obtain ⟨as, rfl, hl, hall⟩ := road_tups k
    refine ⟨a :: as, rfl, by simp [hl], fun p hp => ?_⟩
    rw [List.zip_cons_cons] at hp
    rcases List.mem_cons.mp hp with rfl | hp
    · exact ha
    · exact hall p hp
def tLenSetG (ta : TE) : TE := fun σ H Q => ta σ H fun x H1 => ∃ (G : Hp) (rs : List Road), Same G H1 ∧ DV G x (.list (rs.map rd)) ∧ rs.length ≤ 1228 ∧ rs.Nodup ∧ Q (.int rs.length) H1
section
variable {X : Cx}
theorem pe_lenSetG {a : Expr} {ta : TE} {p p2 q pos : Pos} (hc : X.calm = true) (hg : Gl X "len") (hm : X.mg "len" = none) (hg2 : Gl X "set") (hm2 : X.mg "set" = none) (hu : X.A.units + 70 < cLine) (ha : PE X a ta)
    (na : starEach [a] X.env = (false, eval a X.env) :: starEach [] X.env := by rfl) : PE X (.Call (.Name "len" p) [.Call (.Name "set" p2) [a] [] q] [] pos) (tLenSetG ta) := by
  refine ⟨fun pins s σ H Q I h => ?_⟩
  refine Call_ (ld_blt I hg hm PySem.boot_len ?_)
  refine PyProof.Rows.callWith_builtin1 (PyProof.Rows.args_cons ?_ rfl) rfl rfl
  refine Call_ (ld_blt I hg2 hm2 PyProof.Rows.boot_set ?_)
  refine PyProof.Rows.callWith_type1 (PyProof.Rows.args_cons (thn (ha.run pins s σ H _ I h) fun v s1 ⟨x, H1, I1, r1, q1⟩ => PyProof.Rows.args_nil ?_) na) na rfl
  obtain ⟨G, rs, z, hd, h1, hnd, q1⟩ := q1
  obtain ⟨l, xs, rfl, hl, dv⟩ := hd.lst_inv
  obtain ⟨as, rfl, hal, hall⟩ := road_tups dv
  cases r1
  obtain ⟨its, r, pl, hz⟩ := I1.list (SqL.of (z _ _ hl))
  have eits : its = as.map Value.ref := by
    have key : ∀ {as : List Addr} {us : List Value}, Vals (as.map V.ref) us → us = as.map Value.ref := by
      intro as
      induction as with
      | nil => intro us r; cases r; rfl
      | cons a as ih =>
        intro us r
        cases r with
        | cons r t =>
          cases r
          rw [ih t]; rfl
    exact key r
  have hzip : (as.zip (rs.map rdK)).map (fun p => Value.ref p.1) = as.map Value.ref := by
    rw [show (fun p : Addr × List Key => Value.ref p.1) = Value.ref ∘ Prod.fst from rfl, ← List.map_map, List.map_fst_zip (by rw [List.length_map, hal]; exact Nat.le_refl _)]
  have hsnd : (as.zip (rs.map rdK)).map (·.2) = rs.map rdK := List.map_snd_zip (by rw [List.length_map, hal]; exact Nat.le_refl _)
  have hlen : (as.zip (rs.map rdK)).length = rs.length := by rw [List.length_zip, List.length_map, hal, Nat.min_self]
  refine call_setG (P := X.prog) (w := X.w) (as.zip (rs.map rdK)) (I1.ok.hd hc) pl.isList (by rw [hzip, ← eits]) (fun p hp => ?_) ?_ (by rw [hlen]; exact h1) (by show X.A.units + 3 < cLine; omega) fun h' tk L es ep t R pm k => ?_
  · rw [List.zip_map_right] at hp
    obtain ⟨⟨a, r⟩, hq, rfl⟩ := List.mem_map.mp hp
    have ht := z _ _ (hall _ hq)
    obtain ⟨its2, rv, ⟨o, ho, hc2, n, hd2⟩, _⟩ := I1.tuple (SqT.of ht)
    refine ⟨o, its2.toArray, n, ho, hc2, hd2, ?_⟩
    have : Vals ((rdK r).map kV) its2 := rv
    simpa using items_are this
  · rw [hsnd]
    exact List.pairwise_map.mpr (hnd.imp fun hne e => hne (rdK_inj e))
  · refine PyProof.Rows.args_nil ?_
    obtain ⟨o, ho, hex, hd2⟩ := R.ob
    have hes : es.size = rs.length := by rw [rowsG_size R.rows, pm.length_eq, hlen]
    have I2 : Inv X pins σ H1 { s1 with heap := h', toks := tk } := I1.kept k
    exact call_len_set ho hex hd2 (SetG.fits (s := { s1 with heap := h', toks := tk }) R) (by rw [hes]; omega) ⟨.int rs.length, H1, I2.tok _, ⟨_, by rw [hes]⟩, q1⟩
end
theorem is_lenSet {σ : L2.St} {G : Hp} {te : TE} {rs : List Road} (h : Is te σ G (dat (.list (rs.map rd)))) (hn : rs.length ≤ 1228) (hd : rs.Nodup) : Is (tLenSetG te) σ G (dat (.int rs.length)) := fun G1 H1 s1 s2 Q k =>
  h G1 H1 s1 s2 _ fun x G2 H2 g2 px => ⟨G2, rs, g2.gh, px, hn, hd, k _ G2 H2 g2 (.int _)⟩
end Yd
set_option Elab.async false
set_option linter.all false
set_option maxRecDepth 100000
set_option maxHeartbeats 4000000
namespace Yd
open PySem PySem.Spec PyProof.Rows L2
section
variable {P : Program} {w : World} {A : Around} {E : Value → Shared → Prop} {s : Shared}
/-- set(xs), xs a list of ints -/
theorem call_setI {l : Addr} {items : Array Value} (ns : List Int) {Q : Value → Shared → Prop} (hh : A.handled = none) (hl : s.heap.IsList l items) (hit : IntsAre items.toList ns) (hb : ns.length + 1 < scanBound)
    (h : ∀ (h' : Heap) (tk c : Nat), SetR w h' s.heap.objs.size (fun j => decide (j ∈ ns)) c → c ≤ ns.length → (∀ b o, s.heap.get? b = some o → h'.get? b = some o) → Q (.ref s.heap.objs.size) { s with heap := h', toks := tk }) :
    wpAny (model P w) A (call (.type "set") [.ref l]) Q E s := by
  have hisz : items.size = ns.length := by
    have q := IntsAre.length hit
    rw [Array.length_toList] at q
    exact q
  obtain ⟨c, tl, hmro⟩ := F.called_set.mro
  have hmade := F.called_set.made
  have hsub := F.called_set.sub
  refine wpAny_call (codeAny_of_tree ?_)
  show wpAny _ _ (callAny (.type "set") _) _ _ _
  refine wpAny_pure ⟨Code.quiet_builtin _ (by decide +kernel), codeAny_builtin F.entry_type_call ?_⟩
  rw [Around.under_plain (weight_type_call_type "set" [.ref l] []) rfl]
  have h1 := F.called_set.notType
  have h2 := F.called_set.canCreate
  have hct := F.typeCall_set_1 (.ref l)
  repeat (any_goals (first | assumption | wp_step))

  refine codeAny_mono (code_set_led1 (.ref l) (E := E) (Q₁ := fun obj s₁ => obj = .ref s.heap.objs.size ∧ s₁ = { s with heap := s.heap.push { cls := .type "set", dict := none, data := .set #[] 0 (.fresh 0 0 (!w.params.followText "set-order")) } }) ⟨rfl, rfl⟩) fun r s₁ hr => ?_
  cases r with
  | error e => exact hr
  | ok fl =>
    cases fl with
    | ret obj =>
      obtain ⟨rfl, rfl⟩ := hr
      have hS : (s.heap.push { cls := .type "set", dict := none, data := .set #[] 0 (.fresh 0 0 (!w.params.followText "set-order")) }).get? s.heap.objs.size = some { cls := .type "set", dict := none, data := .set #[] 0 (.fresh 0 0 (!w.params.followText "set-order")) } := Heap.get?_push_size _ rfl
      have hT : Shared.TypeIs { s with heap := s.heap.push { cls := .type "set", dict := none, data := .set #[] 0 (.fresh 0 0 (!w.params.followText "set-order")) } } (.ref s.heap.objs.size) "set" := ⟨_, hS, rfl⟩
      have hli := F.called_set.init.lookup
      have hbi := F.called_set.init.bind (.ref s.heap.objs.size)
      repeat (any_goals (first | assumption | wp_step))

      refine codeAny_mono (codeAny_call_builtin (R := wants (fun r s₂ => r = .none ∧ ∃ h' tk c, s₂ = { s with heap := h', toks := tk } ∧ SetR w h' s.heap.objs.size (fun j => decide (j ∈ ns)) c ∧ c ≤ ns.length ∧
          (∀ b o, s.heap.get? b = some o → h'.get? b = some o)) E) F.called_set.init.plain F.entry_set_init (check_set_init_1 hT ?_)) fun r₂ s₂ hr₂ => ?_
      · obtain ⟨ol, hol, hcl, nl, hdl⟩ := hl
        obtain ⟨ocls, odict, odata, oslots⟩ := ol
        simp only at hcl hdl
        subst hcl; subst hdl
        have hol' : (s.heap.push { cls := .type "set", dict := none, data := .set #[] 0 (.fresh 0 0 (!w.params.followText "set-order")) }).get? l = some { cls := .type "list", dict := odict, data := .seq items nl, slots := oslots } := Heap.get?_push_of_some _ hol
        have hsls := F.sub_list_set
        have hslf := F.sub_list_frozenset
        have hne : (Value.type "list" == Value.type "dict") = false := by decide
        have hl1 : (s.heap.push { cls := .type "set", dict := none, data := .set #[] 0 (.fresh 0 0 (!w.params.followText "set-order")) }).IsList l items := ⟨_, hol', rfl, nl, rfl⟩
        unfold Builtin.«set.__init__» noKeywords Builtin.Frozenset.updateFrom
        generalize hPI : pyIter = PI
        wp_walk
        subst hPI

        refine wpAny_pyIter_list hl1 ?_
        refine wpAny_bind (wpAny_runValue ?_)
        have hlS : l < s.heap.objs.size := Heap.lt_size hol
        have hh3 : A.in1.in1.in1.handled = none := by simp [hh]
        have hz1 : (s.heap.push { cls := .type "set", dict := none, data := .set #[] 0 (.fresh 0 0 (!w.params.followText "set-order")) }).objs.size = s.heap.objs.size + 1 := Heap.size_push ..
        have hneI : l ≠ (s.heap.push { cls := .type "set", dict := none, data := .set #[] 0 (.fresh 0 0 (!w.params.followText "set-order")) }).objs.size := by
          rw [Heap.size_push]; exact Nat.ne_of_lt (Nat.lt_succ_of_lt hlS)
        have hSf : s.heap.objs.size ∉ [(s.heap.push { cls := .type "set", dict := none, data := .set #[] 0 (.fresh 0 0 (!w.params.followText "set-order")) }).objs.size, l] := by
          rw [Heap.size_push]; simp only [List.mem_cons, List.mem_singleton, List.not_mem_nil, or_false, not_or]
          exact ⟨Nat.ne_of_lt (Nat.lt_succ_self _), Nat.ne_of_gt hlS⟩
        have hval : ∀ (i : Nat) (v : Value), items[i]? = some v → ∃ k t, ns[i]? = some k ∧ v = .int k t := fun i v hv => by
          have hi : i < ns.length := by rw [← hisz]; exact (Array.getElem?_eq_some_iff.mp hv).1
          obtain ⟨t, e⟩ := PyProof.Rows.IntsAre.int_at hit i v (by rw [Array.getElem?_toList]; exact hv)
          refine ⟨ns[i], t, List.getElem?_eq_getElem hi, ?_⟩
          rw [e, List.getD_eq_getElem?_getD, List.getElem?_eq_getElem hi] <;> rfl
        refine set_update_ints ((Walks.list hh3 _ l hneI items).toS) s.heap.objs.size
          hSf ns hisz hb hval (items.size - 0) 0 _ (by omega) (Nat.zero_le _)
          ⟨⟨_, Heap.get?_push_size _ rfl, rfl, rfl⟩, (hl1.push _)⟩ ?hS0 ?hR
        case hS0 =>
          have hget : ((s.heap.push { cls := .type "set", dict := none, data := .set #[] 0 (.fresh 0 0 (!w.params.followText "set-order")) }).push { cls := .type "list_iterator", data := .fields #[.ref l, .int 0 0] }).get? s.heap.objs.size
              = some { cls := .type "set", dict := none, data := .set #[] 0 (.fresh 0 0 (!w.params.followText "set-order")) } := Heap.get?_push_of_some _ hS
          exact ⟨0, Nat.le_refl 0, setR_new_at hget⟩
        case hR =>
          intro s' c' hm hc' hS'
          obtain ⟨h', g2, d', tk', os'⟩ := s'
          have eg : g2 = s.gens := hm.gens
          have ed : d' = s.drawn := hm.drawn
          have eo : os' = s.os := hm.os
          subst eg; subst ed; subst eo
          show wpAny _ _ _ _ _ _
          refine wpAny_pure ?_
          show wpAny _ _ (ret Value.none) _ _ _
          rw [hisz] at hc'
          refine wpAny_pure ⟨rfl, h', tk', c', rfl, hS', hc', fun b o e => ?_⟩
          have hb0 : b < s.heap.objs.size := Heap.lt_size e
          have hb1 : b ≠ s.heap.objs.size := Nat.ne_of_lt hb0
          have hb2 : b ≠ (s.heap.push { cls := .type "set", dict := none, data := .set #[] 0 (.fresh 0 0 (!w.params.followText "set-order")) }).objs.size := by
            rw [Heap.size_push]; exact Nat.ne_of_lt (Nat.lt_succ_of_lt hb0)
          exact hm.heap b o (by simp only [List.mem_cons, List.mem_singleton, List.not_mem_nil, or_false, not_or]; exact ⟨hb1, hb2⟩) (Heap.get?_push_of_some _ (Heap.get?_push_of_some _ e))

      · cases r₂ with
        | error e => exact hr₂
        | ok fl₂ =>
          cases fl₂ with
          | ret r =>
            obtain ⟨rfl, h', tk, c', rfl, hS', hc', hk'⟩ := hr₂
            repeat (any_goals (first | assumption | wp_step))
            exact h _ _ _ hS' hc' hk'
          | _ => exact hr₂.elim
    | _ => exact hr.elim
end
end Yd
namespace Yd
open PySem PySem.Spec L2
/-- a list of numbers -/
def nums (ns : List Nat) : PyData := .list (ns.map fun n : Nat => PyData.int (n : Int))
/-- the set of ns, sorted; all of ns below 63 -/
def sset (ns : List Nat) : List Nat := (List.range 63).filter fun k => decide (k ∈ ns)
theorem asc_one : ∀ {l m : List Int}, l.Pairwise (· < ·) → m.Pairwise (· < ·) → (∀ k, k ∈ l ↔ k ∈ m) → l = m
  | [], [], _, _, _ => rfl
  | [], y :: m, _, _, h => absurd ((h y).mpr List.mem_cons_self) (by simp)
  | x :: l, [], _, _, h => absurd ((h x).mp List.mem_cons_self) (by simp)
  | x :: l, y :: m, hl, hm, h => by
    obtain ⟨h1, h2⟩ := List.pairwise_cons.mp hl
    obtain ⟨k1, k2⟩ := List.pairwise_cons.mp hm
    have exy : x = y := by
      rcases List.mem_cons.mp ((h x).mp List.mem_cons_self) with e | e
      · exact e
      · rcases List.mem_cons.mp ((h y).mpr List.mem_cons_self) with e2 | e2
        · exact e2.symm
        · have := k1 x e
          have := h1 y e2
          omega
    subst exy
    rw [asc_one h2 k2 fun k => ?_]
    constructor
    · intro hk
      rcases List.mem_cons.mp ((h k).mp (List.mem_cons_of_mem _ hk)) with e | e
      · have := h1 k hk
        omega
      · exact e
    · intro hk
      rcases List.mem_cons.mp ((h k).mpr (List.mem_cons_of_mem _ hk)) with e | e
      · have := k1 k hk
        omega
      · exact e
theorem sset_asc (ns : List Nat) : (sset ns).Pairwise (· < ·) := List.Pairwise.sublist (List.filter_sublist ..) List.pairwise_lt_range
theorem mem_sset {ns : List Nat} {k : Nat} (h : ∀ n ∈ ns, n < 63) : k ∈ sset ns ↔ k ∈ ns := by
  unfold sset
  rw [List.mem_filter, List.mem_range, decide_eq_true_iff]
  exact ⟨fun z => z.2, fun z => ⟨h k z, z⟩⟩
theorem sset_one {ns : List Nat} {ms : List Int} (h : ∀ n ∈ ns, n < 63) (ha : ms.Pairwise (· < ·)) (hm : ∀ k : Int, k ∈ ms ↔ k ∈ ns.map fun n : Nat => (n : Int)) : ms = (sset ns).map fun n : Nat => (n : Int) := by
  refine asc_one ha ?_ fun k => ?_
  · exact List.pairwise_map.mpr ((sset_asc ns).imp fun h => by omega)
  · rw [hm, List.mem_map, List.mem_map]
    constructor
    · rintro ⟨n, hn, e⟩; exact ⟨n, (mem_sset h).mpr hn, e⟩
    · rintro ⟨n, hn, e⟩; exact ⟨n, (mem_sset h).mp hn, e⟩
theorem setR_few {w : World} {h : Heap} {a : Addr} {ns : List Nat} {n : Nat} (R : SetR w h a (fun j => decide (j ∈ ns.map fun n : Nat => (n : Int))) n) (hb : ∀ n ∈ ns, n < 63) : n < 64 := by
  obtain ⟨o, es, ep, t, ho, hex, hd, g, nd, hm, hb2, hf, hn, hr, hl⟩ := R
  have e1 : ∀ k ∈ es.toList.map L2.keyOf, 0 ≤ k ∧ k < 63 := fun k hk => by
    have := of_decide_eq_true ((hm k).mpr hk)
    obtain ⟨m, hm2, rfl⟩ := List.mem_map.mp this
    have := hb m hm2
    omega
  have nd2 : ((es.toList.map L2.keyOf).map Int.toNat).Nodup := List.pairwise_map.mpr (List.Pairwise.imp_of_mem (fun {a b} ha hb hne e => hne (by have := e1 a ha; have := e1 b hb; omega)) nd)
  have q := nat_nodup_len _ (List.range 63) nd2 fun x hx => by
    obtain ⟨k, hk, rfl⟩ := List.mem_map.mp hx
    have := e1 k hk
    exact List.mem_range.mpr (by omega)
  rw [List.length_map, List.length_map, Array.length_toList, List.length_range] at q
  omega
def tSortSet (ta : TE) : TE := fun σ H Q => ta σ H fun x H1 => ∃ (G : Hp) (ns : List Nat), Same G H1 ∧ DV G x (nums ns) ∧ ns.length ≤ 4000 ∧ (∀ n ∈ ns, n < 63) ∧ ∀ p, H1 p = none → Q (.ref p) (upd H1 p (.lst ((sset ns).map fun n : Nat => V.int (n : Int))))
section
variable {X : Cx}
theorem pe_sortSet {a : Expr} {ta : TE} {p p2 q pos : Pos} (hc : X.calm = true) (hg : Gl X "sorted") (hm : X.mg "sorted" = none) (hg2 : Gl X "set") (hm2 : X.mg "set" = none) (ha : PE X a ta)
    (na : starEach [a] X.env = (false, eval a X.env) :: starEach [] X.env := by rfl) : PE X (.Call (.Name "sorted" p) [.Call (.Name "set" p2) [a] [] q] [] pos) (tSortSet ta) := by
  refine ⟨fun pins s σ H Q I h => ?_⟩
  refine PyProof.Rows.Call_ (ld_blt I hg hm PyProof.Rows.boot_sorted ?_)
  refine PyProof.Rows.callWith_builtin1 (PyProof.Rows.args_cons ?_ rfl) rfl rfl
  refine PyProof.Rows.Call_ (ld_blt I hg2 hm2 PyProof.Rows.boot_set ?_)
  refine PyProof.Rows.callWith_type1 (PyProof.Rows.args_cons (thn (ha.run pins s σ H _ I h) fun v s1 ⟨x, H1, I1, r1, q1⟩ => PyProof.Rows.args_nil ?_) na) na rfl
  obtain ⟨G, ns, z, hd, h1, hb, q1⟩ := q1
  obtain ⟨l, xs, rfl, hl, dv⟩ := (show DV G x (.list _) from hd).lst_inv
  have dv' : DVs G xs ((ns.map fun n : Nat => (n : Int)).map PyData.int) := by
    rw [List.map_map]; exact dv
  obtain rfl := dv'.ints_inv
  cases r1
  obtain ⟨its, r, pl, hz⟩ := I1.list (SqL.of (z _ _ hl))
  refine call_setI (P := X.prog) (w := X.w) (ns.map fun n : Nat => (n : Int)) (I1.ok.hd hc) pl.isList (by simpa using r.ints) (by rw [List.length_map]; unfold scanBound; omega) fun h' tk c R hcl hk => ?_
  refine PyProof.Rows.args_nil ?_
  have I2 : Inv X pins σ H1 { s1 with heap := h', toks := tk } := I1.kept hk
  refine sorted_set (P := X.prog) (s := { s1 with heap := h', toks := tk }) R (I2.ok.hd hc) (setR_few R hb) fun s' p out c ms k g o hp hgt hi hs hm hl2 => ?_
  have ems := sset_one hb hs fun k => by rw [hm k, decide_eq_true_iff]
  subst ems
  have hlen : (((sset ns).map fun n : Nat => (n : Int)).map V.int).length ≤ sizeLine := by
    rw [List.length_map, List.length_map]
    have : (sset ns).length ≤ 63 := by
      unfold sset
      refine Nat.le_trans (List.length_filter_le _ _) ?_
      rw [List.length_range]; exact Nat.le_refl _
    rw [sizeLine_eq]; omega
  have hn : H1 p = none := I2.hok.fresh hp
  have J : Inv X pins σ (upd H1 p (.lst (((sset ns).map fun n : Nat => (n : Int)).map V.int))) { s1 with heap := s'.heap, gens := s'.gens, drawn := s'.drawn, toks := s'.toks } :=
    I2.call (s := { s1 with heap := h', toks := tk }) (ch := []) (Un.laid (h := h') k hp hn) (I2.hok.laid k hp ⟨hlen, out.toList, c, vals_of_ints hi, hgt⟩) (by rw [g]; exact I2.bare) (fun _ z => nomatch z)
  have e : s' = { s1 with heap := s'.heap, gens := s'.gens, drawn := s'.drawn, toks := s'.toks } := by
    cases s'
    cases s1
    cases o
    rfl
  rw [e]
  rw [List.map_map] at J
  exact ⟨.ref p, _, J, rfl, q1 p hn⟩
end
theorem dvs_nums {G : Hp} (ns : List Nat) : DVs G (ns.map fun n : Nat => V.int (n : Int)) (ns.map fun n : Nat => PyData.int (n : Int)) := by
  induction ns with
  | nil => exact .nil
  | cons n ns ih => exact .cons (.int _) ih
theorem is_sortSet {σ : L2.St} {G : Hp} {te : TE} {ns : List Nat} (h : Is te σ G (dat (nums ns))) (hn : ns.length ≤ 4000) (hd : ∀ n ∈ ns, n < 63) : Is (tSortSet te) σ G (dat (nums (sset ns))) := fun G1 H1 s1 s2 Q k =>
  h G1 H1 s1 s2 _ fun x G2 H2 g2 px => ⟨G2, ns, g2.gh, px, hn, hd, fun p hp => by
    have g : Gr0 G2 H2 (upd G2 p (.lst ((sset ns).map fun n : Nat => V.int (n : Int)))) (upd H2 p (.lst ((sset ns).map fun n : Nat => V.int (n : Int)))) := .new g2.gh hp
    exact k _ _ _ (g2.trans g) (.lst upd_same (dvs_nums _))⟩
end Yd
set_option Elab.async false
set_option linter.all false
set_option maxRecDepth 100000
set_option maxHeartbeats 4000000
/-! the program's exception: its __init__ says super().__init__() and stores one field -/
namespace Yd
open PySem PySem.W PySem.Calls PyProof.Rows PySem.HandSPX
def iA (p1 p2 p3 : Pos) : Arguments := { posonlyargs := [], args := [{ arg := "self", annotation := none, pos := p1 }, { arg := "value", annotation := none, pos := p2 }], vararg := none, kwonlyargs := [], kw_defaults := [], kwarg := none, defaults := [.Constant .none 0 p3] }
def iB (q1 q2 q3 q4 q5 r1 r2 r3 r4 : Pos) : List Stmt := [.Expr (.Call (.Attribute (.Call (.Name "super" q1) [] [] q2) "__init__" q3) [] [] q4) q5, .Assign [.Attribute (.Name "self" r1) "value" r2] (.Name "value" r3) r4]
abbrev iA0 : Arguments := iA ⟨34, 17, 34, 21⟩ ⟨34, 23, 34, 28⟩ ⟨34, 29, 34, 33⟩
abbrev iB0 : List Stmt := iB ⟨35, 8, 35, 13⟩ ⟨35, 8, 35, 15⟩ ⟨35, 8, 35, 24⟩ ⟨35, 8, 35, 26⟩ ⟨35, 8, 35, 26⟩ ⟨36, 8, 36, 12⟩ ⟨36, 8, 36, 18⟩ ⟨36, 21, 36, 26⟩ ⟨36, 8, 36, 26⟩
theorem iA_is : L2.defArgs (L2.inClass (top 8) 0) = iA0 := rfl
theorem iB_is : L2.defBody (L2.inClass (top 8) 0) = iB0 := rfl
def iS : Scope := { kind := .function, names := [(PySem.Str.ofString "self", .local), (PySem.Str.ofString "value", .local), (PySem.Str.ofString "__class__", .free), (PySem.Str.ofString "super", .globalImplicit)], isGenerator := false, isCoroutine := false, more := [] }
theorem iS_is : L2.defScope (L2.inClass (top 8) 0) = iS := rfl
/-- what the written part says of the class, at C, and of its __init__, at fI -/
structure LeadTxt (P : Program) (K : Frag) (mg : Str → Option Value) (C fI : Addr) : Prop where
  gC : mg "InvalidLeading" = some (.ref C)
  cls : ∃ nm q N bs bm sn sub ab col dd k0 k1 k2 k3 k5, K.lookup C = some (excClassObj nm q C N bs bm true sn sub ab col dd k0 k1 k2 k3 k5 "ValueError.__new__") ∧ refsVE bm = true
  sa : findIn K (.ref C) "__setattr__" = some (some (.builtin "object.__setattr__"))
  ga : findIn K (.ref C) "__getattribute__" = some (some (.builtin "BaseException.__getattribute__"))
  gg : findIn K (.ref C) "__getattr__" = some none
  noN : findIn K (.ref C) "value" = some none
  iC : findIn K (.ref C) "__init__" = some (some (.ref fI))
  tC : typeIn K (.ref fI) = some (.type "function")
  kC : keepIn K (.ref C) = true
  exC : subIn K (.ref C) (.type "BaseException") = some true
  exV : subIn K (.ref C) (.type "ValueError") = some true
  exS : mroIn K C (.ref C) = some true
  tyC : typeIn K (.ref C) = some (.type "type")
  hdC : hasDictIn K C = true
  te : exmOne K (.ref C) (.ref C) = some true
  su : ks_superIn K C C "__init__" = some (some (.builtin "ValueError.__init__"))
  op : nsIn K cStatics "thirdparty.any" = some none
  gS : mg "super" = none
  top : (P.main.scope.names.lookup ("super" : Str)).isSome = false
  fn : ∃ (oc : Value) (od : Option Addr) (T : Addr) (kV doc pm : Value) (an : Option Addr) (cda cc : Addr) (ct : Value) (osl : Array (Option Value)),
    K.lookup fI = some ⟨oc, od, .func (ksFn "__init__" "InvalidLeading.__init__" iA0 iB0 iS (.ref T) kV doc pm an (.ref cda) ct cc), osl⟩ ∧ codeIn K (.ref cda) "InvalidLeading.__init__" = true ∧
    (∃ ot n, K.lookup T = some ot ∧ ot.data = .seq #[.none] n) ∧
    (∃ ccl cdd vs ccs file tf, K.lookup cda = some ⟨ccl, cdd, .fields vs, ccs⟩ ∧ vs[2]? = some (.str file tf) ∧ (P.main.file == file) = true) ∧
    ∃ cl cld csl, K.lookup cc = some ⟨cl, cld, .cell (some (.ref C)), csl⟩
/-- what the globals and the built-ins' names are in a heap -/
structure Glb (h : Heap) (mg : Str → Option Value) : Prop where
  g : h.Ns mainGlobals mg
  b : ∃ mb, h.Ns builtinsNs mb ∧ ∀ x : Str, x ≠ "__name__" → mb x = bootBuiltins x
theorem Glb.keeps {h h' : Heap} {mg : Str → Option Value} (G : Glb h mg) (k : ∀ b o, h.get? b = some o → h'.get? b = some o) : Glb h' mg :=
  ⟨G.g.keeps k, by obtain ⟨mb, h1, h2⟩ := G.b; exact ⟨mb, h1.keeps k, h2⟩⟩
theorem ldN {M : Model} {s : Shared} {name : Str} {scope : Scope} {L a : Addr} {cd : Value} {cells : List (Str × Addr)} {m : Str → Option Value} {x : Str} {pos : Pos} {v : Value} {Q : Value → Shared → Prop} {A : Around} {E : Value → Shared → Prop} (hn : s.heap.Ns L m) (hv : m x = some v) (h : Q v s)
    (hk : scope.kind = .function := by rfl) (hl : (envX name scope L a cd cells).kindOf x = some .local := by rfl) (hd : (x == ("__debug__" : Str)) = false := by decide) :
    wpAny M A (eval (.Name x pos) (envX name scope L a cd cells)) Q E s := wpAny_Name (wpAny_loadName_local hk hl hn hv h) hd
/-- what __init__ leaves of a fresh exception at x -/
structure IniEnd (h h' : Heap) (x C dx t1 : Addr) (v : Value) : Prop where
  keep : ∀ b o, b ≠ x → h.get? b = some o → h'.get? b = some o
  obj : h'.get? x = some { cls := .ref C, dict := some dx, data := .fields #[.ref t1, .none, .none, .none, .bool false, .none] }
  dbig : h.objs.size ≤ dx
  dne : dx ≠ x
  ns : h'.Ns1 dx (fun y => if y = "value" then some v else none)
/-- a made one -/
structure LeadMade (h h' : Heap) (e C d : Addr) (v : Value) : Prop where
  keep : ∀ b o, h.get? b = some o → h'.get? b = some o
  new : h.objs.size ≤ e
  obj : ∃ oe vs, h'.get? e = some oe ∧ oe.cls = .ref C ∧ oe.dict = some d ∧ oe.data = .fields vs ∧ vs[1]? = some .none
  dbig : h.objs.size ≤ d
  dne : d ≠ e
  ns : h'.Ns1 d (fun y => if y = "value" then some v else none)
theorem one_size (v : Value) : [v].length ≤ sizeLine := by
  rw [sizeLine_eq]
  exact (by decide : 1 ≤ 16777216)
section
variable {prog : Program} {w : World} {A : Around} {E : Value → Shared → Prop} {R : Result → Shared → Prop} {s : Shared} {K : Frag} {mg : Str → Option Value} {C fI : Addr}
/-- the method-wrapper of the built-in __init__, called -/
theorem call_mw {u x t0 : Addr} {h : Heap} {g : Array GenState} {d : Drawn} {t : Nat} {os : OsState} {Q : Value → Shared → Prop} {nm q : Str} {N : Addr} {bs bm : List Value} {hdct : Bool} {sn : List Str} {sub : List Value} {ab : Bool} {col : Option Bool} {dd : Option Addr} {k0 k1 k2 k3 k5 : Option Value}
    (hC : h.get? C = some (excClassObj nm q C N bs bm hdct sn sub ab col dd k0 k1 k2 k3 k5 "ValueError.__new__")) (he : h.get? x = some (excO C t0)) (hu : h.get? u = some (kxs_mw "ValueError.__init__" x))
    (hq : ∀ h' t1, (∀ b o, b ≠ x → h.get? b = some o → h'.get? b = some o) → h'.get? x = some (excO C t1) → Q .none ⟨h', g, d, t, os⟩) :
    wpAny (model prog w) A (call (.ref u) []) Q E ⟨h, g, d, t, os⟩ := by
  refine wpAny_call (codeAny_of_tree ?_)
  show wpAny _ A.in1 (callAny (.ref u) ⟨[], []⟩) _ _ _
  simp only [callAny]
  refine wpAny_bind (wpAny_load hu ?_)
  simp only [kxs_mw, show (Value.type "method-wrapper" == Value.type "method" || Value.type "method-wrapper" == Value.type "builtin_function_or_method" || Value.type "method-wrapper" == Value.type "method-wrapper") = true by decide, if_true]
  refine KFB.if_so (by decide) ?_
  refine wpAny_bind (check_bound_init PySem.F.excBase_ValueError.toExcCallFacts hC he rfl ?_)
  refine wpAny_bind (wpAny_pure (wpAny_pure ?_))
  refine ⟨plainId_quiet PySem.F.excBase_ValueError.init.plain _, codeAny_builtin PySem.F.excBase_ValueError.initEntry ?_⟩
  refine exc_init_tree (cls := .ref C) (t0 := t0) (dv := none) (c2 := .none) (c3 := .none) (b4 := .bool false) he (Nat.zero_le _) fun h' k e' _ => ?_
  exact hq h' _ k e'
theorem lead_init (T : LeadTxt prog K mg C fI) {x t0 : Addr} {v : Value} (X : K.In s.heap) (G : Glb s.heap mg) (hlim : s.heap.NoLimit) (hx : s.heap.get? x = some (excO C t0)) (hroom : A.depth < recursionLimit)
    (hnx : ∀ h', (∀ b o, b ≠ x → s.heap.get? b = some o → h'.get? b = some o) → K.In h')
    (hq : ∀ h' tk dx t1, IniEnd s.heap h' x C dx t1 v → R (.ok (.ret .none)) { s with heap := h', toks := tk }) :
    codeAny (model prog w) A (.call (.ref fI) ⟨[.ref x, v], []⟩) R s := by
  obtain ⟨oc, od, Td, kV, doc, pm, an, cda, cc, ct, osl, ho, hcd, ⟨ot, n, hot, hod⟩, ⟨ccl, cdd, vs, ccs, file, tf, hcode, hvs, hfile⟩, cl, cld, csl, hcell⟩ := T.fn
  obtain ⟨nm, q, N, bs, bm, sn, sub, ab, col, dd, k0, k1, k2, k3, k5, hC, hbm⟩ := T.cls
  have hcl : clsIn K C = some { name := nm, bases := bs, mro := .ref C :: bm, ns := N, qualname := q, hasDict := true, slotNames := sn, subclasses := sub, abstract := ab, collection := col, hasDel := false } := by unfold clsIn; rw [hC] <;> rfl
  refine ks_codeAny_call_defAt (fd := ksFn "__init__" "InvalidLeading.__init__" iA0 iB0 iS (.ref Td) kV doc pm an (.ref cda) ct cc) (binds := [("self", .ref x), ("value", v)]) hroom (X _ _ ho) rfl hlim (codeRec_of X hcd) rfl
    (BindsTo.of_defaults rfl (X _ _ hot) hod rfl rfl) (show ∀ y ∈ iS.names, y.2 ≠ .cell by decide) (fun y hy => by
      rcases List.mem_cons.mp hy with rfl | hy
      · rfl
      · rcases List.mem_cons.mp hy with rfl | hy
        · rfl
        · cases hy) (fun h₁ hns hk₁ => ?_) rfl rfl rfl
  have hxL : s.heap.objs.size ≠ x := Nat.ne_of_gt (Heap.lt_size hx)
  have X₁ : K.In h₁ := X.keeps hk₁
  have G₁ : Glb h₁ mg := G.keeps hk₁
  have hx₁ := hk₁ _ _ hx
  have z : s.heap.objs.size < h₁.objs.size := hns.lt
  have Ix : InstAt h₁ x (excO C t0) C none := ⟨hx₁, rfl, rfl, trivial⟩
  obtain ⟨hp, g, d, t, os⟩ := s
  refine ks_wpAt_execs_cons ?_
  refine ks_wpAt_Expr_any ?_
  refine ks_wpAt_MethodCall ?_
  -- super()
  refine ks_wpAt_super_base (env := ksEnv "InvalidLeading.__init__" iS hp.objs.size fI (.ref cda) cc) (of := ⟨oc, od, .func (ksFn "__init__" "InvalidLeading.__init__" iA0 iB0 iS (.ref Td) kV doc pm an (.ref cda) ct cc), osl⟩) rfl rfl (by decide) rfl (X₁ _ _ ho) rfl rfl rfl (X₁ _ _ hcode) rfl hvs hfile T.top ?_
  obtain ⟨mb, hb1, hb2⟩ := G₁.b
  refine ks_loadName_global rfl rfl (loadGlobal_builtin (mg := mg) (mb := mb) G₁.g T.gS hb1 ((hb2 _ (by decide)).trans (by first | boot_by_name | rfl | kernel_rfl)) ⟨rfl, ?_⟩)
  refine wpAny_loadName_free rfl rfl rfl ⟨_, X₁ _ _ hcell, rfl⟩ ?_
  refine wpAny_loadName_local rfl rfl hns (by rfl) ?_
  refine ks_wpAny_isType_cls (X₁ _ _ hC) rfl ⟨rfl, ?_⟩
  refine ks_wpAny_call_super (X₁ _ _ hC) rfl hx₁ rfl (fun c e => nomatch e) (looks_mroIn X₁ T.exS) (fun h₂ e₂ k₂ => ?_)
  have X₂ : K.In h₂ := X₁.keeps k₂
  have hI : Looks (model prog w) h₁ (isInstance (.ref x) (.type "ValueError")) true := Ix.type.andThen (looks_subIn X₁ T.exV)
  -- .__init__
  refine kxs_getMethod kxs_ValueError (K := K) e₂ (looks_opaque X₂ T.op) (l₀ := .ref C :: bm) ?_ rfl X₂ ?_ (hI.keeps k₂) (ks_ne X₁ Ix hcl) (by decide) ?_
  · exact fun A Q E s k q => wpAny_bind ((looks_clsIn X₂ hcl) A _ E s k (wpAny_pure q))
  · have := T.su
    unfold ks_superIn at this
    rw [hcl] at this
    exact this
  have u₃ : (h₂.push (kxs_mw "ValueError.__init__" x)).get? h₂.objs.size = some (kxs_mw "ValueError.__init__" x) := Heap.get?_push_at rfl rfl
  have k₃ : ∀ b o, h₁.get? b = some o → (h₂.push (kxs_mw "ValueError.__init__" x)).get? b = some o := fun b o e => Heap.get?_push_of_some _ (k₂ b o e)
  refine kxs_callWith (i := "ValueError.__init__") (x := x) rfl (evalArgs_empty ⟨u₃, ?_⟩)
  refine call_mw (X₁.keeps k₃ _ _ hC) (k₃ _ _ hx₁) u₃ fun h₄ t1 k₄ hx₄ => ?_
  -- self.value = value
  have k₄' : ∀ b o, b ≠ x → hp.get? b = some o → h₄.get? b = some o := fun b o hb e => k₄ b o hb (k₃ b o (hk₁ b o e))
  have X₄ : K.In h₄ := hnx _ k₄'
  have hn₄ : h₄.Ns hp.objs.size (fun y => List.lookup y ([("self", .ref x), ("value", v)] : List (Str × Value)).reverse) := hns.at fun o e => k₄ _ _ hxL (k₃ _ _ e)
  refine ks_wpAt_execs_cons ?_
  refine ks_wpAt_Assign_Attr (wpAt_of_wpAny ?_)
  show wpAny _ _ (eval (.Name "value" ⟨36, 21, 36, 26⟩) (envX "InvalidLeading.__init__" iS hp.objs.size fI (.ref cda) [("__class__", cc)])) _ _ _
  refine ldN (v := v) hn₄ ?_ ?_
  · first | rfl | with_unfolding_all rfl | kernel_rfl
  show wpAny _ _ (eval (.Name "self" ⟨36, 8, 36, 12⟩) (envX "InvalidLeading.__init__" iS hp.objs.size fI (.ref cda) [("__class__", cc)])) _ _ _
  refine ldN (v := .ref x) hn₄ ?_ ?_
  · first | rfl | with_unfolding_all rfl | kernel_rfl
  refine set_plain X₄ (ox := excO C t1) (od := none) ⟨hx₄, rfl, rfl, trivial⟩ T.sa ?_
  refine exc_osa X₄ hx₄ hcl (show refsVE (.ref C :: bm) = true from hbm) rfl T.noN (fun h₅ tk₅ dx k₅ dn dne hx₅ hn₅ => ?_)
  refine wpAt_of_wpAny (wpAny_execs_nil (hq h₅ tk₅ dx t1 ⟨fun b o hb e => k₅ b o hb (k₄' b o hb e), hx₅, ?_, dne, hn₅⟩))
  show hp.objs.size ≤ dx
  obtain ⟨oL, es, ep, hL, r⟩ := hn₄
  exact Nat.le_of_lt (Nat.lt_of_lt_of_le (Heap.lt_size hL) dn)
theorem lead_made (T : LeadTxt prog K mg C fI) {v : Value} (X : K.In s.heap) (G : Glb s.heap mg) (hlim : s.heap.NoLimit) (hroom : A.depth + 1 < recursionLimit)
    (hq : ∀ h' tk e d, LeadMade s.heap h' e C d v → R (.ok (.ret (.ref e))) { s with heap := h', toks := tk }) :
    codeAny (model prog w) A (.call (.ref C) ⟨[v], []⟩) R s := by
  obtain ⟨nm, q, N, bs, bm, sn, sub, ab, col, dd, k0, k1, k2, k3, k5, hC, hbm⟩ := T.cls
  obtain ⟨hp, g, dr, tk, os⟩ := s
  have k : ∀ b o, hp.get? b = some o → ((hp.push (kdv_tup [v])).push (excO C hp.objs.size)).get? b = some o := fun b o e => Heap.get?_push_of_some _ (Heap.get?_push_of_some _ e)
  have hget : ((hp.push (kdv_tup [v])).push (excO C hp.objs.size)).get? (hp.objs.size + 1) = some (excO C hp.objs.size) := by heap_get
  have hlk : ∀ b o, K.lookup b = some o → b ≠ hp.objs.size + 1 := fun b o e z => by
    have y := Heap.lt_size (X _ _ e)
    rw [z] at y
    exact absurd (Nat.lt_of_succ_lt y) (Nat.lt_irrefl _)
  refine call_own PySem.F.excBase_ValueError (fun X => refsVE_contains X bm hbm) (X _ _ hC) (looks_findIn X T.iC) (fun self => bind_fn X self T.tC) (one_size v) ?_
  refine lead_init (s := ⟨(hp.push (kdv_tup [v])).push (excO C hp.objs.size), g, dr, tk, os⟩) T (X.keeps k) (G.keeps k) (hlim.keeps k) hget ?_ (fun h' k' b o e => k' b o (hlk b o e) (k b o (X b o e))) fun h' tk' dx t1 ⟨k', hx, dn, dne, hns⟩ => ?_
  · show A.depth + 1 < recursionLimit
    exact hroom
  · have old : ∀ b o, hp.get? b = some o → h'.get? b = some o := fun b o e => k' b o (Nat.ne_of_lt (Nat.lt_succ_of_lt (Heap.lt_size e))) (k b o e)
    have z : hp.objs.size + 1 + 1 ≤ dx := by
      first
        | (simpa only [Heap.size_push] using dn)
        | exact dn
        | (have q := dn; rw [Heap.size_push, Heap.size_push] at q; exact q)
    exact ⟨rfl, hq h' tk' (hp.objs.size + 1) dx ⟨old, Nat.le_succ _, ⟨_, _, hx, rfl, rfl, rfl, rfl⟩, Nat.le_trans (Nat.le_trans (Nat.le_succ _) (Nat.le_succ _)) z, dne, hns⟩⟩
end
end Yd
set_option Elab.async false
set_option linter.all false
set_option maxRecDepth 100000
set_option maxHeartbeats 4000000
namespace Yd
open PySem PySem.Spec PyProof.Rows L2
theorem relO_lead {v : V} {v' : Value} (r : RelV v v') (f : Str) : RelO (List.lookup f [(("value" : Str), v)]) (if f = "value" then some v' else none) := by
  by_cases hw : f = "value"
  · subst hw
    rw [if_pos rfl]
    have q : List.lookup ("value" : Str) [(("value" : Str), v)] = some v := by simp [List.lookup]
    rw [q]
    exact r
  · rw [if_neg hw]
    have qw : (f == ("value" : Str)) = false := by simpa using hw
    have q2 : List.lookup f [(("value" : Str), v)] = none := by simp [List.lookup, qw]
    rw [q2]
    trivial
section
variable {X : Cx} {C fI : Addr}
/-- InvalidLeading(e) -/
def tMkLead (C : Addr) (ta : TA) : L2.St → Hp → XK → Prop := fun σ H Q => ta σ H fun vs H1 => ∃ v, vs = [v] ∧ ∀ d, H1 d = none → Q (.ref C) (some d) (upd H1 d (.xd [(("value" : Str), v)]))
theorem pmk_lead {a : Expr} {ta : TA} {p pos : Pos} {k : Nat} (T : LeadTxt X.prog X.K X.mg C fI) (hr : Room k X.A) (ha : PA X [a] ta) (hg : Gl X "InvalidLeading" := by rfl)
    (he : starEach (a :: []) X.env = (false, eval a X.env) :: starEach [] X.env := by rfl) (hpl : (backTo pos (starEach [] X.env)).any (·.1) = false := by rfl) :
    PMk X (.Call (.Name "InvalidLeading" p) [a] [] pos) (tMkLead C ta) := by
  intro pins s σ H Q I h
  refine wpAny_Call_Name_kw (ld_glob I hg T.gC ?_)
  refine PySem.W.callWith_K (h₀ := X.base) I.ok.mod.kin T.kC (thn (ha.run pos pins s σ H _ I h) fun us s1 hh => ?_) he hpl
  obtain ⟨vs, H1, I1, r1, v, ev, q1⟩ := hh
  subst ev
  refine ⟨I1.kIn, ?_⟩
  cases r1 with
  | cons rv rn =>
    rename_i v' us'
    cases rn
    show wpAny _ _ (call (.ref C) [v']) _ _ _
    have hlim := I1.nolimit
    have hG : Glb s1.heap X.mg := by
      obtain ⟨mb, h1, h2⟩ := I1.mod.blt
      exact ⟨I1.mod.glob.keeps I1.bk, mb, h1.keeps I1.bk, h2⟩
    obtain ⟨hp, g, dr, tk, os⟩ := s1
    refine wpAny_call (lead_made T I1.kIn hG hlim (by have := hr.dp; omega) fun h' tk' e d M => ?_)
    show MkP X pins σ Q (.ref e) ⟨h', g, dr, tk', os⟩
    obtain ⟨oe, fv, hoe, hc, hd, hdat, h1⟩ := M.obj
    have hns := M.ns
    obtain ⟨G', g1, g2⟩ := restrict h' fun b => decide (b ≠ e)
    have gk : ∀ b, b ≠ e → G'.get? b = h'.get? b := fun b hb => g1 b (decide_eq_true hb)
    have ge : G'.get? e = none := g2 e (by simp)
    have old : ∀ b o, hp.get? b = some o → G'.get? b = some o := fun b o q => (gk b (Nat.ne_of_lt (Nat.lt_of_lt_of_le (Heap.lt_size q) M.new))).trans (M.keep b o q)
    have ob : ObjOk X.prog X.w (upd H1 d (.xd [(("value" : Str), v)])) G' d (.xd [(("value" : Str), v)]) :=
      ⟨_, hns.at (fun o q => (gk d M.dne).trans q), fun f => relO_lead rv f⟩
    have J : Inv X pins σ (upd H1 d (.xd [(("value" : Str), v)])) ⟨G', g, dr, tk', os⟩ := I1.laid (t' := tk') old M.dbig ob
    refine ⟨e, oe, fv, ⟨G', g, dr, tk', os⟩, _, .ref C, some d, rfl, J, fun b o q => ?_, ge, hoe, ⟨hc, hd⟩, hdat, h1, ?_, rfl, I1.bare, raises_own T.exC T.tyC, q1 d (I1.hok.fresh M.dbig)⟩
    · by_cases hb : b = e
      · have q' : G'.get? b = some o := q
        rw [hb, ge] at q'; cases q'
      · exact (gk b hb).symm.trans q
    · rw [upd_ne (Ne.symm M.dne)]
      exact I1.hok.fresh M.new
/-- raise InvalidLeading(e) -/
def tRaiseLead (C : Addr) (W : WX) (ta : TA) : TS := fun _ σ H => tMkLead C ta σ H fun cls d H' => W cls d σ H'
theorem ps_raiseLead {a : Expr} {ta : TA} {W : WX} {p pos pos2 : Pos} {k : Nat} (hc : X.calm = true) (T : LeadTxt X.prog X.K X.mg C fI) (hr : Room k X.A) (tk : Takes X W) (ha : PA X [a] ta) (hg : Gl X "InvalidLeading" := by rfl)
    (he : starEach (a :: []) X.env = (false, eval a X.env) :: starEach [] X.env := by rfl) (hpl : (backTo pos (starEach [] X.env)).any (·.1) = false := by rfl) :
    PS X (.Raise (some (.Call (.Name "InvalidLeading" p) [a] [] pos)) none pos2) (tRaiseLead C W ta) := ps_raise hc tk (pmk_lead T hr ha hg he hpl)
/-- error.value, error the exception that the suite holds (at a; its class cls, its dict d) -/
def tValLead (C : Addr) (a : Addr) (cls : Value) (d : Option Addr) (te : TE) : TE := fun σ H Q => te σ H fun x H1 => x = .ref a ∧ cls = .ref C ∧ ∃ (dd : Addr) (v : V), d = some dd ∧ H1 dd = some (.xd [(("value" : Str), v)]) ∧ Q v H1
theorem pe_valLead {a : Addr} {oe : Obj} {cls : Value} {d : Option Addr} {pn : List (Addr × Obj)} {e : Expr} {te : TE} {pos : Pos} (T : LeadTxt X.prog X.K X.mg C fI) (hz : Zc cls d oe) (hf : ∃ vs, oe.data = .fields vs) (he : PE (X.suite a ((a, oe) :: pn)) e te)
    (hb : attributeBase e "value" X.env (eval e X.env) = eval e X.env := by rfl) :
    PE (X.suite a ((a, oe) :: pn)) (.Attribute e "value" pos) (tValLead C a cls d te) := by
  refine ⟨fun pins s σ H Q I h => ?_⟩
  refine attr_of hb (thn (he.run pins s σ H _ I h) fun u s1 hh => ?_)
  obtain ⟨x, H1, I1, rx, ex, ec, dd, v, ed, ea, q⟩ := hh
  subst ex
  obtain rfl : u = Value.ref a := rx
  subst ec
  subst ed
  obtain ⟨ha, _⟩ := I1.pin (a, oe) (List.mem_append_left _ List.mem_cons_self)
  obtain ⟨vs, hd⟩ := hf
  have hx : ObjOk X.prog X.w H1 s1.heap dd (.xd [(("value" : Str), v)]) := I1.hok dd _ ea
  obtain ⟨mA, hns, hr⟩ := hx
  obtain ⟨od, ho, hl⟩ := lookIn_ns hns
  have l : List.lookup ("value" : Str) [(("value" : Str), v)] = some v := by simp [List.lookup]
  obtain ⟨u, hu, ru⟩ := RelO.some_of (v := v) (o := mA "value") (by rw [← l]; exact hr "value")
  have J : PySem.W.InstAt s1.heap a oe C (some od) := ⟨ha, hz.1, by unfold PySem.W.notCls; rw [hd] <;> rfl, by rw [hz.2]; exact ho⟩
  exact PySem.HandSPX.exc_get I1.kIn J T.ga T.gg T.exC (PySem.W.findObj_own T.hdC T.noN rfl (by rw [hl, hu])) (handed_of ru) ⟨v, H1, I1.tok _, ru, q⟩
end
end Yd
set_option Elab.async false
set_option linter.all false
set_option maxRecDepth 100000
set_option maxHeartbeats 4000000
/-! promises of defs that run where no list is being shown (for repr) -/
namespace Yd
open PySem PySem.Spec PyProof.Rows L2
structure FnOkG (P : Program) (w : World) (K : PySem.W.Frag) (mg : Str → Option Value) (base : Heap) (CX : CXT) (k : Nat) (f : Addr) (fd : FuncData) (ps : List Str) (sp : Sp) : Prop where
  len : ∀ vs H Q E, sp vs H Q E → vs.length = ps.length
  run : ∀ (A : Around) (outer : List Env) (s : Shared) (H : Hp) (args : Args) (us : List Value) (vs : List V) (Q : VK) (E : XK), Room k A → A.guards = some [] → Env0 P w K mg base A outer s H → BindsTo s fd args (ps.zip us) → Vals vs us → sp vs H Q E →
    codeAny (model P w) A (.call (.ref f) args) (CR CX outer P w H s Q E) s
theorem fn_ofG {CX : CXT} {P : Program} {w : World} {K : PySem.W.Frag} {mg : Str → Option Value} {base : Heap} {k : Nat} {f : Addr} {name qual : Str} {params : Arguments} {body : List Stmt} {scope : Scope} {dV kV doc pm cdv ct oc : Value} {an od : Option Addr}
    {osl : Array (Option Value)} {N ps : List Str} {sp : Sp} (lk : K.lookup f = some ⟨oc, od, .func (PySem.W.fnOf name qual params body scope dV kV doc pm an cdv ct), osl⟩) (hcd : PySem.W.codeIn K cdv qual = true) (S : FnScope N ps scope)
    (len : ∀ vs H Q E, sp vs H Q E → vs.length = ps.length)
    (hbody : ∀ (A : Around) (outer : List Env) (s : Shared) (H : Hp) (vs : List V) (Q : VK) (E : XK), Room k (A.deeper (envOfC qual scope s.heap.objs.size f cdv)) → A.guards = some [] → sp vs H Q E →
      ∃ t, PSs (cxOf CX P w K mg base N qual scope f cdv A outer s H E) body t ∧ t { nx := fun _ H' => Q .non H', rt := Q } (start N vs) H) :
    FnOkG P w K mg base CX (k + 1) f (PySem.W.fnOf name qual params body scope dV kV doc pm an cdv ct) ps sp := by
  refine ⟨len, fun A outer s H args us vs Q E hr hgd e0 hb r hsp => ?_⟩
  have hl := len _ _ _ _ hsp
  have KX : K.In s.heap := e0.mod.kin.keeps fun b o e => (e0.bs b o e).1
  have lim : s.heap.NoLimit := e0.mod.nolimit.keeps fun b o e => (e0.bs b o e).1
  have hkind : ∀ y ∈ ps.zip us, scope.names.lookup y.1 = some .local ∨ (scope.names.lookup y.1 = some .cell ∧ ((cellsFrom (s.heap.objs.size + 1) scope.names []).lookup y.1).isSome = true) := fun ⟨n, v⟩ hy => by
    rcases S.par n (List.of_mem_zip hy).1 with q | q
    · exact .inl q
    · exact .inr ⟨q, PySem.W.cellsFrom_some _ _ _ (.inl q)⟩
  refine codeAny_call_function hr.depth (KX _ _ lk) rfl S.co S.gen rfl (PySem.W.codeRec_of KX hcd) (hb _ _ _ _ ?_)
  refine wpAny_newFunctionEnv_cells S.kind hkind fun env he s1 x => ?_
  subst he
  refine ⟨lim.keeps x.toInCall.keep, codeAny_func ?_⟩
  obtain ⟨t, ht, hq⟩ := hbody A outer s H vs Q E (hr.deeper _) hgd hsp
  have I : Inv (cxOf CX P w K mg base N qual scope f cdv A outer s H E) [] (start N vs) H s1 := inv_start S hr.hd e0 hl r x
  refine wpAny_mono (ht.run [] s1 (start N vs) H _ I hq) (fun fl s' hs => ?_) fun e s' hs => hs
  have fin : ∀ {σ' : L2.St} {H' : Hp} {v : V} {u : Value}, Inv (cxOf CX P w K mg base N qual scope f cdv A outer s H E) [] σ' H' s' → RelV v u → Q v H' → CE outer P w H s Q u s' :=
    fun {σ' H' v u} J rv q => ⟨v, H', J.os, J.bare, J.base, J.hok, rv, q⟩
  cases fl with
  | ret u =>
    obtain ⟨v, σ', H', J, rv, q⟩ := hs
    exact fin J rv q
  | next =>
    obtain ⟨σ', H', J, q⟩ := hs
    exact fin (v := V.non) (u := Value.none) J rfl q
  | brk =>
    obtain ⟨_, _, _, q⟩ := hs
    exact False.elim q
  | cont =>
    obtain ⟨_, _, _, q⟩ := hs
    exact False.elim q
section
variable {P : Program} {w : World} {K : PySem.W.Frag} {mg : Str → Option Value} {base : Heap} {x qual : Str} {params : Arguments} {body : List Stmt} {scope : Scope} {dvs : List V} {kws : List (Str × V)} {f : Addr} {fd : FuncData}
theorem okG {CX : CXT} {N ps : List Str} {k : Nat} {sp : Sp} (F : FunD K x qual params body scope dvs kws f fd) (S : FnScope N ps scope) (len : ∀ vs H Q E, sp vs H Q E → vs.length = ps.length)
    (hbody : ∀ (cdv : Value) (A : Around) (outer : List Env) (s : Shared) (H : Hp) (vs : List V) (Q : VK) (E : XK), Room k (A.deeper (envOfC qual scope s.heap.objs.size f cdv)) → A.guards = some [] → sp vs H Q E →
      ∃ t, PSs (cxOf CX P w K mg base N qual scope f cdv A outer s H E) body t ∧ t { nx := fun _ H' => Q .non H', rt := Q } (start N vs) H) : FnOkG P w K mg base CX (k + 1) f fd ps sp := by
  obtain ⟨oc, od, dV, kV, doc, pm, an, cdv, ct, osl, rfl, lk, hcd, _, _⟩ := F.ex
  exact fn_ofG lk hcd S len fun A outer s H vs Q E hr hgd hsp => hbody cdv A outer s H vs Q E hr hgd hsp
end
def HasG (P : Program) (w : World) (K : PySem.W.Frag) (mg : Str → Option Value) (base : Heap) (CX : CXT) (k : Nat) (x : Str) (ps : List Str) (sp : Sp) : Prop :=
  ∃ f fd, FnOkG P w K mg base CX k f fd ps sp ∧ mg x = some (.ref f) ∧ PySem.W.keepIn K (.ref f) = true ∧ Binds K fd ps []
section
variable {X : Cx} {CX : CXT} {k : Nat} {f : Addr} {fd : FuncData} {ps : List Str} {sp : Sp} {dvs : List V} {ds : List Value} {E : XK}
theorem run_fnG {pins : List (Addr × Obj)} {σ : L2.St} {H : Hp} {s : Shared} {Q : VK} {us : List Value} {vs : List V} (F : FnOkG X.prog X.w X.K X.mg X.base CX k f fd ps sp) (hr : Room k X.A) (hgd : X.A.guards = some []) (hb : Binds X.K fd ps ds) (hd : Vals dvs ds) (hx : Passes CX X E)
    (I : Inv X pins σ H s) (r : Vals vs us) (h : sp (vs ++ dvs) H Q E) : wpAny (model X.prog X.w) X.A (call (.ref f) us) (EP X pins σ Q) X.xe s := by
  have r2 : Vals (vs ++ dvs) (us ++ ds) := r.append hd
  have hl : (us ++ ds).length = ps.length := by rw [← r2.length]; exact F.len _ _ _ _ h
  refine wpAny_call (codeAny_mono (F.run X.A X.stack s H ⟨us, []⟩ (us ++ ds) (vs ++ dvs) Q E hr hgd I.env0 (hb s us I.kIn hl) r2 h) fun r s' hq => ?_)
  cases r with
  | error e => exact hx pins σ H s e s' I hq
  | ok fl =>
    cases fl with
    | ret u => exact I.after hq
    | next => exact False.elim hq
    | brk => exact False.elim hq
    | cont => exact False.elim hq
end
theorem pe_callHG {X : Cx} {CX : CXT} {k : Nat} {ps : List Str} {sp : Sp} {E : XK} {x : Str} {p pos : Pos} {e : Expr} {es : List Expr} {t : TA} (F : HasG X.prog X.w X.K X.mg X.base CX k x ps sp) (hr : Room k X.A) (hgd : X.A.guards = some []) (hx : Passes CX X E) (ha : PA X (e :: es) t)
    (hg : Gl X x := by rfl) (hdb : (x == ("__debug__" : Str)) = false := by decide) (he : starEach (e :: es) X.env = (false, eval e X.env) :: starEach es X.env := by rfl) (hpl : (backTo pos (starEach es X.env)).any (·.1) = false := by rfl) :
    PE X (.Call (.Name x p) (e :: es) [] pos) (tCall sp [] E t) := by
  obtain ⟨f, fd, F, hm, hk, hb⟩ := F
  refine ⟨fun pins s σ H Q I h => ?_⟩
  refine wpAny_Call_Name_kw (ld_glob I hg hm ?_ hdb)
  exact PySem.W.callWith_K (h₀ := X.base) I.ok.mod.kin hk (thn (ha.run pos pins s σ H _ I h) fun us s1 ⟨vs, H1, I1, r, q⟩ => ⟨I1.kIn, run_fnG F hr hgd hb .nil hx I1 r q⟩) he hpl
theorem law_callG {P : Program} {w : World} {K : PySem.W.Frag} {mg mb : Str → Option Value} {CX : CXT} {k : Nat} {fa a : Addr} {fd : FuncData} {x : Str} {sp : Sp} {s₁ : Shared} {vs : List Value} {ns : List Int}
    (KX : K.In s₁.heap) (hns : s₁.heap.Ns mainGlobals mg) (hb : s₁.heap.Ns builtinsNs mb) (hbb : ∀ x : Str, x ≠ "__name__" → mb x = bootBuiltins x) (hlim : s₁.heap.NoLimit) (hg : s₁.gens = #[])
    (ha : s₁.heap.get? a = some { cls := .type "list", data := .seq vs.toArray }) (hi : IntsAre vs ns) (hl : ns.length ≤ sizeLine) (hr : Room k callerA)
    (F : ∀ base : Heap, K.In base → base.Ns mainGlobals mg → FnOkG P w K mg base CX k fa fd [x] sp) (hbind : ∀ (s : Shared) (u : Value), BindsTo s fd ⟨[u], []⟩ [(x, u)])
    (hsp : ∀ H : Hp, Only H → SqL K H a (ns.map V.int) → sp [.ref a] H (fun v _ => v = .bl true) fun _ _ _ => False)
    (hCX : ∀ H e s', CX [] H s₁ (fun _ _ _ => False) e s' → False) :
    codeAny (model P w) callerA (.call (.ref fa) ⟨[.ref a], []⟩) (fun r s' => r = .ok (.ret (.bool true)) ∧ OldK s₁.heap s'.heap ∧ s'.os = s₁.os ∧ AllBare s'.gens) s₁ := by
  have rv := vals_ints hi
  have lenV := hi.length
  -- from an abstract heap in which nothing but the script may be tracked
  have core : ∀ H : Hp, Only H → SqL K H a (ns.map V.int) → HOk P w H s₁.heap → (∀ b, H b ≠ none → b = a) → (H a ≠ none → K.lookup a = none) →
      codeAny (model P w) callerA (.call (.ref fa) ⟨[.ref a], []⟩) (fun r s' => r = .ok (.ret (.bool true)) ∧ OldK s₁.heap s'.heap ∧ s'.os = s₁.os ∧ AllBare s'.gens) s₁ := by
    intro H hO hS hok hA hK
    have base_of : ∀ {b : Addr} {o : Obj}, s₁.heap.get? b = some o → H b = none → (hidT s₁.heap H).get? b = some o := fun e n => hidT_get e n
    have noA : ∀ {b : Addr} {o : Obj} {es : Array DictEntry} {ep : Nat}, s₁.heap.get? b = some o → o.data = .dict es ep → H b = none := fun {b o es ep} e d => by
      cases q : H b with
      | none => rfl
      | some u =>
        have e' : b = a := hA b (by rw [q]; simp)
        subst e'
        rw [ha] at e; cases e
        have d' : Data.seq vs.toArray _ = Data.dict es ep := d
        cases d'
    have nsK : ∀ {b : Addr} {m : Str → Option Value}, s₁.heap.Ns b m → (hidT s₁.heap H).Ns b m := fun {b m} ⟨o, es, ep, e, d, r⟩ => ⟨o, es, ep, base_of e (noA e d), d, r⟩
    have hKb : K.In (hidT s₁.heap H) := fun b o e => base_of (KX b o e) (by
      cases q : H b with
      | none => rfl
      | some u =>
        have e' : b = a := hA b (by rw [q]; simp)
        subst e'
        rw [hK (by rw [q]; simp)] at e; cases e)
    have hM : Mod K mg (hidT s₁.heap H) := ⟨hKb, nsK hns, ⟨mb, nsK hb, hbb⟩, let ⟨mc, h1, h2⟩ := hlim; ⟨mc, nsK h1, h2⟩⟩
    have e0 : Env0 P w K mg (hidT s₁.heap H) callerA [] s₁ H := ⟨rfl, hM, fun b o e => of_hidT e, Nat.le_of_eq (hidT_size _ _), trivial, fun b hb => absurd (show b ∈ ([] : List Addr) from hb) (by simp), hok, .of_eq hg⟩
    refine codeAny_mono ((F _ hKb (nsK hns)).run callerA [] s₁ H ⟨[.ref a], []⟩ [.ref a] [.ref a] _ _ hr rfl e0 (hbind s₁ (.ref a)) (.cons rfl .nil) (hsp H hO hS)) fun r s' h => ?_
    cases r with
    | error e => exact (hCX H e s' h).elim
    | ok fl =>
      cases fl with
      | next => exact False.elim h
      | brk => exact False.elim h
      | cont => exact False.elim h
      | ret u =>
        obtain ⟨v, H', os, bare, un, hok', r', q⟩ := h
        have q' : v = .bl true := q
        subst q'
        obtain rfl : u = Value.bool true := r'
        refine ⟨rfl, OldK.of_keep fun b o e => ?_, os, bare⟩
        cases q : H b with
        | none => exact un.keep b o e q (by intro z; exact absurd (show b ∈ ([] : List Addr) from z) (by simp)) (by simp)
        | some u =>
          rcases hO b with z | ⟨ob, xs, z⟩
          · rw [q] at z; cases z
          · have z2 := un.frzs b ob _ z
            obtain ⟨e1, _⟩ := hok b _ z
            obtain ⟨e2, _⟩ := hok' b _ z2
            rw [e] at e1; cases e1
            exact e2
  cases hk : K.lookup a with
  | some o =>
    -- the script is one of the module's own objects
    have e := KX a o hk
    rw [ha] at e
    cases e
    refine core (fun _ => none) (fun _ => .inl rfl) (.inr ⟨_, vs.toArray, _, hk, rfl, rfl, rfl, by rw [List.size_toArray, lenV]; exact hl, by simpa using rv⟩) (fun b u z => by have z' : (none : Option HO) = some u := z; cases z') (fun b z => absurd rfl z) fun z => absurd rfl z
  | none =>
    refine core (fun b => if b = a then some (.frz { cls := .type "list", data := .seq vs.toArray } (.lst (ns.map V.int))) else none) (fun b => ?_) (.inl (.inr ⟨{ cls := .type "list", data := .seq vs.toArray }, if_pos rfl⟩)) (fun b u z => ?_) (fun b z => ?_) fun _ => hk
    · by_cases hb : b = a
      · exact .inr ⟨_, _, if_pos hb⟩
      · exact .inl (if_neg hb)
    · by_cases hb : b = a
      · have z' := (if_pos hb).symm.trans z
        cases z'
        subst hb
        exact ⟨ha, by rw [List.length_map]; exact hl, vs, _, rv, ha⟩
      · have z' := (if_neg hb).symm.trans z
        cases z'
    · by_cases hb : b = a
      · exact hb
      · exact absurd (if_neg hb) z
theorem walk_ofG {l : PySem.W.OpenLaw} {n k : Nat} {q : Program} {loose : List Str} {XP : (Str → Option Value) → Heap → Prop} {YP : World → Heap → Prop} {d : DefRec} {CX : CXT} {x : Str}
    (hn : l.most = some n) (hn2 : n ≤ sizeLine) (hdf : d.params.defaults = []) (hr : Room k callerA)
    (F : ∀ (w : World) (mg : Str → Option Value) (fa : Addr) (h : Heap), YP w h → h.Ns mainGlobals mg → mg d.name = some (.ref fa) →
      ∃ (K : PySem.W.Frag) (fd : FuncData) (sp : Sp), K.In h ∧ (∀ (s : Shared) (u : Value), BindsTo s fd ⟨[u], []⟩ [(x, u)]) ∧
        (∀ (H : Hp) (a : Addr) (ns : List Int), ns.length ≤ n → Only H → SqL K H a (ns.map V.int) → sp [.ref a] H (fun v _ => v = .bl true) fun _ _ _ => False) ∧
        ∀ base : Heap, K.In base → base.Ns mainGlobals mg → FnOkG l.prog w K mg base CX k fa fd [x] sp)
    (hCX : ∀ (H : Hp) (s : Shared) (e : Value) (s' : Shared), CX [] H s (fun _ _ _ => False) e s' → False) :
    PySem.W.WalkO q loose XP YP l.row.toRowW d [] (fun f vs => PySem.call f vs) := by
  refine Att.attach_call hn hdf fun w s₀ s₁ mg mb fa o pm cd doc a vs ns G Y ho hd hcd hmg hobj hints hlen hg => ?_
  obtain ⟨K, fd, sp, KX, hb, hsp, hF⟩ := F w mg fa _ Y G.T.g hmg
  exact law_callG KX G.T.g G.T.b G.T.builtins G.T.nolimit hg hobj hints (Nat.le_trans hlen hn2) hr hF hb (fun H hO hS => hsp H a ns hlen hO hS) fun H e s' => hCX H s₁ e s'
end Yd
set_option Elab.async false
set_option linter.all false
set_option maxRecDepth 100000
set_option maxHeartbeats 4000000
namespace Yd
open PySem PySem.Spec L2

def isWholeD : PyData → Bool
  | .int _ => true
  | _ => false
def isCountD : PyData → Bool
  | .int i => decide (0 ≤ i)
  | _ => false
def isPlaceD (d : PyData) (n : Int) : Bool := match d with
  | .int i => decide (0 ≤ i) && decide (i < n)
  | _ => false
def preWhole : List V → Hp → Pm → Prop := fun vs G p => ∃ d, AllP [dat d] vs G ∧ p = dat (.bool (isWholeD d))
def preCount : List V → Hp → Pm → Prop := fun vs G p => ∃ d, AllP [dat d] vs G ∧ p = dat (.bool (isCountD d))
def prePlace : List V → Hp → Pm → Prop := fun vs G p => ∃ d n, AllP [dat d, dat (.int n)] vs G ∧ p = dat (.bool (isPlaceD d n))
theorem AllP.len {ps : List Pm} {vs : List V} {G : Hp} : AllP ps vs G → vs.length = ps.length := by
  induction ps generalizing vs with
  | nil => intro h; cases (show vs = [] from h); rfl
  | cons p ps ih => rintro ⟨v, r, rfl, _, k⟩; simp [ih k]
theorem allp1 {p : Pm} {vs : List V} {G : Hp} (h : AllP [p] vs G) : ∃ v, vs = [v] ∧ p.P v G := by
  obtain ⟨v, r, rfl, h, e⟩ := h
  cases (show r = [] from e)
  exact ⟨v, rfl, h⟩
theorem allp2 {p q : Pm} {vs : List V} {G : Hp} (h : AllP [p, q] vs G) : ∃ v u, vs = [v, u] ∧ p.P v G ∧ q.P u G := by
  obtain ⟨v, r, rfl, h, k⟩ := h
  obtain ⟨u, rfl, k2⟩ := allp1 k
  exact ⟨v, u, rfl, h, k2⟩
theorem allp3 {p q s : Pm} {vs : List V} {G : Hp} (h : AllP [p, q, s] vs G) : ∃ v u x, vs = [v, u, x] ∧ p.P v G ∧ q.P u G ∧ s.P x G := by
  obtain ⟨v, r, rfl, h, k⟩ := h
  obtain ⟨u, x, rfl, k2⟩ := allp2 k
  exact ⟨v, u, x, rfl, h, k2⟩
theorem allp4 {p q s t : Pm} {vs : List V} {G : Hp} (h : AllP [p, q, s, t] vs G) : ∃ v u x y, vs = [v, u, x, y] ∧ p.P v G ∧ q.P u G ∧ s.P x G ∧ t.P y G := by
  obtain ⟨v, r, rfl, h, k⟩ := h
  obtain ⟨u, x, y, rfl, k2⟩ := allp3 k
  exact ⟨v, u, x, y, rfl, h, k2⟩
section
variable {P : Program} {w : World} {K : PySem.W.Frag} {mg : Str → Option Value} {base : Heap}
theorem sc_is_whole : FnScope ["value"] ["value"] (defScope (top 12)) := ⟨rfl, rfl, rfl, by decide +kernel, rfl, by decide +kernel, by decide +kernel⟩
theorem has_is_whole (T : Tx K mg) : Has P w K mg base CX0 1 "is_whole" ["value"] (PureSp preWhole) := by
  refine T.has 1 (fun fd F => F.ok sc_is_whole (fun vs H Q E h => ?_) fun cdv A outer s H vs Q E hr h => ?_) (fun fd F => F.bindsN fun _ _ _ _ _ _ us hl => match us, hl with | [_], _ => rfl)
  · obtain ⟨G, p, _, ⟨d, a, _⟩, _⟩ := h; exact a.len
  · obtain ⟨G, p, z, ⟨d, a, rfl⟩, k⟩ := h
    obtain ⟨v, rfl, hv⟩ := allp1 a
    refine ⟨_, PSs.nox (pss_one (ps_ret (pe_and (pe_callB call_isi (by rfl) (T.free "isinstance") (by decide +kernel) (pa_cons (pv 0) (pa_cons (pe_bltn (v := .ty "int") rfl (T.free "int") (by decide +kernel) rfl) (pa_nil)))) (pe_one (pe_not (pe_callB call_isi (by rfl) (T.free "isinstance") (by decide +kernel) (pa_cons (pv 0) (pa_cons (pe_bltn (v := .ty "bool") rfl (T.free "bool") (by decide +kernel) rfl) (pa_nil))))))))), ?_⟩
    refine ret_is (p := dat (.bool (isWholeD d))) (Is.eqd (is_andV (is_cb (isa_cons (is_var rfl hv) (isa_cons (is_ty _) isa_nil)) (rc_isi (kb_int d))) fun _ => is_notV (is_cb (isa_cons (is_var rfl hv) (isa_cons (is_ty _) isa_nil)) (rc_isi (kb_bool d)))) ?_) z k
    rw [isTy_int, isTy_bool]
    cases d <;> rfl

theorem sc_is_count : FnScope ["value"] ["value"] (defScope (top 13)) := ⟨rfl, rfl, rfl, by decide +kernel, rfl, by decide +kernel, by decide +kernel⟩
theorem has_is_count (T : Tx K mg) : Has P w K mg base CX0 2 "is_count" ["value"] (PureSp preCount) := by
  refine T.has 2 (fun fd F => F.ok sc_is_count (fun vs H Q E h => ?_) fun cdv A outer s H vs Q E hr h => ?_) (fun fd F => F.bindsN fun _ _ _ _ _ _ us hl => match us, hl with | [_], _ => rfl)
  · obtain ⟨G, p, _, ⟨d, a, _⟩, _⟩ := h; exact a.len
  · obtain ⟨G, p, z, ⟨d, a, rfl⟩, k⟩ := h
    obtain ⟨v, rfl, hv⟩ := allp1 a
    refine ⟨_, PSs.nox (pss_one (ps_ret (pe_and (pe_callH (has_is_whole T) (hr.mono (by decide)) pass0 (pa_cons (pv 0) (pa_nil))) (pe_one (pe_cmpR op_ge (pv 0) (pe_int) (nomark _)))))), ?_⟩
    refine ret_is (p := dat (.bool (isCountD d))) (Is.eqd (is_andV (c := isCountD d) (is_call (isa_cons (is_var rfl hv) isa_nil) fun vs G1 _ a => ⟨d, a, rfl⟩) fun hw => ?_) ?_) z k
    · cases d with
      | int i => exact is_op (is_var rfl hv) (is_int 0) ri_B
      | _ => cases hw
    · cases d <;> rfl

theorem sc_is_place : FnScope ["value", "size"] ["value", "size"] (defScope (top 14)) := ⟨rfl, rfl, rfl, by decide +kernel, rfl, by decide +kernel, by decide +kernel⟩
theorem has_is_place (T : Tx K mg) : Has P w K mg base CX0 3 "is_place" ["value", "size"] (PureSp prePlace) := by
  refine T.has 3 (fun fd F => F.ok sc_is_place (fun vs H Q E h => ?_) fun cdv A outer s H vs Q E hr h => ?_) (fun fd F => F.bindsN fun _ _ _ _ _ _ us hl => match us, hl with | [_, _], _ => rfl)
  · obtain ⟨G, p, _, ⟨d, n, a, _⟩, _⟩ := h; exact a.len
  · obtain ⟨G, p, z, ⟨d, n, a, rfl⟩, k⟩ := h
    obtain ⟨v, u, rfl, hv, hu⟩ := allp2 a
    refine ⟨_, PSs.nox (pss_one (ps_ret (pe_and (pe_callH (has_is_count T) (hr.mono (by decide)) pass0 (pa_cons (pv 0) (pa_nil))) (pe_one (pe_cmpR op_lt (pv 0) (pv 1) (nomark _)))))), ?_⟩
    refine ret_is (p := dat (.bool (isPlaceD d n))) (Is.eqd (is_andV (c := isPlaceD d n) (is_call (isa_cons (is_var rfl hv) isa_nil) fun vs G1 _ a => ⟨d, a, rfl⟩) fun hw => ?_) ?_) z k
    · cases d with
      | int i =>
        refine Is.eqd (is_op (is_var rfl hv) (is_var rfl hu) ri_B) ?_
        have h0 : decide (0 ≤ i) = true := hw
        simp only [isPlaceD, h0, Bool.true_and]
      | _ => cases hw
    · cases d with
      | int i => cases h0 : decide (0 ≤ i) <;> simp [isCountD, isPlaceD, h0]
      | _ => rfl

end
end Yd
set_option Elab.async false
set_option linter.all false
set_option maxRecDepth 100000
set_option maxHeartbeats 4000000
namespace Yd
open PySem PySem.Spec L2

theorem sz_two {n : Nat} (h : n ≤ 100) : n ≤ 100000 := by omega
def preKind : List V → Hp → Pm → Prop := fun vs G p => ∃ x, KindOk x ∧ AllP [dat (.str x)] vs G ∧ p = dat (.bool true)
def preRoad : List V → Hp → Pm → Prop := fun vs G p => ∃ r : Road, KindOk r.1 ∧ AllP [dat (rd r)] vs G ∧ p = dat (.bool true)
def preRoadIn : List V → Hp → Pm → Prop := fun vs G p => ∃ (r : Road) (n : Nat), RoadOk n r ∧ AllP [dat (rd r), dat (.int (n : Int))] vs G ∧ p = dat (.bool true)
def arePlacesD (d : PyData) (m n : Int) : Bool := match d with
  | .list ds => decide ((ds.length : Int) = m) && ds.all fun e => isPlaceD e n
  | _ => false
def prePlaces : List V → Hp → Pm → Prop := fun vs G p => ∃ d m n, (∀ ds, d = .list ds → ds.length ≤ 100000 ∧ ∀ e ∈ ds, Sd 60 e) ∧ AllP [dat d, dat (.int m), dat (.int n)] vs G ∧ p = dat (.bool (arePlacesD d m n))
def preCheckKind : List V → Hp → Pm → Prop := fun vs G p => ∃ x, KindOk x ∧ AllP [dat (.str x)] vs G ∧ p = dat .none
theorem filter_nil_all {α : Type} (p : α → Bool) (l : List α) : (l.filter fun x => !p x).isEmpty = l.all p := by
  rw [Bool.eq_iff_iff, List.isEmpty_iff, List.filter_eq_nil_iff, List.all_eq_true]
  constructor
  · intro h x hx
    have := h x hx
    simpa using this
  · intro h x hx
    simp [h x hx]
section
variable {P : Program} {w : World} {K : PySem.W.Frag} {mg : Str → Option Value} {base : Heap}
theorem sc_is_kind : FnScope ["value", "sign"] ["value"] (defScope (top 11)) := ⟨rfl, rfl, rfl, by decide +kernel, rfl, by decide +kernel, by decide +kernel⟩
theorem has_is_kind (T : Tx K mg) : Has P w K mg base CX0 1 "is_kind" ["value"] (PureSp preKind) := by
  refine T.has 0 (fun fd F => F.ok sc_is_kind (fun vs H Q E h => ?_) fun cdv A outer s H vs Q E hr h => ?_) (fun fd F => F.bindsN fun _ _ _ _ _ _ us hl => match us, hl with | [_], _ => rfl)
  · obtain ⟨G, p, _, ⟨x, _, a, _⟩, _⟩ := h; exact a.len
  · obtain ⟨G, p, z, ⟨x, hx, a, rfl⟩, k⟩ := h
    obtain ⟨v, rfl, hv⟩ := allp1 a
    refine ⟨_, PSs.nox (pss_cons (ps_if (PW.pt (pw_or (pt_not (pt_val (pe_callB call_isi (by rfl) (T.free "isinstance") (by decide +kernel) (pa_cons (pv 0) (pa_cons (pe_bltn (v := .ty "str") rfl (T.free "str") (by decide +kernel) rfl) (pa_nil)))))) (pw_or (pt_cmpR op_lt (pe_callB call_len (by rfl) (T.free "len") (by decide +kernel) (pa_cons (pv 0) (pa_nil))) (pe_int) (nomark _)) (pw_or1 (pt_cmpR op_gt (pe_callB call_len (by rfl) (T.free "len") (by decide +kernel) (pa_cons (pv 0) (pa_nil))) (pe_int) (nomark _)))))) (pss_one (ps_ret (pe_bl))) (pss_nil))
      (pss_one (ps_ret (pe_cmpR (op_eqD hr.units) (pe_lc (own := [("sign", 1)]) rfl sc_is_kind.nd (pi_str (pv 0)) (blkOk_by (by rfl)) (fun _ _ _ _ _ => pg_name (i := 1) sc_is_kind.nd rfl (by first | exact Or.inl rfl | exact Or.inr rfl)) (fun _ _ _ _ _ => pts_one (pt_cmpR op_notIn_sign (pv 1) (pe_glob (v := .str "abcdefghijklmnopqrstuvwxyz") rfl T.letters.choose_spec ⟨_, rfl⟩) rfl)) (fun _ _ _ _ _ => pv 1)) (pe_lst (pa_nil)) (nomark _))))), ?_⟩
    have hlen : Is (tCB (fun xs H Q => ∃ x n, xs = [x] ∧ LenV K x H n ∧ Q (.int n) H) (tCons (tVar 0) tNil)) (start ["value", "sign"] [v]) G (dat (.int x.length)) := is_cb (isa_cons (is_var rfl hv) isa_nil) (rc_lenS hx.len)
    refine if_is (b := false) (IsT.eqb (ist_or (ist_not (ist_B (is_cb (isa_cons (is_var rfl hv) (isa_cons (is_ty _) isa_nil)) (rc_isi (kb_str _))))) fun _ => ist_or (b := false) (c := false) (IsT.eqb (ist_test (is_op hlen (is_int 1) ri_B)) ?_) fun _ => IsT.eqb (ist_test (is_op hlen (is_int 8) ri_B)) ?_) ?_) z (fun h => nomatch h) fun _ G2 H2 g2 => ?_
    · have := hx.one
      exact decide_eq_false (by omega)
    · have := hx.eight
      exact decide_eq_false (by omega)
    · rw [isTy_str]; rfl
    refine ret_is (p := dat (.bool true)) (Is.eqd (is_op (is_lcS (f := fun _ => false) (o := fun _ => .none) (is_d (σ := start ["value", "sign"] [v]) rfl (hv.mono g2.gg)) (Nat.le_trans hx.eight (by decide)) fun i c G1 hi s1 => ⟨_, gt_name, rfl, IsT.eqb (ist_test (fun G3 H3 s3 s4 Q q => ⟨_, rfl, c, letters, rfl, rfl, q _ G3 H3 (.refl s4) (.bl _)⟩)) ?_, fun h => nomatch h⟩) (is_lst (ds := []) isa_nil (Nat.zero_le _)) (ri_eqD (Sd.sh (n := 1) ?_) (Sd.sh (n := 1) sd_nil))) ?_) g2.gh fun v G3 H3 g3 pv => k v G3 H3 (g2.trans g3) pv
    · have hm : c ∈ x.cps.toList := List.mem_of_getElem? (by rw [Array.getElem?_toList]; exact hi)
      have := hx.az c hm
      rw [decide_eq_true (mem_letters.mpr this)]; rfl
    · rw [outI_none]; exact sd_nil
    · rw [outI_none, eqv_nil]; rfl

theorem sc_is_road : FnScope ["value"] ["value"] (defScope (top 15)) := ⟨rfl, rfl, rfl, by decide +kernel, rfl, by decide +kernel, by decide +kernel⟩
theorem has_is_road (T : Tx K mg) : Has P w K mg base CX0 3 "is_road" ["value"] (PureSp preRoad) := by
  refine T.has 4 (fun fd F => F.ok sc_is_road (fun vs H Q E h => ?_) fun cdv A outer s H vs Q E hr h => ?_) (fun fd F => F.bindsN fun _ _ _ _ _ _ us hl => match us, hl with | [_], _ => rfl)
  · obtain ⟨G, p, _, ⟨x, _, a, _⟩, _⟩ := h; exact a.len
  · obtain ⟨G, p, z, ⟨r, hx, a, rfl⟩, k⟩ := h
    obtain ⟨v, rfl, hv⟩ := allp1 a
    refine ⟨_, PSs.nox (pss_cons (ps_if (PW.pt (pw_or (pt_not (pt_val (pe_callB call_isi (by rfl) (T.free "isinstance") (by decide +kernel) (pa_cons (pv 0) (pa_cons (pe_bltn (v := .ty "tuple") rfl (T.free "tuple") (by decide +kernel) rfl) (pa_nil)))))) (pw_or1 (pt_cmpR (op_neD hr.units) (pe_callB call_len (by rfl) (T.free "len") (by decide +kernel) (pa_cons (pv 0) (pa_nil))) (pe_int) (nomark _))))) (pss_one (ps_ret (pe_bl))) (pss_nil))
      (pss_one (ps_ret (pe_and (pe_callH (has_is_kind T) (hr.mono (by decide)) pass0 (pa_cons (pe_ix ix_seq (pv 0) (pe_int) (fun _ _ => rfl)) (pa_nil))) (pe_and (pe_callH (has_is_count T) (hr.mono (by decide)) pass0 (pa_cons (pe_ix ix_seq (pv 0) (pe_int) (fun _ _ => rfl)) (pa_nil))) (pe_one (pe_callH (has_is_count T) (hr.mono (by decide)) pass0 (pa_cons (pe_ix ix_seq (pv 0) (pe_int) (fun _ _ => rfl)) (pa_nil))))))))), ?_⟩
    refine if_is (b := false) (IsT.eqb (ist_or (ist_not (ist_B (is_cb (isa_cons (is_var rfl hv) (isa_cons (is_ty _) isa_nil)) (rc_isi (kb_tuple _))))) fun _ => ist_test (is_op (is_cb (isa_cons (is_var rfl hv) isa_nil) rc_lenT) (is_int 3) (ri_neD (Sd.sh (n := 1) (sd_int _)) (Sd.sh (n := 1) (sd_int _))))) ?_) z (fun h => nomatch h) fun _ G2 H2 g2 => ?_
    · rw [isTy_tuple, eqv_int]; rfl
    have hv2 := hv.mono g2.gg
    refine ret_is (p := dat (.bool true)) (is_andV (b := true) (c := true) (is_call (isa_cons (is_op (is_d rfl hv2) (is_int 0) (ri_ixT (j := 0) rfl rfl)) isa_nil) fun vs G1 _ a => ⟨r.1, hx, a, rfl⟩) fun _ =>
      is_andV (b := true) (c := true) (Is.eqd (is_call (isa_cons (is_op (is_d rfl hv2) (is_int 1) (ri_ixT (j := 1) rfl rfl)) isa_nil) fun vs G1 _ a => ⟨_, a, rfl⟩) ?_) fun _ =>
        Is.eqd (is_call (isa_cons (is_op (is_d rfl hv2) (is_int 2) (ri_ixT (j := 2) rfl rfl)) isa_nil) fun vs G1 _ a => ⟨_, a, rfl⟩) ?_) g2.gh fun v G3 H3 g3 pv => k v G3 H3 (g2.trans g3) pv
    · simp [isCountD]
    · simp [isCountD]

theorem sc_is_road_within : FnScope ["value", "size"] ["value", "size"] (defScope (top 16)) := ⟨rfl, rfl, rfl, by decide +kernel, rfl, by decide +kernel, by decide +kernel⟩
theorem has_is_road_within (T : Tx K mg) : Has P w K mg base CX0 4 "is_road_within" ["value", "size"] (PureSp preRoadIn) := by
  refine T.has 5 (fun fd F => F.ok sc_is_road_within (fun vs H Q E h => ?_) fun cdv A outer s H vs Q E hr h => ?_) (fun fd F => F.bindsN fun _ _ _ _ _ _ us hl => match us, hl with | [_, _], _ => rfl)
  · obtain ⟨G, p, _, ⟨x, _, _, a, _⟩, _⟩ := h; exact a.len
  · obtain ⟨G, p, z, ⟨r, n, hr', a, rfl⟩, k⟩ := h
    obtain ⟨v, u, rfl, hv, hu⟩ := allp2 a
    refine ⟨_, PSs.nox (pss_one (ps_ret (pe_and (pe_callH (has_is_road T) (hr.mono (by decide)) pass0 (pa_cons (pv 0) (pa_nil))) (pe_and (pe_cmpR op_lt (pe_ix ix_seq (pv 0) (pe_int) (fun _ _ => rfl)) (pv 1) (nomark _)) (pe_one (pe_cmpR op_lt (pe_ix ix_seq (pv 0) (pe_int) (fun _ _ => rfl)) (pv 1) (nomark _))))))), ?_⟩
    refine ret_is (p := dat (.bool true)) (is_andV (b := true) (c := true) (is_call (isa_cons (is_d rfl hv) isa_nil) fun vs G1 _ a => ⟨r, hr'.kind, a, rfl⟩) fun _ =>
      is_andV (b := true) (c := true) (Is.eqd (is_op (is_op (is_d rfl hv) (is_int 1) (ri_ixT (j := 1) rfl rfl)) (is_d rfl hu) ri_B) ?_) fun _ =>
        Is.eqd (is_op (is_op (is_d rfl hv) (is_int 2) (ri_ixT (j := 2) rfl rfl)) (is_d rfl hu) ri_B) ?_) z k
    · have := hr'.near
      rw [decide_eq_true (by omega)]
    · have := hr'.far
      rw [decide_eq_true (by omega)]

theorem sc_are_places : FnScope ["value", "many", "size", "place"] ["value", "many", "size"] (defScope (top 17)) := ⟨rfl, rfl, rfl, by decide +kernel, rfl, by decide +kernel, by decide +kernel⟩
theorem has_are_places (T : Tx K mg) : Has P w K mg base CX0 4 "are_places" ["value", "many", "size"] (PureSp prePlaces) := by
  refine T.has 6 (fun fd F => F.ok sc_are_places (fun vs H Q E h => ?_) fun cdv A outer s H vs Q E hr h => ?_) (fun fd F => F.bindsN fun _ _ _ _ _ _ us hl => match us, hl with | [_, _, _], _ => rfl)
  · obtain ⟨G, p, _, ⟨_, _, _, _, a, _⟩, _⟩ := h; exact a.len
  · obtain ⟨G, p, z, ⟨d, m, n, hd, a, rfl⟩, k⟩ := h
    obtain ⟨v, u, x, rfl, hv, hu, hx⟩ := allp3 a
    refine ⟨_, PSs.nox (pss_cons (ps_if (PW.pt (pw_or (pt_not (pt_val (pe_callB call_isi (by rfl) (T.free "isinstance") (by decide +kernel) (pa_cons (pv 0) (pa_cons (pe_bltn (v := .ty "list") rfl (T.free "list") (by decide +kernel) rfl) (pa_nil)))))) (pw_or1 (pt_cmpR (op_neD hr.units) (pe_callB call_len (by rfl) (T.free "len") (by decide +kernel) (pa_cons (pv 0) (pa_nil))) (pv 1) (nomark _))))) (pss_one (ps_ret (pe_bl))) (pss_nil))
      (pss_one (ps_ret (pe_cmpR (op_eqD hr.units) (pe_lc (own := [("place", 3)]) rfl sc_are_places.nd (pi_list (pv 0)) (blkOk_by (by rfl)) (fun _ _ _ _ _ => pg_name (i := 3) sc_are_places.nd rfl (by first | exact Or.inl rfl | exact Or.inr rfl)) (fun _ _ _ _ _ => pts_one (pt_not (pt_val (pe_callH (has_is_place T) (hr.mono (by decide)) pass0 (pa_cons (pv 3) (pa_cons (pv 2) (pa_nil))))))) (fun _ _ _ _ _ => pv 3)) (pe_lst (pa_nil)) (nomark _))))), ?_⟩
    have t1 : IsT (tNot (tB (tCB (rIsi K) (tCons (tVar 0) (tCons (tC (.ty "list")) tNil))))) (start ["value", "many", "size", "place"] [v, u, x]) G (!isTy d "list") := ist_not (ist_B (is_cb (isa_cons (is_var rfl hv) (isa_cons (is_ty _) isa_nil)) (rc_isi (kb_list _))))
    by_cases hl : ∃ ds, d = .list ds
    · obtain ⟨ds, rfl⟩ := hl
      obtain ⟨hz, hds⟩ := hd ds rfl
      refine if_is (b := !decide ((ds.length : Int) = m)) (IsT.eqb (ist_or t1 fun _ => ist_test (is_op (is_cb (isa_cons (is_var rfl hv) isa_nil) rc_lenL) (is_d rfl hu) (ri_neD (Sd.sh (n := 1) (sd_int _)) (Sd.sh (n := 1) (sd_int _))))) ?_) z (fun hb G2 H2 g2 => ?_) fun hb G2 H2 g2 => ?_
      · rw [isTy_list, eqv_int]; rfl
      · refine ret_is (is_bl false) g2.gh fun v G3 H3 g3 pv => k v G3 H3 (g2.trans g3) ?_
        have e : decide ((ds.length : Int) = m) = false := by simpa using hb
        show DV G3 v (.bool (decide ((ds.length : Int) = m) && _))
        rw [e]
        exact pv
      · have e : decide ((ds.length : Int) = m) = true := by simpa using hb
        refine ret_is (Is.eqd (is_op (is_lcF (f := fun e => !isPlaceD e n) (o := fun e => e) (is_d rfl (hv.mono g2.gg)) hz fun y e G1 he s1 hy => ⟨_, gt_name, rfl, ist_not (ist_B (is_call (isa_cons (is_d rfl hy) (isa_cons (is_d rfl (hx.mono (g2.gg.trans s1))) isa_nil)) fun vs G1 _ a => ⟨_, _, a, rfl⟩)), fun _ => is_d rfl hy⟩)
          (is_lst (ds := []) isa_nil (Nat.zero_le _)) (ri_eqD (Sd.sh (n := 61) (sd_list fun e he => ?_)) (Sd.sh (n := 1) sd_nil))) ?_) g2.gh fun v G3 H3 g3 pv => k v G3 H3 (g2.trans g3) pv
        · rw [List.map_id'] at he
          exact hds e ((List.mem_filter.mp he).1)
        · rw [List.map_id', eqv_nil, filter_nil_all]
          show PyData.bool _ = .bool (decide ((ds.length : Int) = m) && _)
          rw [e, Bool.true_and]
    · have e1 : isTy d "list" = false := by
        rw [isTy_list]
        cases d with
        | list ds => exact absurd ⟨ds, rfl⟩ hl
        | _ => rfl
      have e2 : arePlacesD d m n = false := by
        cases d with
        | list ds => exact absurd ⟨ds, rfl⟩ hl
        | _ => rfl
      refine if_is (b := true) (IsT.eqb (ist_or (c := false) t1 fun hb => ?_) ?_) z (fun hb G2 H2 g2 => ?_) fun hb => nomatch hb
      · rw [e1] at hb; cases hb
      · rw [e1]; rfl
      · exact ret_is (is_bl false) g2.gh fun v G3 H3 g3 pv => k v G3 H3 (g2.trans g3) (e2 ▸ pv)

theorem sc_check_kind : FnScope ["value"] ["value"] (defScope (top 18)) := ⟨rfl, rfl, rfl, by decide +kernel, rfl, by decide +kernel, by decide +kernel⟩
theorem has_check_kind (T : Tx K mg) : Has P w K mg base CX0 3 "check_kind" ["value"] (PureSp preCheckKind) := by
  refine T.has 7 (fun fd F => F.ok sc_check_kind (fun vs H Q E h => ?_) fun cdv A outer s H vs Q E hr h => ?_) (fun fd F => F.bindsN fun _ _ _ _ _ _ us hl => match us, hl with | [_], _ => rfl)
  · obtain ⟨G, p, _, ⟨_, _, a, _⟩, _⟩ := h; exact a.len
  · obtain ⟨G, p, z, ⟨x, hx, a, rfl⟩, k⟩ := h
    obtain ⟨v, rfl, hv⟩ := allp1 a
    refine ⟨_, PSs.nox (pss_one (ps_if (pt_not (pt_val (pe_callH (has_is_kind T) (hr.mono (by decide)) pass0 (pa_cons (pv 0) (pa_nil))))) (pss_one (ps_never)) (pss_nil))), ?_⟩
    exact if_is (b := false) (ist_not (b := true) (ist_B (is_call (isa_cons (is_d rfl hv) isa_nil) fun vs G1 _ a => ⟨x, hx, a, rfl⟩))) z (fun h => nomatch h) fun _ G2 H2 g2 => k _ G2 H2 g2 .non

end
end Yd
set_option Elab.async false
set_option linter.all false
set_option maxRecDepth 100000
set_option maxHeartbeats 4000000
/-! plain: roads sorted, ends, closed pairs -/
namespace Yd
open PySem PySem.W
theorem dle_total {β : Type} (enc : β → PyData) : TotalLe (dataLe false enc) := sortLe_total _ _ _
theorem dle_anti {β : Type} (enc : β → PyData) {a b : β} (h1 : dataLe false enc a b = true) (h2 : dataLe false enc b a = true) : keyToks (enc a) = keyToks (enc b) := by
  have h1' : (!(PyProof.Rows.listOrd PyProof.Rows.itemOrd).blt (keyToks (enc b)) (keyToks (enc a))) = true := h1
  have h2' : (!(PyProof.Rows.listOrd PyProof.Rows.itemOrd).blt (keyToks (enc a)) (keyToks (enc b))) = true := h2
  exact (PyProof.Rows.listOrd PyProof.Rows.itemOrd).total _ _ (by simpa using h2') (by simpa using h1')
theorem sort_perm_one {β : Type} {enc : β → PyData} (inj : ∀ a b, keyToks (enc a) = keyToks (enc b) → a = b) {l m : List β} (h : l.Perm m) : l.mergeSort (dataLe false enc) = m.mergeSort (dataLe false enc) := by
  refine sort_one (dle_total enc) _ _ (sort_pairwise (dle_total enc) _) (sort_pairwise (dle_total enc) _) fun c => ?_
  have hp : (l.mergeSort (dataLe false enc)).Perm (m.mergeSort (dataLe false enc)) := (List.mergeSort_perm _ _).trans (h.trans (List.mergeSort_perm _ _).symm)
  have key : ∀ k : List β, k.filter (sameRank (dataLe false enc) c) = List.replicate (k.filter (sameRank (dataLe false enc) c)).length c := fun k => by
    rw [List.eq_replicate_iff]
    refine ⟨rfl, fun b hb => ?_⟩
    have := (List.mem_filter.mp hb).2
    unfold sameRank at this
    rw [Bool.and_eq_true] at this
    exact (inj _ _ (dle_anti enc this.1 this.2)).symm
  rw [key, key (m.mergeSort _), (hp.filter _).length_eq]
theorem sort_is {β : Type} {enc : β → PyData} (inj : ∀ a b, keyToks (enc a) = keyToks (enc b) → a = b) {l m : List β} (h : l.Perm m) (hs : l.Pairwise fun a b => dataLe false enc a b = true) : l = m.mergeSort (dataLe false enc) := by
  rw [← sort_perm_one inj h, List.mergeSort_of_pairwise hs]
theorem toks_rd_inj (a b : Road) (h : keyToks (rd a) = keyToks (rd b)) : a = b := by
  obtain ⟨x, y, z⟩ := a
  obtain ⟨x', y', z'⟩ := b
  simp only [rd, keyToks, keyToksAll, List.cons_append, List.nil_append, List.cons.injEq, Sum.inr.injEq, Sum.inl.injEq, and_true, true_and] at h
  obtain ⟨h1, h2, h3⟩ := h
  have e1 := str_of_cps h1
  have e2 : y = y' := by omega
  have e3 : z = z' := by omega
  rw [e1, e2, e3]
/-- the roads, sorted -/
def rsort (rs : List Road) : List Road := rs.mergeSort (dataLe false rd)
theorem rsort_perm (rs : List Road) : (rsort rs).Perm rs := List.mergeSort_perm _ _
theorem rsort_of_perm {l m : List Road} (h : l.Perm m) : rsort l = rsort m := sort_perm_one toks_rd_inj h
theorem rsort_sorted (rs : List Road) : (rsort rs).Pairwise fun a b => dataLe false rd a b = true := sort_pairwise (dle_total rd) _
theorem dsort_map {β : Type} (enc : β → PyData) (l : List β) : dsort (l.map enc) = (l.mergeSort (dataLe false enc)).map enc := (sort_maps enc fun a _ b _ => rfl).symm
theorem dsort_rds (rs : List Road) : dsort (rs.map rd) = (rsort rs).map rd := dsort_map rd rs
theorem mem_rsort {r : Road} {rs : List Road} : r ∈ rsort rs ↔ r ∈ rs := (rsort_perm rs).mem_iff
theorem rsort_filter (p : Road → Bool) (rs : List Road) : (rsort rs).filter p = rsort (rs.filter p) :=
  sort_is toks_rd_inj ((rsort_perm rs).filter p) ((rsort_sorted rs).sublist List.filter_sublist)
theorem rsort_idem (rs : List Road) : rsort (rsort rs) = rsort rs := rsort_of_perm (rsort_perm rs)
theorem alike_rds (rs : List Road) : AllAlike (rs.map rd) := AllAlike.of fun a b => by simp [rd, alike, alikeAll]
theorem sortable_rds (rs : List Road) : Sortable (rs.map rd) := Sortable.tuples fun r => ⟨_, _, rfl⟩
theorem depth_rd (r : Road) : (rd r).depth ≤ 60 := by simp [rd, PyData.depth, PyData.depthAll]
theorem noDict_rd (r : Road) : (rd r).hasDict = false := by simp [rd, PyData.hasDict, PyData.hasDictAll]
/-! ### ends -/
def near (r : Road) : Nat := r.2.1
def far (r : Road) : Nat := r.2.2
/-- the far ends of the lines of a kind at a place, in the lines' order -/
def ends (n f : Road → Nat) (ls : List Road) (k : Str) (p : Nat) : List Nat := (ls.filter fun r => decide (r.1 = k ∧ n r = p)).map f
theorem mem_fore {ls : List Road} {k : Str} {p q : Nat} : q ∈ ends near far ls k p ↔ (k, p, q) ∈ ls := by
  unfold ends
  rw [List.mem_map]
  constructor
  · rintro ⟨⟨a, b, c⟩, hr, rfl⟩
    obtain ⟨h1, h2⟩ := List.mem_filter.mp hr
    obtain ⟨h3, h4⟩ := of_decide_eq_true h2
    cases h3
    cases (show b = p from h4)
    exact h1
  · intro h
    exact ⟨_, List.mem_filter.mpr ⟨h, decide_eq_true ⟨rfl, rfl⟩⟩, rfl⟩
theorem mem_back {ls : List Road} {k : Str} {p q : Nat} : q ∈ ends far near ls k p ↔ (k, q, p) ∈ ls := by
  unfold ends
  rw [List.mem_map]
  constructor
  · rintro ⟨⟨a, b, c⟩, hr, rfl⟩
    obtain ⟨h1, h2⟩ := List.mem_filter.mp hr
    obtain ⟨h3, h4⟩ := of_decide_eq_true h2
    cases h3
    cases (show c = p from h4)
    exact h1
  · intro h
    exact ⟨_, List.mem_filter.mpr ⟨h, decide_eq_true ⟨rfl, rfl⟩⟩, rfl⟩
theorem ends_len (n f : Road → Nat) (ls : List Road) (k : Str) (p : Nat) : (ends n f ls k p).length ≤ ls.length := by
  unfold ends; rw [List.length_map]; exact List.length_filter_le _ _
/-! ### a web -/
structure WebOk (n : Nat) (rs : List Road) : Prop where
  road : ∀ r ∈ rs, RoadOk n r
  nd : rs.Nodup
  few : rs.length ≤ 1024
  small : n ≤ 1000
theorem WebOk.perm {n : Nat} {rs qs : List Road} (h : WebOk n rs) (p : qs.Perm rs) : WebOk n qs :=
  ⟨fun r hr => h.road r (p.mem_iff.mp hr), p.nodup_iff.mpr h.nd, by rw [p.length_eq]; exact h.few, h.small⟩
theorem WebOk.sort {n : Nat} {rs : List Road} (h : WebOk n rs) : WebOk n (rsort rs) := h.perm (rsort_perm rs)
theorem WebOk.filter {n : Nat} {rs : List Road} (h : WebOk n rs) (p : Road → Bool) : WebOk n (rs.filter p) :=
  ⟨fun r hr => h.road r (List.mem_filter.mp hr).1, h.nd.sublist List.filter_sublist, Nat.le_trans (List.length_filter_le _ _) h.few, h.small⟩
end Yd
set_option Elab.async false
set_option linter.all false
set_option maxRecDepth 100000
set_option maxHeartbeats 4000000
namespace Yd
open PySem PySem.Spec L2

theorem un70 {A : Around} {k : Nat} (hr : Room k A) : A.units + 70 < cLine := by have := hr.un; omega
theorem if_true_of {c : Bool} {A B : Prop} (hc : c = true) (h : A) : if c = true then A else B := by
  rw [if_pos hc]
  exact h
theorem if_false_of {c : Bool} {A B : Prop} (hc : c = false) (h : B) : if c = true then A else B := by
  rw [hc, if_neg Bool.false_ne_true]
  exact h
/-! ### the dict of ends -/
def vN (n : Nat) : V := .int (n : Int)
def ky (k : Str) (p : Nat) : List Key := [.inr k, .inl (p : Int)]
theorem ky_inj {k k' : Str} {p p' : Nat} (h : ky k p = ky k' p') : k = k' ∧ p = p' := by
  simp only [ky, List.cons.injEq, Sum.inr.injEq, Sum.inl.injEq, and_true] at h
  obtain ⟨rfl, h⟩ := h
  exact ⟨rfl, by omega⟩
def EndsV (n f : Road → Nat) (ls : List Road) (v : V) (G : Hp) : Prop := ∃ a kvs, v = .ref a ∧ G a = some (.dT kvs) ∧ ∀ k p, (valV kvs (ky k p) = none → ends n f ls k p = []) ∧ ∀ u, valV kvs (ky k p) = some u → DV G u (nums (ends n f ls k p))
def endsP (n f : Road → Nat) (ls : List Road) : Pm := ⟨EndsV n f ls, fun v G G' s ⟨a, kvs, e, h, k⟩ => ⟨a, kvs, e, s _ _ h, fun x p => ⟨(k x p).1, fun u hu => ((k x p).2 u hu).mono s⟩⟩⟩
/-- all of S, new since the start, is shown -/
noncomputable def showS (S : Addr → Prop) (G H : Hp) : Hp := fun b => open Classical in if S b then H b else G b
theorem showS_in {S : Addr → Prop} {G H : Hp} {b : Addr} (h : S b) : showS S G H b = H b := if_pos h
theorem showS_out {S : Addr → Prop} {G H : Hp} {b : Addr} (h : ¬ S b) : showS S G H b = G b := if_neg h
theorem showS_same {S : Addr → Prop} {G H : Hp} (s : Same G H) : Same G (showS S G H) := fun b o e => by
  by_cases h : S b
  · rw [showS_in h]; exact s b o e
  · rw [showS_out h]; exact e
theorem showS_sub {S : Addr → Prop} {G H : Hp} (s : Same G H) : Same (showS S G H) H := fun b o e => by
  by_cases h : S b
  · rw [showS_in h] at e; exact e
  · rw [showS_out h] at e; exact s b o e
theorem Gr.shos {M S : Addr → Prop} {G H G2 H2 : Hp} (a : Gr M G H G2 H2) (hS : ∀ b, S b → H b = none) : Gr M G H (showS S G2 H2) H2 where
  s0 := a.s0
  gg := a.gg.trans (showS_same a.gh)
  gh := showS_sub a.gh
  hh := a.hh
  th := a.th
  nw := fun b e k => by
    by_cases h : S b
    · exact hS b h
    · rw [showS_out h] at k; exact a.nw b e k
/-- ends_by's loop, behind the lines ls -/
structure EbI (G H G' H' : Hp) (fd : Addr) (n f : Road → Nat) (ls : List Road) (kvs : List (List Key × V)) : Prop where
  g : Gr0 G H G' H'
  hd : H fd = none
  gd : G' fd = none
  od : H' fd = some (.dT kvs)
  len : kvs.length ≤ ls.length
  no : ∀ k p, valV kvs (ky k p) = none → ends n f ls k p = []
  va : ∀ key v, valV kvs key = some v → ∃ k p l, key = ky k p ∧ v = .ref l ∧ l ≠ fd ∧ H l = none ∧ G' l = none ∧ H' l = some (.lst ((ends n f ls k p).map vN))
  inj : ∀ k1 k2 v, valV kvs k1 = some v → valV kvs k2 = some v → k1 = k2
theorem EbI.grow {G H G' H' G2 H2 : Hp} {fd : Addr} {n f : Road → Nat} {ls : List Road} {kvs : List (List Key × V)} (I : EbI G H G' H' fd n f ls kvs) (g : Gr0 G' H' G2 H2) : EbI G H G2 H2 fd n f ls kvs where
  g := I.g.trans g
  hd := I.hd
  gd := g.out I.gd I.od
  od := g.same _ _ I.od
  len := I.len
  no := I.no
  va := fun key v h => by
    obtain ⟨k, p, l, h1, h2, h3, h4, h5, h6⟩ := I.va key v h
    exact ⟨k, p, l, h1, h2, h3, h4, g.out h5 h6, g.same _ _ h6⟩
  inj := I.inj
theorem EbI.start {G H G' H' : Hp} (g : Gr0 G H G' H') {fd : Addr} (h : H' fd = none) (n f : Road → Nat) : EbI G H G' (upd H' fd (.dT [])) fd n f [] [] where
  g := g.wr (.inl (g.th _ h)) (g.gh.free h)
  hd := g.th _ h
  gd := g.gh.free h
  od := upd_same
  len := Nat.le_refl _
  no := fun _ _ _ => rfl
  va := fun _ _ h => nomatch h
  inj := fun _ _ _ h => nomatch h
theorem EbI.fin {G H G' H' : Hp} {fd : Addr} {n f : Road → Nat} {ls : List Road} {kvs : List (List Key × V)} (I : EbI G H G' H' fd n f ls kvs) : ∃ G2, Gr0 G H G2 H' ∧ EndsV n f ls (.ref fd) G2 := by
  refine ⟨showS (fun b => b = fd ∨ ∃ key, valV kvs key = some (.ref b)) G' H', I.g.shos fun b hb => ?_, fd, kvs, rfl, ?_, fun k p => ⟨I.no k p, fun u hu => ?_⟩⟩
  · rcases hb with rfl | ⟨key, hb⟩
    · exact I.hd
    · obtain ⟨_, _, l, _, e, _, h4, _⟩ := I.va _ _ hb
      cases e; exact h4
  · rw [showS_in (.inl rfl)]; exact I.od
  · obtain ⟨k', p', l, e1, rfl, _, _, _, h6⟩ := I.va _ _ hu
    obtain ⟨rfl, rfl⟩ := ky_inj e1
    have hl : showS (fun b => b = fd ∨ ∃ key, valV kvs key = some (.ref b)) G' H' l = some (.lst ((ends n f ls k p).map vN)) := by
      rw [showS_in (.inr ⟨_, hu⟩)]; exact h6
    exact .lst hl (dvs_nums _)
theorem ends_snoc (n f : Road → Nat) (ls : List Road) (r : Road) (k : Str) (p : Nat) : ends n f (ls ++ [r]) k p = ends n f ls k p ++ if r.1 = k ∧ n r = p then [f r] else [] := by
  unfold ends
  rw [List.filter_append, List.map_append]
  congr 1
  by_cases h : r.1 = k ∧ n r = p
  · rw [if_pos h, List.filter_cons, if_pos (decide_eq_true h)]; rfl
  · rw [if_neg h, List.filter_cons, if_neg (by simpa using h)]; rfl
theorem ends_snoc_ne {n f : Road → Nat} {ls : List Road} {r : Road} {k : Str} {p : Nat} (h : ky k p ≠ ky r.1 (n r)) : ends n f (ls ++ [r]) k p = ends n f ls k p := by
  rw [ends_snoc, if_neg (fun z => h (by rw [z.1, z.2])), List.append_nil]
theorem ends_snoc_eq (n f : Road → Nat) (ls : List Road) (r : Road) : ends n f (ls ++ [r]) r.1 (n r) = ends n f ls r.1 (n r) ++ [f r] := by
  rw [ends_snoc, if_pos ⟨rfl, rfl⟩]
/-- an empty list for a new key -/
theorem EbI.newKey {G H G' H' : Hp} {fd l : Addr} {n f : Road → Nat} {ls : List Road} {kvs : List (List Key × V)} {k : Str} {p : Nat} (I : EbI G H G' H' fd n f ls kvs) (hn : valV kvs (ky k p) = none) (hl : H' l = none) :
    ∀ (r : Road), k = r.1 → p = n r → ∃ xs, ((upd (upd H' l (.lst [])) fd (.dT (putK kvs (ky k p) (.ref l)))) l = some (.lst xs)) ∧ xs.length ≤ ls.length ∧ l ≠ fd ∧
      EbI G H G' (upd (upd (upd H' l (.lst [])) fd (.dT (putK kvs (ky k p) (.ref l)))) l (.lst (xs ++ [vN (f r)]))) fd n f (ls ++ [r]) (putK kvs (ky k p) (.ref l)) := by
  intro r hk hp
  have hlf : l ≠ fd := fun z => by rw [z, I.od] at hl; cases hl
  have hfl : fd ≠ l := Ne.symm hlf
  have e0 : ends n f ls k p = [] := I.no k p hn
  refine ⟨[], by rw [upd_ne hlf, upd_same], Nat.zero_le _, hlf, ?_⟩
  have gl : G' l = none := I.g.gh.free hl
  have val : ∀ j, valV (putK kvs (ky k p) (V.ref l)) j = if j = ky k p then some (.ref l) else valV kvs j := fun j => valV_put _ _ _ _
  refine { g := ?_, hd := I.hd, gd := I.gd, od := ?_, len := ?_, no := ?_, va := ?_, inj := ?_ }
  · have g1 : Gr0 G H G' (upd H' l (.lst [])) := I.g.wr (.inl (I.g.th _ hl)) gl
    have g2 : Gr0 G H G' (upd (upd H' l (.lst [])) fd (.dT (putK kvs (ky k p) (.ref l)))) := g1.wr (.inl I.hd) I.gd
    exact g2.wr (.inl (I.g.th _ hl)) gl
  · rw [upd_ne hfl, upd_same]
  · rw [putK_new _ hn, List.length_append, List.length_append]
    have := I.len
    simp only [List.length_cons, List.length_nil]; omega
  · intro k' p' h
    rw [val] at h
    by_cases c : ky k' p' = ky k p
    · rw [if_pos c] at h; cases h
    · rw [if_neg c] at h
      rw [ends_snoc_ne (by rw [← hk, ← hp]; exact c)]
      exact I.no _ _ h
  · intro key v h
    rw [val] at h
    by_cases c : key = ky k p
    · rw [if_pos c] at h
      cases h
      refine ⟨k, p, l, c, rfl, hlf, I.g.th _ hl, gl, ?_⟩
      rw [upd_same]
      subst hk hp
      rw [ends_snoc_eq, e0]; rfl
    · rw [if_neg c] at h
      obtain ⟨k', p', l', h1, h2, h3, h4, h5, h6⟩ := I.va _ _ h
      have hne : l' ≠ l := fun z => by rw [z, hl] at h6; cases h6
      refine ⟨k', p', l', h1, h2, h3, h4, h5, ?_⟩
      rw [upd_ne hne, upd_ne h3, upd_ne hne, h6, ends_snoc_ne (by rw [← hk, ← hp, ← h1]; exact c)]
  · intro k1 k2 v h1 h2
    rw [val] at h1 h2
    have old : ∀ key, valV kvs key = some (.ref l) → False := fun key h => by
      obtain ⟨_, _, l', _, e, _, _, _, h6⟩ := I.va _ _ h
      cases e
      rw [hl] at h6; cases h6
    by_cases c1 : k1 = ky k p
    · by_cases c2 : k2 = ky k p
      · rw [c1, c2]
      · rw [if_pos c1] at h1; rw [if_neg c2] at h2
        cases h1
        exact (old _ h2).elim
    · by_cases c2 : k2 = ky k p
      · rw [if_neg c1] at h1; rw [if_pos c2] at h2
        cases h2
        exact (old _ h1).elim
      · rw [if_neg c1] at h1; rw [if_neg c2] at h2
        exact I.inj _ _ _ h1 h2
/-- one more at an old key -/
theorem EbI.oldKey {G H G' H' : Hp} {fd : Addr} {n f : Road → Nat} {ls : List Road} {kvs : List (List Key × V)} (I : EbI G H G' H' fd n f ls kvs) (r : Road) {v : V} (hv : valV kvs (ky r.1 (n r)) = some v) :
    ∃ l xs, v = .ref l ∧ H' l = some (.lst xs) ∧ xs.length ≤ ls.length ∧ EbI G H G' (upd H' l (.lst (xs ++ [vN (f r)]))) fd n f (ls ++ [r]) kvs := by
  obtain ⟨k0, p0, l, e0, rfl, h3, h4, h5, h6⟩ := I.va _ _ hv
  obtain ⟨e1, e2⟩ := ky_inj e0
  subst e1 e2
  refine ⟨l, _, rfl, h6, by rw [List.length_map]; exact ends_len _ _ _ _ _, ?_⟩
  have hfl : fd ≠ l := Ne.symm h3
  refine { g := I.g.wr (.inl h4) h5, hd := I.hd, gd := I.gd, od := by rw [upd_ne hfl]; exact I.od, len := by rw [List.length_append]; have := I.len; omega, no := ?_, va := ?_, inj := I.inj }
  · intro k p h
    by_cases c : ky k p = ky r.1 (n r)
    · rw [c, hv] at h; cases h
    · rw [ends_snoc_ne c]; exact I.no _ _ h
  · intro key v' h
    obtain ⟨k', p', l', q1, q2, q3, q4, q5, q6⟩ := I.va _ _ h
    by_cases c : key = ky r.1 (n r)
    · rw [c, hv] at h
      cases h
      cases q2
      rw [q1] at c
      obtain ⟨e1, e2⟩ := ky_inj c
      refine ⟨k', p', l, q1, rfl, q3, q4, q5, ?_⟩
      rw [upd_same, e1, e2, ends_snoc_eq, List.map_append]; rfl
    · have hne : l' ≠ l := fun z => c (I.inj _ _ _ (by rw [h, q2, z]) hv)
      refine ⟨k', p', l', q1, q2, q3, q4, q5, ?_⟩
      rw [upd_ne hne, q6, ends_snoc_ne (by rw [← q1]; exact c)]
def preAreRoads : List V → Hp → Pm → Prop := fun vs G p => ∃ (rs : List Road) (n : Nat), WebOk n rs ∧ AllP [dat (.list (rs.map rd)), dat (.int (n : Int))] vs G ∧ p = dat (.bool true)
def ixr (i : Nat) (r : Road) : Nat := if i = 1 then r.2.1 else r.2.2
def preEnds : List V → Hp → Pm → Prop := fun vs G p => ∃ (rs : List Road) (i j : Nat), (i = 1 ∨ i = 2) ∧ (j = 1 ∨ j = 2) ∧ rs.length ≤ 1024 ∧ AllP [dat (.list (rs.map rd)), dat (.int (i : Int)), dat (.int (j : Int))] vs G ∧ p = endsP (ixr i) (ixr j) (rsort rs)
theorem rd_ix {r : Road} {i : Nat} (h : i = 1 ∨ i = 2) : ([PyData.str r.1, .int (r.2.1 : Int), .int (r.2.2 : Int)] : List PyData)[i]? = some (.int (ixr i r : Int)) := by
  rcases h with rfl | rfl <;> rfl
section
variable {P : Program} {w : World} {K : PySem.W.Frag} {mg : Str → Option Value} {base : Heap}
theorem sc_are_roads : FnScope ["value", "size", "line"] ["value", "size"] (defScope (top 22)) := ⟨rfl, rfl, rfl, by decide +kernel, rfl, by decide +kernel, by decide +kernel⟩
theorem has_are_roads (T : Tx K mg) : Has P w K mg base CX0 5 "are_roads" ["value", "size"] (PureSp preAreRoads) := by
  refine T.has 9 (fun fd F => F.ok sc_are_roads (fun vs H Q E h => ?_) fun cdv A outer s H vs Q E hr h => ?_) (fun fd F => F.bindsN fun _ _ _ _ _ _ us hl => match us, hl with | [_, _], _ => rfl)
  · obtain ⟨G, p, _, ⟨_, _, _, a, _⟩, _⟩ := h; exact a.len
  · obtain ⟨G, p, z, ⟨rs, n, hw, a, rfl⟩, k⟩ := h
    obtain ⟨v, u, rfl, hv, hu⟩ := allp2 a
    have few := hw.few
    refine ⟨_, PSs.nox (pss_cons (ps_if (PW.pt (pw_or (pt_not (pt_val (pe_callB call_isi (by rfl) (T.free "isinstance") (by decide +kernel) (pa_cons (pv 0) (pa_cons (pe_bltn (v := .ty "list") rfl (T.free "list") (by decide +kernel) rfl) (pa_nil)))))) (pw_or1 (pt_cmpR (op_neD hr.units) (pe_lc (own := [("line", 2)]) rfl sc_are_roads.nd (pi_list (pv 0)) (blkOk_by (by rfl)) (fun _ _ _ _ _ => pg_name (i := 2) sc_are_roads.nd rfl (by first | exact Or.inl rfl | exact Or.inr rfl)) (fun _ _ _ _ _ => pts_one (pt_not (pt_val (pe_callH (has_is_road_within T) (hr.mono (by decide)) pass0 (pa_cons (pv 2) (pa_cons (pv 1) (pa_nil))))))) (fun _ _ _ _ _ => pv 2)) (pe_lst (pa_nil)) (nomark _))))) (pss_one (ps_ret (pe_bl))) (pss_nil))
      (pss_one (ps_ret (pe_cmpR (op_eqD hr.units) (pe_lenSetG rfl rfl (T.free "len") rfl (T.free "set") (un70 hr) (pv 0)) (pe_callB call_len (by rfl) (T.free "len") (by decide +kernel) (pa_cons (pv 0) (pa_nil))) (nomark _))))), ?_⟩
    refine if_is (b := false) (IsT.eqb (ist_or (ist_not (ist_B (is_cb (isa_cons (is_var rfl hv) (isa_cons (is_ty _) isa_nil)) (rc_isi (kb_list _))))) fun _ => ist_test (is_op (is_lcF (f := fun _ => false) (o := fun e => e) (is_d rfl hv) (by rw [List.length_map]; omega) fun x d G1 hd s1 hx => ?_) (is_lst (ds := []) isa_nil (Nat.zero_le _)) (ri_neD (Sd.sh (n := 1) ?_) (Sd.sh (n := 1) sd_nil)))) ?_) z (fun h => nomatch h) fun _ G2 H2 g2 => ?_
    · obtain ⟨r, hr', rfl⟩ := List.mem_map.mp hd
      exact ⟨_, gt_name, rfl, IsT.eqb (ist_not (ist_B (is_call (isa_cons (is_d rfl hx) (isa_cons (is_d rfl (hu.mono s1)) isa_nil)) fun vs G3 _ a => ⟨r, n, hw.road r hr', a, rfl⟩))) rfl, fun h => nomatch h⟩
    · rw [List.filter_eq_nil_iff.mpr (fun _ _ h => Bool.false_ne_true h)]; exact sd_nil
    · rw [isTy_list, List.filter_eq_nil_iff.mpr (fun _ _ h => Bool.false_ne_true h), List.map_nil, eqv_nil]; rfl
    · refine ret_is (p := dat (.bool true)) (Is.eqd (is_op (is_lenSet (is_d rfl (hv.mono g2.gg)) (by omega) hw.nd) (is_cb (isa_cons (is_d rfl (hv.mono g2.gg)) isa_nil) rc_lenL) (ri_eqD (Sd.sh (n := 1) (sd_int _)) (Sd.sh (n := 1) (sd_int _)))) ?_) g2.gh fun v G3 H3 g3 pv => k v G3 H3 (g2.trans g3) pv
      rw [eqv_int, List.length_map]; simp

theorem sc_ends_by : FnScope ["lines", "near", "far", "found", "line", "key"] ["lines", "near", "far"] (defScope (top 23)) := ⟨rfl, rfl, rfl, by decide +kernel, rfl, by decide +kernel, by decide +kernel⟩
theorem has_ends_by (T : Tx K mg) : Has P w K mg base CX0 1 "ends_by" ["lines", "near", "far"] (PureSp preEnds) := by
  refine T.has 10 (fun fd F => F.ok sc_ends_by (fun vs H Q E h => ?_) fun cdv A outer s H vs Q E hr h => ?_) (fun fd F => F.bindsN fun _ _ _ _ _ _ us hl => match us, hl with | [_, _, _], _ => rfl)
  · obtain ⟨G, p, _, ⟨_, _, _, _, _, _, a, _⟩, _⟩ := h; exact a.len
  · obtain ⟨G, p, z, ⟨rs, i, j, hi, hj, few, a, rfl⟩, k⟩ := h
    obtain ⟨v, u, x, rfl, hv, hu, hx⟩ := allp3 a
    have eu := hu.int_inv
    have ex := hx.int_inv
    subst eu ex
    refine ⟨_, PSs.nox (pss_cons (ps_set (i := 3) sc_ends_by.nd rfl (by first | exact Or.inl rfl | exact Or.inr rfl) (pe_dnewT))
      (pss_cons (ps_for PassesOwn.never rfl (pi_list (pe_callB (cr_sortD (un70 hr)) (by rfl) (T.free "sorted") (by decide +kernel) (pa_cons (pv 0) (pa_nil)))) (pg_name (i := 4) sc_ends_by.nd rfl (by first | exact Or.inl rfl | exact Or.inr rfl)) (pss_cons (ps_set (i := 5) sc_ends_by.nd rfl (by first | exact Or.inl rfl | exact Or.inr rfl) (pe_tup (pa_cons (pe_ix ix_seq (pv 4) (pe_int) (fun _ _ => rfl)) (pa_cons (pe_ix ix_seq (pv 4) (pv 1) (fun _ _ => rfl)) (pa_nil)))))
        (pss_cons (ps_if (pt_cmp (pc_dnotin (hu_of hr) (pv 5) (pv 3)) rfl) (pss_one (ps_dput (hu_of hr) (pv 3) (pv 5) (pe_lst (pa_nil)) rfl)) (pss_nil))
        (pss_one (ps_expr (pe_bm PySem.F.plainAttrs_list PySem.F.slot_list_append PySem.F.type_list_append mt_append (pe_dget (hu_of hr) (pv 3) (pv 5) (fun _ _ => rfl)) (pa_cons (pe_ix ix_seq (pv 4) (pv 2) (fun _ _ => rfl)) (pa_nil))))))))
      (pss_one (ps_ret (pv 3))))), ?_⟩
    intro fd hfd
    have g0 : EbI G H G (upd H fd (.dT [])) fd (ixr i) (ixr j) [] [] := EbI.start (.refl z) hfd _ _
    have hlen : (rsort rs).length = rs.length := (rsort_perm rs).length_eq
    refine for_dat (ds := (rsort rs).map rd) (Is.eqd (is_cb (isa_cons (is_d rfl hv) isa_nil) (rc_sortD (alike_rds rs) (sortable_rds rs) (fun d hd => ?_) (by rw [List.length_map]; omega))) ?_) g0.g.gh
      (fun m σ' G' H' => ∃ y w kvs, σ' = [some v, some (.int (i : Int)), some (.int (j : Int)), some (.ref fd), y, w] ∧ EbI G H G' H' fd (ixr i) (ixr j) ((rsort rs).take m) kvs) (fun G1 H1 g1 => ⟨none, none, [], rfl, g0.grow g1⟩) ?_ ?_
    · obtain ⟨r, _, rfl⟩ := List.mem_map.mp hd
      exact ⟨noDict_rd r, depth_rd r⟩
    · rw [dsort_rds]
    · rintro m y d σ' G' H' hm hy zs zg ⟨y0, w0, kvs, rfl, I⟩
      rw [List.getElem?_map, Option.map_eq_some_iff] at hm
      obtain ⟨r, hr1, rfl⟩ := hm
      have hml : m < (rsort rs).length := (List.getElem?_eq_some_iff.mp hr1).1
      refine ⟨_, gt_name, fun N hN => ?_⟩
      refine set_is (is_tup (ds := [.str r.1, .int (ixr i r : Int)]) (isa_cons (is_op (is_d rfl hy) (is_int 0) (ri_ixT (j := 0) rfl rfl)) (isa_cons (is_op (is_d rfl hy) (is_d rfl (.int _)) (ri_ixT (j := i) rfl (rd_ix hi))) isa_nil)) (by simp)) zs fun T G2 H2 g2 hT => ?_
      obtain ⟨t, xs, rfl, ht, dvt⟩ := (show DV G2 T (.tuple _) from hT).tup_inv
      have ht' : H2 t = some (.tup ((ky r.1 (ixr i r)).map kV)) := by
        rw [g2.gh _ _ ht]
        cases dvt with
        | cons h1 t1 =>
          cases t1 with
          | cons h2 t2 =>
            cases t2
            rw [h1.str_inv, h2.int_inv]; rfl
      have I2 := I.grow g2
      have etk : (rsort rs).take (m + 1) = (rsort rs).take m ++ [r] := by rw [List.take_succ, hr1]; rfl
      have htl : ((rsort rs).take m).length ≤ 1024 := by rw [List.length_take]; omega
      have hsz : ∀ {n : Nat}, n ≤ ((rsort rs).take m).length → n < sizeLine := fun h => Nat.lt_of_le_of_lt h (sz_lt (by omega))
      have apn : ∀ (kvs' : List (List Key × V)) (l : Addr) (ys : List V) (H3 : Hp) (C1 : L2.St → Hp → Prop), valV kvs' (ky r.1 (ixr i r)) = some (.ref l) → H3 fd = some (.dT kvs') → H3 t = some (.tup ((ky r.1 (ixr i r)).map kV)) → H3 l = some (.lst ys) → ys.length < sizeLine → Same G2 H3 →
          C1 [some v, some (.int (i : Int)), some (.int (j : Int)), some (.ref fd), some y, some (.ref t)] (upd H3 l (.lst (ys ++ [vN (ixr j r)]))) →
          tBM K "list" rAppend (tDGet (tVar 3) (tVar 5)) (tCons (tOp (rIx K) (tVar 4) (tVar 2)) tNil) [some v, some (.int (i : Int)), some (.int (j : Int)), some (.ref fd), some y, some (.ref t)] H3 (fun _ H' => C1 [some v, some (.int (i : Int)), some (.int (j : Int)), some (.ref fd), some y, some (.ref t)] H') := by
        intro kvs' l ys H3 C1 e1 e2 e3 e4 e5 e6 e7
        refine ⟨_, rfl, _, rfl, fd, .ref l, rfl, e1 ▸ DGet.t e2 e3, .inl ⟨rfl, _, SqL.of e4⟩, ?_⟩
        obtain ⟨ta, txs, ety, hta, dvy⟩ := (show DV G2 y (.tuple _) from hy.mono g2.gg).tup_inv
        obtain ⟨v2, hv2, dd2⟩ := dvy.get (rd_ix (r := r) hj)
        obtain rfl := dd2.int_inv
        exact ⟨_, rfl, _, rfl, .inr (.inl ⟨ta, txs, (j : Int), _, ety, rfl, SqT.of (e6 _ _ hta), at_of rfl hv2, l, ys, _, rfl, rfl, e4, e5, e7⟩)⟩
      refine ⟨.ref t, rfl, .ref fd, rfl, fd, _, rfl, DGet.t I2.od ht', _, rfl, ?_⟩
      cases hv0 : valV kvs (ky r.1 (ixr i r)) with
      | none =>
        refine if_true_of rfl ?_
        refine ⟨Nat.zero_le _, fun l hl => ⟨_, rfl, _, rfl, fd, _, rfl, DPut.t (k := ky r.1 (ixr i r)) (by rw [upd_ne (ne_of_none I2.od hl)]; exact I2.od) (by rw [upd_ne (ne_of_none ht' hl)]; exact ht') (hsz I2.len), ?_⟩⟩
        obtain ⟨xs', e1, e2, e3, I3⟩ := I2.newKey hv0 hl r rfl rfl
        refine apn (putK kvs (ky r.1 (ixr i r)) (.ref l)) l xs' _ N ?_ upd_same ?_ e1 (hsz e2) ?_ ?_
        · rw [valV_put, if_pos rfl]
        · rw [upd_ne (fun z => by have q := I2.od; rw [← z, ht'] at q; cases q), upd_ne (ne_of_none ht' hl)]; exact ht'
        · intro b o e
          have e' := g2.gh _ _ e
          rw [upd_ne (fun z => by subst z; rw [I2.gd] at e; cases e), upd_ne (ne_of_none e' hl)]; exact e'
        · exact hN _ G2 _ g2.gg I3.g.gh ⟨some y, some (.ref t), _, rfl, etk ▸ I3⟩
      | some v0 =>
        refine if_false_of rfl ?_
        obtain ⟨l, xs', rfl, e1, e2, I3⟩ := I2.oldKey r hv0
        exact apn kvs l xs' _ N hv0 I2.od ht' e1 (hsz e2) g2.gh (hN _ G2 _ g2.gg I3.g.gh ⟨some y, some (.ref t), _, rfl, etk ▸ I3⟩)
    · rintro σ' G' H' zs zg ⟨y0, w0, kvs, rfl, I⟩
      rw [List.length_map, List.take_length] at I
      obtain ⟨G2, g2, hE⟩ := I.fin
      exact ⟨_, rfl, k _ G2 H' g2 hE⟩

end
end Yd
set_option Elab.async false
set_option linter.all false
set_option maxRecDepth 100000
set_option maxHeartbeats 4000000
namespace Yd
open PySem PySem.Spec L2

/-! ### a web -/
/-- v is a web of n places, its sorted roads ls -/
def WebV (K : PySem.W.Frag) (n : Nat) (ls : List Road) (v : V) (G : Hp) : Prop := ∃ a dx fs, v = .ref a ∧ G a = some (.ins (He.ga K "Web") dx fs) ∧ fs.lookup ("size" : Str) = none ∧ fs.lookup ("roads" : Str) = none ∧ fs.lookup ("many" : Str) = some (.int (n : Int)) ∧
  (∃ u, fs.lookup ("lines" : Str) = some u ∧ DV G u (.list (ls.map rd))) ∧ (∃ u, fs.lookup ("fore" : Str) = some u ∧ EndsV (ixr 1) (ixr 2) ls u G) ∧ ∃ u, fs.lookup ("back" : Str) = some u ∧ EndsV (ixr 2) (ixr 1) ls u G
theorem WebV.mono {K : PySem.W.Frag} {n : Nat} {ls : List Road} {v : V} {G G' : Hp} (s : Same G G') (h : WebV K n ls v G) : WebV K n ls v G' := by
  obtain ⟨a, dx, fs, rfl, ha, h1, h2, h3, ⟨u, h4, h5⟩, ⟨u2, h6, h7⟩, u3, h8, h9⟩ := h
  exact ⟨a, dx, fs, rfl, s _ _ ha, h1, h2, h3, ⟨u, h4, h5.mono s⟩, ⟨u2, h6, (endsP _ _ _).mono _ _ _ s h7⟩, u3, h8, (endsP _ _ _).mono _ _ _ s h9⟩
def web (K : PySem.W.Frag) (n : Nat) (ls : List Road) : Pm := ⟨WebV K n ls, fun _ _ _ s h => h.mono s⟩
theorem putF_lt {f : Str} {v : V} {k : Nat} : ∀ {fs : List (Str × V)}, fs.length < k → (putF f v fs).length < k + 1
  | [], h => by show 1 < k + 1; omega
  | (g, x) :: r, h => by
    unfold putF
    by_cases c : g = f
    · rw [if_pos c]; exact Nat.lt_succ_of_lt h
    · rw [if_neg c]
      match k, h with
      | k + 1, h => exact Nat.succ_lt_succ (putF_lt (by simpa using h))
/-- owned: append to a list that is not seen -/
theorem app_own {K : PySem.W.Frag} {σ : L2.St} {G H : Hp} {l : Addr} {xs : List V} {i : Nat} {te : TE} {d : Pm} {D : Ends} (hσ : σ[i]? = some (some (.ref l))) (hl : H l = some (.lst xs)) (hg : G l = none) (h : Is te σ G d) (s : Same G H) (hz : xs.length < 100000)
    (k : ∀ v G2 H2, Gr0 G H G2 H2 → d.P v G2 → G2 l = none → H2 l = some (.lst xs) → D.nx σ (upd H2 l (.lst (xs ++ [v])))) : tDrop (tBM K "list" rAppend (tVar i) (tCons te tNil)) D σ H := by
  refine ⟨_, hσ, .inl ⟨rfl, _, SqL.of hl⟩, ?_⟩
  refine h G H (Same.refl _) s _ fun v G2 H2 g2 pv => ?_
  exact ⟨l, xs, v, rfl, rfl, g2.same _ _ hl, sz_lt hz, k v G2 H2 g2 pv (g2.out hg hl) (g2.same _ _ hl)⟩
section
variable {P : Program} {w : World} {K : PySem.W.Frag} {mg : Str → Option Value} {base : Heap} {σ : L2.St} {G : Hp} {te : TE} {n : Nat} {ls : List Road}
theorem is_many (T : Tx K mg) (h : Is te σ G (web K n ls)) : Is (tFld K te "many") σ G (dat (.int (n : Int))) := fun G1 H1 s1 s2 Q k => h G1 H1 s1 s2 _ fun x G2 H2 g2 px => by
  obtain ⟨a, dx, fs, rfl, ha, h1, h2, h3, _⟩ := px
  exact ⟨a, _, dx, fs, _, rfl, g2.gh _ _ ha, T.cls, T.many, h3, k _ G2 H2 g2 (.int _)⟩
theorem is_lines (T : Tx K mg) (h : Is te σ G (web K n ls)) : Is (tFld K te "lines") σ G (dat (.list (ls.map rd))) := fun G1 H1 s1 s2 Q k => h G1 H1 s1 s2 _ fun x G2 H2 g2 px => by
  obtain ⟨a, dx, fs, rfl, ha, h1, h2, h3, ⟨u, h4, h5⟩, _⟩ := px
  exact ⟨a, _, dx, fs, _, rfl, g2.gh _ _ ha, T.cls, T.lines, h4, k _ G2 H2 g2 h5⟩
theorem is_fore (T : Tx K mg) (h : Is te σ G (web K n ls)) : Is (tFld K te "fore") σ G (endsP (ixr 1) (ixr 2) ls) := fun G1 H1 s1 s2 Q k => h G1 H1 s1 s2 _ fun x G2 H2 g2 px => by
  obtain ⟨a, dx, fs, rfl, ha, h1, h2, h3, _, ⟨u, h4, h5⟩, _⟩ := px
  exact ⟨a, _, dx, fs, _, rfl, g2.gh _ _ ha, T.cls, T.fore, h4, k _ G2 H2 g2 h5⟩
theorem is_back (T : Tx K mg) (h : Is te σ G (web K n ls)) : Is (tFld K te "back") σ G (endsP (ixr 2) (ixr 1) ls) := fun G1 H1 s1 s2 Q k => h G1 H1 s1 s2 _ fun x G2 H2 g2 px => by
  obtain ⟨a, dx, fs, rfl, ha, h1, h2, h3, _, _, u, h4, h5⟩ := px
  exact ⟨a, _, dx, fs, _, rfl, g2.gh _ _ ha, T.cls, T.back, h4, k _ G2 H2 g2 h5⟩
/-- d.get((kind, place), []) -/
theorem is_dget {td ty tx : TE} {a f : Road → Nat} {k : Str} {p : Nat} (hd : Is td σ G (endsP a f ls)) (hy : Is ty σ G (dat (.tuple [.str k, .int (p : Int)]))) (hx : Is tx σ G (dat (.list []))) : Is (tDGet2 td ty tx) σ G (dat (nums (ends a f ls k p))) := fun G1 H1 s1 s2 Q kk =>
  hd G1 H1 s1 s2 _ fun x G2 H2 g2 px => by
    obtain ⟨b, kvs, rfl, hb, hk⟩ := px
    refine ⟨b, rfl, .inr ⟨kvs, .inl (g2.gh _ _ hb)⟩, ?_⟩
    refine hy G2 H2 (s1.trans g2.gg) g2.gh _ fun y G3 H3 g3 py => ?_
    refine hx G3 H3 ((s1.trans g2.gg).trans g3.gg) g3.gh _ fun z G4 H4 g4 pz => ?_
    obtain ⟨t, xs, rfl, ht, dvt⟩ := (show DV G3 y (.tuple _) from py).tup_inv
    have ht' : H4 t = some (.tup ((ky k p).map kV)) := by
      rw [g4.same _ _ (g3.gh _ _ ht)]
      cases dvt with
      | cons h1 t1 =>
        cases t1 with
        | cons h2 t2 =>
          cases t2
          rw [h1.str_inv, h2.int_inv]; rfl
    have hb4 : H4 b = some (.dT kvs) := (g3.trans g4).same _ _ (g2.gh _ _ hb)
    refine ⟨valV kvs (ky k p), DGet.t hb4 ht', ?_⟩
    cases e : valV kvs (ky k p) with
    | none =>
      refine kk _ G4 H4 (g2.trans (g3.trans g4)) ?_
      rw [(hk k p).1 e]; exact pz
    | some u => exact kk _ G4 H4 (g2.trans (g3.trans g4)) (((hk k p).2 u e).mono (g3.trans g4).gg)
theorem rc_listL {ds : List PyData} : RC (fun xs H Q => ∃ p ys, xs = [.ref p] ∧ (SqL K H p ys ∨ SqT K H p ys) ∧ ∀ l, H l = none → Q (.ref l) (upd H l (.lst ys))) [dat (.list ds)] G (dat (.list ds)) := fun vs G1 H1 s1 s2 pv Q k => by
  obtain ⟨v, r, rfl, h, e⟩ := pv
  cases (show r = [] from e)
  obtain ⟨a, xs, rfl, ha, dv⟩ := (show DV G1 v (.list ds) from h).lst_inv
  refine ⟨a, xs, rfl, .inl (SqL.of (s2 _ _ ha)), fun l hl => ?_⟩
  have g : Gr0 G1 H1 (upd G1 l (.lst xs)) (upd H1 l (.lst xs)) := .new s2 hl
  exact k _ _ _ g (.lst upd_same (dv.mono g.gg))
theorem rc_tupL {ds : List PyData} : RC (fun xs H Q => ∃ p ys, xs = [.ref p] ∧ ((SqL K H p ys ∧ ∀ l, H l = none → Q (.ref l) (upd H l (.tup ys))) ∨ (SqT K H p ys ∧ Q (.ref p) H))) [dat (.list ds)] G (dat (.tuple ds)) := fun vs G1 H1 s1 s2 pv Q k => by
  obtain ⟨v, r, rfl, h, e⟩ := pv
  cases (show r = [] from e)
  obtain ⟨a, xs, rfl, ha, dv⟩ := (show DV G1 v (.list ds) from h).lst_inv
  refine ⟨a, xs, rfl, .inl ⟨SqL.of (s2 _ _ ha), fun l hl => ?_⟩⟩
  have g : Gr0 G1 H1 (upd G1 l (.tup xs)) (upd H1 l (.tup xs)) := .new s2 hl
  exact k _ _ _ g (.tup upd_same (dv.mono g.gg))
/-- isinstance(v, Web) -/
theorem rc_isWeb (T : Tx K mg) : RC (rIsi K) [web K n ls, val (.ref (He.ga K "Web"))] G (dat (.bool true)) := fun vs G1 H1 s1 s2 pv Q k => by
  obtain ⟨v, r, rfl, hv, u, r2, rfl, hu, e⟩ := pv
  cases (show r2 = [] from e)
  obtain rfl : u = V.ref (He.ga K "Web") := hu
  obtain ⟨a, dx, fs, rfl, ha, _⟩ := hv
  exact ⟨.ref a, .ref (He.ga K "Web"), _, _, true, rfl, .own _, .base (.ins (s2 _ _ ha) T.cls T.ca T.cn T.ct T.cm), by unfold PySem.W.kitOne; rw [if_pos (by simp)], k _ G1 H1 (.refl s2) (.bl true)⟩
theorem is_web_cls : Is (tC (.ref (He.ga K "Web"))) σ G (val (.ref (He.ga K "Web"))) := is_c (p := val (.ref (He.ga K "Web"))) rfl
end
def preCheckWeb (K : PySem.W.Frag) : List V → Hp → Pm → Prop := fun vs G p => ∃ n ls, AllP [web K n ls] vs G ∧ p = dat .none
/-- Web(size, roads), at x -/
def spInit (K : PySem.W.Frag) : Sp := fun vs H Q _ => ∃ (G : Hp) (x dx : Addr) (u v : V) (n : Nat) (rs : List Road), vs = [.ref x, u, v] ∧ Same G H ∧ G x = none ∧ H x = some (.ins (He.ga K "Web") dx []) ∧ DV G u (.int (n : Int)) ∧ DV G v (.list (rs.map rd)) ∧ WebOk n rs ∧
  ∀ G2 H2 fs, Gr (fun b => b = x) G H G2 H2 → H2 x = some (.ins (He.ga K "Web") dx fs) → G2 x = none → fs.lookup ("size" : Str) = none → fs.lookup ("roads" : Str) = none → fs.lookup ("many" : Str) = some (.int (n : Int)) →
    (∃ u, fs.lookup ("lines" : Str) = some u ∧ DV G2 u (.list ((rsort rs).map rd))) → (∃ u, fs.lookup ("fore" : Str) = some u ∧ EndsV (ixr 1) (ixr 2) (rsort rs) u G2) → (∃ u, fs.lookup ("back" : Str) = some u ∧ EndsV (ixr 2) (ixr 1) (rsort rs) u G2) → Q .non H2
def preSize (K : PySem.W.Frag) : List V → Hp → Pm → Prop := fun vs G p => ∃ n ls, AllP [web K n ls] vs G ∧ p = dat (.int (n : Int))
def preRoads (K : PySem.W.Frag) : List V → Hp → Pm → Prop := fun vs G p => ∃ n ls, AllP [web K n ls] vs G ∧ ls.length ≤ 100000 ∧ p = dat (.list (ls.map rd))
section
variable {P : Program} {w : World} {K : PySem.W.Frag} {mg : Str → Option Value} {base : Heap}
theorem sc_check_web : FnScope ["value"] ["value"] (defScope (top 24)) := ⟨rfl, rfl, rfl, by decide +kernel, rfl, by decide +kernel, by decide +kernel⟩
theorem has_check_web (T : Tx K mg) : Has P w K mg base CX0 3 "check_web" ["value"] (PureSp (preCheckWeb K)) := by
  refine T.has 11 (fun fd F => F.ok sc_check_web (fun vs H Q E h => ?_) fun cdv A outer s H vs Q E hr h => ?_) (fun fd F => F.bindsN fun _ _ _ _ _ _ us hl => match us, hl with | [_], _ => rfl)
  · obtain ⟨G, p, _, ⟨_, _, a, _⟩, _⟩ := h; exact a.len
  · obtain ⟨G, p, z, ⟨n, ls, a, rfl⟩, k⟩ := h
    obtain ⟨v, rfl, hv⟩ := allp1 a
    refine ⟨_, PSs.nox (pss_one (ps_if (pt_not (pt_val (pe_callB call_isi (by rfl) (T.free "isinstance") (by decide +kernel) (pa_cons (pv 0) (pa_cons (pe_glob (v := .ref (He.ga K "Web")) rfl T.gWeb rfl) (pa_nil)))))) (pss_one (ps_never)) (pss_nil))), ?_⟩
    exact if_is (b := false) (ist_not (b := true) (ist_B (is_cb (isa_cons (is_var rfl hv) (isa_cons is_web_cls isa_nil)) (rc_isWeb T)))) z (fun h => nomatch h) fun _ G2 H2 g2 => k _ G2 H2 g2 .non

theorem sc_Web___init : FnScope ["self", "size", "roads"] ["self", "size", "roads"] (defScope (inClass (top 21) 0)) := ⟨rfl, rfl, rfl, by decide +kernel, rfl, by decide +kernel, by decide +kernel⟩
theorem has_Web___init (T : Tx K mg) : HasM P w K mg base CX0 6 "__init__" ["self", "size", "roads"] (spInit K) := by
  refine T.hasM (q := "Web.__init__") (j := 0) 52 (fun fd F => F.ok sc_Web___init (fun vs H Q E h => ?_) fun cdv A outer s H vs Q E hr h => ?_) (fun fd F => F.bindsN fun _ _ _ _ _ _ us hl => match us, hl with | [_, _, _], _ => rfl)
  · obtain ⟨G, x, dx, u, v, n, rs, rfl, _⟩ := h; rfl
  · obtain ⟨G, x, dx, u, v, n, rs, rfl, z, hg, hx, hu, hv, hw, k⟩ := h
    have eu := hu.int_inv
    subst eu
    have few := hw.few
    refine ⟨_, PSs.nox (pss_cons (ps_if (pt_not (pt_val (pe_callH (has_is_count T) (hr.mono (by decide)) pass0 (pa_cons (pv 1) (pa_nil))))) (pss_one (ps_never)) (pss_nil))
      (pss_cons (ps_if (pt_not (pt_val (pe_callH (has_are_roads T) (hr.mono (by decide)) pass0 (pa_cons (pv 2) (pa_cons (pv 1) (pa_nil)))))) (pss_one (ps_never)) (pss_nil))
      (pss_cons (ps_fld (pv 0) (pv 1) rfl)
      (pss_cons (ps_fld (pv 0) (pe_callB (cr_sortD (un70 hr)) (by rfl) (T.free "sorted") (by decide +kernel) (pa_cons (pv 2) (pa_nil))) rfl)
      (pss_cons (ps_fld (pv 0) (pe_callH (has_ends_by T) (hr.mono (by decide)) pass0 (pa_cons (pe_fld (pv 0) rfl) (pa_cons (pe_int) (pa_cons (pe_int) (pa_nil))))) rfl)
      (pss_one (ps_fld (pv 0) (pe_callH (has_ends_by T) (hr.mono (by decide)) pass0 (pa_cons (pe_fld (pv 0) rfl) (pa_cons (pe_int) (pa_cons (pe_int) (pa_nil))))) rfl))))))), ?_⟩
    refine if_is (b := false) (IsT.eqb (ist_not (ist_B (is_call (isa_cons (is_d rfl (.int _)) isa_nil) fun vs G1 _ a => ⟨_, a, rfl⟩))) ?_) z (fun h => nomatch h) fun _ G1 H1 g1 => ?_
    · simp [isCountD]
    refine if_is (b := false) (ist_not (b := true) (ist_B (is_call (isa_cons (is_d rfl (hv.mono g1.gg)) (isa_cons (is_d rfl (.int _)) isa_nil)) fun vs G1 _ a => ⟨rs, n, hw, a, rfl⟩))) g1.gh (fun h => nomatch h) fun _ G2 H2 g2 => ?_
    have g12 := g1.trans g2
    have hx2 := g12.same _ _ hx
    have gx2 := g12.out hg hx
    have hv2 := hv.mono g12.gg
    -- self.many = size
    refine ⟨_, rfl, _, rfl, x, _, dx, [], rfl, hx2, T.cls, T.many, by decide, ?_⟩
    have m3 : Gr (fun b => b = x) G H G2 (upd H2 x (.ins (He.ga K "Web") dx (putF "many" (.int (n : Int)) []))) := (Gr.up g12).wr (.inr rfl) gx2
    -- self.lines = sorted(roads)
    refine (is_cb (isa_cons (is_d rfl hv2) isa_nil) (rc_sortD (alike_rds rs) (sortable_rds rs) (fun d hd => ?_) (by rw [List.length_map]; omega))) G2 _ (Same.refl _) m3.gh _ fun y G4 H4 g4 py => ?_
    · obtain ⟨r, _, rfl⟩ := List.mem_map.mp hd
      exact ⟨noDict_rd r, depth_rd r⟩
    have hx4 := g4.same _ _ (upd_same (H := H2) (a := x) (o := .ins (He.ga K "Web") dx (putF "many" (.int (n : Int)) [])))
    have gx4 := g4.out gx2 (upd_same (H := H2) (a := x) (o := .ins (He.ga K "Web") dx (putF "many" (.int (n : Int)) [])))
    have py4 : DV G4 y (.list ((rsort rs).map rd)) := by rw [← dsort_rds]; exact py
    refine ⟨_, rfl, x, _, dx, _, rfl, hx4, T.cls, T.lines, by simp [putF], ?_⟩
    have m5 := (m3.tr0 g4).wr (o := .ins (He.ga K "Web") dx (putF "lines" y (putF "many" (.int (n : Int)) []))) (.inr rfl) gx4
    -- self.fore
    have hl : (rsort rs).length ≤ 1024 := by rw [(rsort_perm rs).length_eq]; exact few
    refine ⟨_, rfl, x, _, dx, _, y, rfl, upd_same, T.cls, T.lines, rfl, ?_⟩
    refine ⟨G4, endsP (ixr 1) (ixr 2) (rsort rs), m5.gh, ⟨rsort rs, 1, 2, .inl rfl, .inr rfl, hl, ⟨_, _, rfl, py4, _, _, rfl, .int _, _, _, rfl, .int _, rfl⟩, by rw [rsort_idem]⟩, fun y6 G6 H6 g6 p6 => ?_⟩
    have hx6 := g6.same _ _ (upd_same (H := H4) (a := x) (o := .ins (He.ga K "Web") dx (putF "lines" y (putF "many" (.int (n : Int)) []))))
    have gx6 := g6.out gx4 (upd_same (H := H4) (a := x) (o := .ins (He.ga K "Web") dx (putF "lines" y (putF "many" (.int (n : Int)) []))))
    refine ⟨_, rfl, x, _, dx, _, rfl, hx6, T.cls, T.fore, putF_lt (k := 999) (putF_lt (k := 998) (by decide)), ?_⟩
    have m7 := (m5.tr0 g6).wr (o := .ins (He.ga K "Web") dx (putF "fore" y6 (putF "lines" y (putF "many" (.int (n : Int)) [])))) (.inr rfl) gx6
    -- self.back
    refine ⟨_, rfl, x, _, dx, _, y, rfl, upd_same, T.cls, T.lines, rfl, ?_⟩
    refine ⟨G6, endsP (ixr 2) (ixr 1) (rsort rs), m7.gh, ⟨rsort rs, 2, 1, .inr rfl, .inl rfl, hl, ⟨_, _, rfl, py4.mono g6.gg, _, _, rfl, .int _, _, _, rfl, .int _, rfl⟩, by rw [rsort_idem]⟩, fun y8 G8 H8 g8 p8 => ?_⟩
    have hx8 := g8.same _ _ (upd_same (H := H6) (a := x) (o := .ins (He.ga K "Web") dx (putF "fore" y6 (putF "lines" y (putF "many" (.int (n : Int)) [])))))
    have gx8 := g8.out gx6 (upd_same (H := H6) (a := x) (o := .ins (He.ga K "Web") dx (putF "fore" y6 (putF "lines" y (putF "many" (.int (n : Int)) [])))))
    refine ⟨_, rfl, x, _, dx, _, rfl, hx8, T.cls, T.back, putF_lt (k := 999) (putF_lt (k := 998) (putF_lt (k := 997) (by decide))), ?_⟩
    refine k G8 _ _ ((m7.tr0 g8).wr (.inr rfl) gx8) upd_same gx8 rfl rfl rfl ⟨y, rfl, py4.mono (g6.gg.trans g8.gg)⟩ ⟨y6, rfl, (endsP _ _ _).mono _ _ _ g8.gg p6⟩ ⟨y8, rfl, p8⟩
theorem sc_Web_size : FnScope ["self"] ["self"] (defScope (inClass (top 21) 1)) := ⟨rfl, rfl, rfl, by decide +kernel, rfl, by decide +kernel, by decide +kernel⟩
theorem has_Web_size (T : Tx K mg) : HasM P w K mg base CX0 1 "size" ["self"] (PureSp (preSize K)) := by
  refine T.hasM (q := "Web.size") (j := 1) 53 (fun fd F => F.ok sc_Web_size (fun vs H Q E h => ?_) fun cdv A outer s H vs Q E hr h => ?_) (fun fd F => F.bindsN fun _ _ _ _ _ _ us hl => match us, hl with | [_], _ => rfl)
  · obtain ⟨G, p, _, ⟨_, _, a, _⟩, _⟩ := h; exact a.len
  · obtain ⟨G, p, z, ⟨n, ls, a, rfl⟩, k⟩ := h
    obtain ⟨v, rfl, hv⟩ := allp1 a
    refine ⟨_, PSs.nox (pss_one (ps_ret (pe_fld (pv 0) rfl))), ?_⟩
    exact ret_is (is_many T (is_var rfl hv)) z k
theorem sc_Web_roads : FnScope ["self"] ["self"] (defScope (inClass (top 21) 2)) := ⟨rfl, rfl, rfl, by decide +kernel, rfl, by decide +kernel, by decide +kernel⟩
theorem has_Web_roads (T : Tx K mg) : HasM P w K mg base CX0 1 "roads" ["self"] (PureSp (preRoads K)) := by
  refine T.hasM (q := "Web.roads") (j := 2) 54 (fun fd F => F.ok sc_Web_roads (fun vs H Q E h => ?_) fun cdv A outer s H vs Q E hr h => ?_) (fun fd F => F.bindsN fun _ _ _ _ _ _ us hl => match us, hl with | [_], _ => rfl)
  · obtain ⟨G, p, _, ⟨_, _, a, _⟩, _⟩ := h; exact a.len
  · obtain ⟨G, p, z, ⟨n, ls, a, hz, rfl⟩, k⟩ := h
    obtain ⟨v, rfl, hv⟩ := allp1 a
    refine ⟨_, PSs.nox (pss_one (ps_ret (pe_callTy call_list_of (by rfl) (T.free "list") (by decide +kernel) (pa_cons (pe_fld (pv 0) rfl) (pa_nil))))), ?_⟩
    exact ret_is (is_cb (isa_cons (is_lines T (is_var rfl hv)) isa_nil) rc_listL) z k

/-- Web(n, roads) -/
theorem is_make {σ : L2.St} {G : Hp} {ta : TA} {n : Nat} {rs : List Road} {E : XK} (h : IsA ta σ G [dat (.int (n : Int)), dat (.list (rs.map rd))]) (hw : WebOk n rs) : Is (tMake (He.ga K "Web") (spInit K) [] E ta) σ G (web K n (rsort rs)) := fun G1 H1 s1 s2 Q k =>
  h G1 H1 s1 s2 _ fun vs G2 H2 g2 pv => by
    obtain ⟨u, v, rfl, hu, hv⟩ := allp2 pv
    intro x dx hx hdx hne
    have g3 : Gr0 G2 H2 G2 (upd H2 dx (.own x)) := .hid g2.gh hdx
    have hx3 : upd H2 dx (.own x) x = none := by rw [upd_ne (Ne.symm hne)]; exact hx
    have g4 : Gr0 G2 H2 G2 (upd (upd H2 dx (.own x)) x (.ins (He.ga K "Web") dx [])) := g3.trans (.hid g3.gh hx3)
    have gx : G2 x = none := g2.gh.free hx
    refine ⟨G2, x, dx, u, v, n, rs, rfl, g4.gh, gx, upd_same, hu, hv, hw, fun G5 H5 fs g5 hx5 gx5 e1 e2 e3 ⟨l, e4, d4⟩ ⟨f, e5, d5⟩ ⟨b, e6, d6⟩ => ⟨rfl, ?_⟩⟩
    have g6 : Gr0 G2 H2 (upd G5 x (.ins (He.ga K "Web") dx fs)) H5 := by
      refine Gr.mk0 g2.gh (g5.gg.trans (same_upd gx5)) (fun c o e => ?_) (fun c o e => ?_) (fun c e e' => ?_)
      · by_cases hc : c = x
        · subst hc; rw [upd_same] at e; cases e; exact hx5
        · rw [upd_ne hc] at e; exact g5.gh _ _ e
      · exact g5.hh c o (g4.hh c o e id) (ne_of_none e hx)
      · by_cases hc : c = x
        · subst hc; exact hx
        · rw [upd_ne hc] at e'
          exact g4.th c (g5.nw c e e')
    have ss := same_upd (o := .ins (He.ga K "Web") dx fs) gx5
    exact k _ _ _ (g2.trans g6) ⟨x, dx, fs, rfl, upd_same, e1, e2, e3, ⟨l, e4, d4.mono ss⟩, ⟨f, e5, (endsP _ _ _).mono _ _ _ ss d5⟩, b, e6, (endsP _ _ _).mono _ _ _ ss d6⟩
theorem pe_makeW {X : Cx} {k : Nat} {p pos : Pos} {e : Expr} {es : List Expr} {t : TA} (T : Tx X.K X.mg) (F : HasM X.prog X.w X.K X.mg X.base CX0 k "__init__" ["self", "size", "roads"] (spInit X.K)) (hr : Room (k + 1) X.A) (ha : PA X (e :: es) t)
    (hg : Gl X "Web" := by rfl) (he : starEach (e :: es) X.env = (false, eval e X.env) :: starEach es X.env := by rfl) (hpl : (backTo pos (starEach es X.env)).any (·.1) = false := by rfl) :
    PE X (.Call (.Name "Web" p) (e :: es) [] pos) (tMake (He.ga X.K "Web") (spInit X.K) [] E0 t) := by
  obtain ⟨fd, F, b⟩ := F
  exact pe_make T.mkW F hr hg T.gWeb b .nil pass0 ha (by decide) he hpl
theorem pe_methW {X : Cx} {k : Nat} {o : Expr} {m : Str} {apos pos : Pos} {ta : TE} {sp : Sp} {pl : Sem Bool} (T : Tx X.K X.mg) (M : Meth X.K (He.ga X.K "Web") m (He.ma X.K (He.ga X.K "Web") m)) (F : HasM X.prog X.w X.K X.mg X.base CX0 k m ["self"] sp) (hr : Room k X.A) (he : PE X o ta)
    (ht : eval (.Call (.Attribute o m apos) [] [] pos) X.env = (do
      let ov ← eval o X.env
      standAt apos.atName
      let (f, first) ← holding [ov] (getMethod ov m pl)
      callWith pos f first (backTo pos (starEach [] X.env)) (backToKw pos (keywordEach [] X.env))) := by rfl) :
    PE X (.Call (.Attribute o m apos) [] [] pos) (tMeth (He.ga X.K "Web") m sp [] E0 ta tNil) := by
  obtain ⟨fd, F, b⟩ := F
  exact pe_meth0 he T.cls M F hr b .nil pass0 ht
/-- o.size(), o.roads() -/
theorem is_meth0 {σ : L2.St} {G : Hp} {te : TE} {n : Nat} {ls : List Road} {m : Str} {E : XK} {s : Pm} {pre : List V → Hp → Pm → Prop} (h : Is te σ G (web K n ls)) (hm : m = "size" ∨ m = "roads") (hp : ∀ v G1, Same G G1 → WebV K n ls v G1 → pre [v] G1 s) : Is (tMeth (He.ga K "Web") m (PureSp pre) [] E te tNil) σ G s := fun G1 H1 s1 s2 Q k =>
  h G1 H1 s1 s2 _ fun v G2 H2 g2 pv => by
    obtain ⟨a, dx, fs, rfl, ha, e1, e2, r⟩ := id pv
    refine ⟨a, dx, fs, rfl, g2.gh _ _ ha, by rcases hm with rfl | rfl <;> assumption, ?_⟩
    exact ⟨G2, s, g2.gh, hp _ G2 (s1.trans g2.gg) pv, fun v G3 H3 g3 p3 => k v G3 H3 (g2.trans g3) p3⟩
end
end Yd
set_option Elab.async false
set_option linter.all false
set_option maxRecDepth 100000
set_option maxHeartbeats 4000000
/-! the rules with the written part told apart from the context (for blocks of comprehensions) -/
namespace Yd
open PySem PySem.Spec L2
section
variable {X : Cx} {K : PySem.W.Frag} {tg : Expr}
theorem ix_seqK (h : X.K = K) : IxR X (rIx K) := h ▸ ix_seq
theorem sl_listK (h : X.K = K) : SlR X (rSlL K) := h ▸ sl_list
theorem op_eqDK (h : X.K = K) (hu : X.A.units + 70 < cLine) : OpR X (compareOp .Eq) (rEqD K) := h ▸ op_eqD (by omega)
theorem op_neDK (h : X.K = K) (hu : X.A.units + 70 < cLine) : OpR X (compareOp .NotEq) (rNeD K) := h ▸ op_neD (by omega)
theorem op_inDK (h : X.K = K) (hu : X.A.units + 70 < cLine) : OpR X (compareOp .In) (rInD K) := h ▸ op_inD (by omega)
theorem op_notInDK (h : X.K = K) (hu : X.A.units + 70 < cLine) : OpR X (compareOp .NotIn) (rNotInD K) := h ▸ op_notInD (by omega)
theorem call_lenK (h : X.K = K) : CallR X (.builtin "len") (fun xs H Q => ∃ x n, xs = [x] ∧ LenV K x H n ∧ Q (.int n) H) := h ▸ call_len
theorem call_isiK (h : X.K = K) : CallR X (.builtin "isinstance") (rIsi K) := h ▸ call_isi
theorem call_list_ofK (h : X.K = K) : CallR X (.type "list") (fun xs H Q => ∃ p ys, xs = [.ref p] ∧ (SqL K H p ys ∨ SqT K H p ys) ∧ ∀ l, H l = none → Q (.ref l) (upd H l (.lst ys))) := h ▸ call_list_of
theorem call_tuple_ofK (h : X.K = K) : CallR X (.type "tuple") (fun xs H Q => ∃ p ys, xs = [.ref p] ∧ ((SqL K H p ys ∧ ∀ l, H l = none → Q (.ref l) (upd H l (.tup ys))) ∨ (SqT K H p ys ∧ Q (.ref p) H))) := h ▸ call_tuple_of
theorem pe_fldK (h : X.K = K) {e : Expr} {f : Str} {pos : Pos} {ta : TE} (he : PE X e ta) (hb : attributeBase e f X.env (eval e X.env) = eval e X.env) : PE X (.Attribute e f pos) (tFld K ta f) := h ▸ pe_fld he hb
theorem pi_listK (h : X.K = K) {l : Expr} {tl : TE} (hl : PE X l tl) : PI X tg l (iList K tl) := h ▸ pi_list hl
theorem pi_tupK (h : X.K = K) {l : Expr} {tl : TE} (hl : PE X l tl) : PI X tg l (iTup K tl) := h ▸ pi_tup hl
theorem pi_enumK (h : X.K = K) {e : Expr} {ta : TA} {p pos tpos : Pos} {elts : List Expr} {kk : Nat} (hg : Gl X "enumerate") (hm : X.mg "enumerate" = none) (ha : PA X [e] ta) (hs : starEach [e] X.env = [(false, eval e X.env)] := by rfl) :
    PI X (.Tuple elts kk tpos) (.Call (.Name "enumerate" p) [e] [] pos) (iEnum K ta) := h ▸ pi_enum hg hm ha hs
theorem pg_tupK (h : X.K = K) {es : List Expr} {k : Nat} {pos : Pos} {t : TGs} {n : Nat} (hc : X.calm = true) (hp : PGs X es t)
    (hn : (assignEach es X.env).length = n := by rfl) (hst : (assignEach es X.env).findIdx? (·.1) = none := by rfl) : PG X (.Tuple es k pos) (gTup K n t) := h ▸ pg_tup hc hp hn hst
theorem pe_revK (h : X.K = K) {e : Expr} {te : TE} {k : Nat} {p1 p2 p3 pos : Pos} (he : PE X e te) : PE X (.Subscript e (.Slice none none (some (.UnaryOp .USub (.Constant (.int 1) k p1) p2)) p3) pos) (tRevL K te) := h ▸ pe_revL he
theorem pe_makeK (h : X.K = K) {k : Nat} {p pos : Pos} {e : Expr} {es : List Expr} {t : TA} (T : Tx X.K X.mg) (F : HasM X.prog X.w X.K X.mg X.base CX0 k "__init__" ["self", "size", "roads"] (spInit X.K)) (hr : Room (k + 1) X.A) (ha : PA X (e :: es) t)
    (hg : Gl X "Web" := by rfl) (he : starEach (e :: es) X.env = (false, eval e X.env) :: starEach es X.env := by rfl) (hpl : (backTo pos (starEach es X.env)).any (·.1) = false := by rfl) :
    PE X (.Call (.Name "Web" p) (e :: es) [] pos) (tMake (He.ga K "Web") (spInit K) [] E0 t) := h ▸ pe_makeW T F hr ha hg he hpl
end
end Yd
set_option Elab.async false
set_option linter.all false
set_option maxRecDepth 100000
set_option maxHeartbeats 4000000
namespace Yd
open PySem PySem.Spec L2

/-! ### comprehensions over encoded lists -/
theorem outI_any {α : Type} (p : α → Bool) (q : α → PyData) : ∀ (xs : List α) (f : Nat → Bool) (o : Nat → PyData), (∀ i a, xs[i]? = some a → f i = p a ∧ o i = q a) → outI xs.length f o = (xs.filter p).map q := by
  intro xs f o h
  have key : ∀ n, n ≤ xs.length → outI n f o = ((xs.take n).filter p).map q := by
    intro n
    induction n with
    | zero => intro _; rfl
    | succ n ih =>
      intro hn
      obtain ⟨a, ha⟩ : ∃ a, xs[n]? = some a := ⟨_, List.getElem?_eq_getElem hn⟩
      obtain ⟨e1, e2⟩ := h n a ha
      have e : xs.take (n + 1) = xs.take n ++ [a] := by rw [List.take_succ, ha]; rfl
      rw [e, List.filter_append, List.map_append, ← ih (Nat.le_of_succ_le hn)]
      cases c : p a with
      | true => rw [outI_yes (e1.trans c), List.filter_cons, if_pos c, e2]; rfl
      | false => rw [outI_no (e1.trans c), List.filter_cons, if_neg (by rw [c]; exact Bool.false_ne_true)]; exact (List.append_nil _).symm
  rw [key _ (Nat.le_refl _), List.take_length]
theorem is_lcA {K : PySem.W.Frag} {σ : L2.St} {G : Hp} {tl te : TE} {tt : TT} {g : TG} {vs : List Nat} {α : Type} (enc : α → PyData) {xs : List α} {p : α → Bool} {q : α → PyData} (hl : Is tl σ G (dat (.list (xs.map enc)))) (hz : xs.length ≤ 100000)
    (hs : ∀ x a G1, a ∈ xs → Same G G1 → DV G1 x (enc a) → ∃ σ2, GT g x (wipe σ vs) G1 σ2 ∧ wipe σ2 vs = wipe σ vs ∧ IsT tt σ2 G1 (p a) ∧ (p a = true → Is te σ2 G1 (dat (q a)))) :
    Is (tLc (iList K tl) g tt te vs) σ G (dat (.list ((xs.filter p).map q))) := by
  have e : outI (xs.map enc).length (fun i => (xs[i]?.map p).getD false) (fun i => (xs[i]?.map q).getD .none) = (xs.filter p).map q := by
    rw [List.length_map]
    exact outI_any p q xs _ _ fun i a h => by rw [h]; exact ⟨rfl, rfl⟩
  rw [← e]
  refine is_lcL hl (by rw [List.length_map]; exact hz) fun i x d G1 hi s1 hv => ?_
  rw [List.getElem?_map, Option.map_eq_some_iff] at hi
  obtain ⟨a, ha, rfl⟩ := hi
  simp only [ha, Option.map_some, Option.getD_some]
  exact hs x a G1 (List.mem_of_getElem? ha) s1 hv
/-- over a range, the new list not shown -/
theorem lcR_hid {σ : L2.St} {G : Hp} {ta : TA} {te : TE} {tt : TT} {g : TG} {vs : List Nat} {f : Nat → Bool} {o : Nat → PyData} {n : Nat} (hl : IsA ta σ G [dat (.int (n : Int))]) (hz : n ≤ 100000)
    (hs : ∀ i G1, i < n → Same G G1 → ∃ σ2, GT g (.int (i : Int)) (wipe σ vs) G1 σ2 ∧ wipe σ2 vs = wipe σ vs ∧ IsT tt σ2 G1 (f i) ∧ (f i = true → Is te σ2 G1 (dat (o i)))) {G1 H1 : Hp} (s1 : Same G G1) (s2 : Same G1 H1) (Q : VK)
    (k : ∀ D acc G2 H2, Gr0 G1 H1 G2 H2 → H1 D = none → H2 D = some (.lst acc) → G2 D = none → DVs G2 acc (outI n f o) → Q (.ref D) H2) :
    tLc (iRng1 ta) g tt te vs σ H1 Q :=
  hl G1 H1 s1 s2 _ fun us G2 H2 g2 px => by
    obtain ⟨v, r, rfl, hv, e⟩ := px
    cases (show r = [] from e)
    obtain rfl := (show DV G2 v (.int n) from hv).int_inv
    refine ⟨n, rfl, by omega, by omega, ?_⟩
    rw [Int.toNat_natCast]
    intro D hD
    refine lc_range (lo := 0) (n := n) (LcW G2 H2 D f o) (lcw_start g2.gh hD) (fun i H' hi w => ?_) (fun H' w => ?_)
    · obtain ⟨G', acc, g, hh, hn, dva⟩ := w
      obtain ⟨σ2, hgt, hw, ht, he⟩ := hs i G' hi ((s1.trans g2.gg).trans g.gg)
      rw [Int.zero_add]
      exact hgt H' g.gh _ ⟨hw, lcw_turn hD g hh hn dva (Nat.lt_of_lt_of_le hi hz) ht he⟩
    · obtain ⟨G', acc, g, hh, hn, dva⟩ := w
      exact k D acc G' H' (g2.trans g) (g2.th _ hD) hh hn dva
theorem dvs_nums_inv {G : Hp} {vs : List V} {ns : List Nat} (h : DVs G vs (ns.map fun n : Nat => PyData.int (n : Int))) : vs = ns.map vN := by
  have h' : DVs G vs ((ns.map fun n : Nat => (n : Int)).map PyData.int) := by rw [List.map_map]; exact h
  rw [h'.ints_inv, List.map_map]; rfl
def d0 : Road := (Str.empty, 0, 0)
/-! ### leadings -/
def ledB (g : List Nat) (ls ms : List Road) : Bool := ls.all fun r => decide ((r.1, g.getD r.2.1 0, g.getD r.2.2 0) ∈ ms)
def natD : PyData → Nat
  | .int i => i.toNat
  | _ => 0
def natsD : PyData → List Nat
  | .list ds => ds.map natD
  | _ => []
def isLeadD (n : Nat) (ls : List Road) (m : Nat) (ms : List Road) (d : PyData) : Bool := arePlacesD d n m && ledB (natsD d) ls ms
theorem arePlaces_is {d : PyData} {n m : Nat} (h : arePlacesD d n m = true) : d = nums (natsD d) ∧ (natsD d).length = n ∧ ∀ x ∈ natsD d, x < m := by
  cases d with
  | list ds =>
    simp only [arePlacesD, Bool.and_eq_true, decide_eq_true_eq, List.all_eq_true] at h
    obtain ⟨h1, h2⟩ := h
    have key : ∀ e ∈ ds, e = PyData.int (natD e : Int) ∧ natD e < m := fun e he => by
      have := h2 e he
      cases e with
      | int i =>
        simp only [isPlaceD, Bool.and_eq_true, decide_eq_true_eq] at this
        simp only [natD]
        exact ⟨by congr 1; omega, by omega⟩
      | _ => simp [isPlaceD] at this
    refine ⟨?_, ?_, ?_⟩
    · show PyData.list ds = .list ((ds.map natD).map _)
      rw [List.map_map]
      congr 1
      refine (List.map_id ds).symm.trans (List.map_congr_left fun e he => (key e he).1)
    · show (ds.map natD).length = n
      rw [List.length_map]; omega
    · intro x hx
      obtain ⟨e, he, rfl⟩ := List.mem_map.mp hx
      exact (key e he).2
  | _ => simp [arePlacesD] at h
theorem nums_places {g : List Nat} {n m : Nat} (h1 : g.length = n) (h2 : ∀ x ∈ g, x < m) : arePlacesD (nums g) n m = true := by
  simp only [arePlacesD, nums, Bool.and_eq_true, decide_eq_true_eq, List.all_eq_true, List.length_map]
  refine ⟨by omega, fun e he => ?_⟩
  obtain ⟨x, hx, rfl⟩ := List.mem_map.mp he
  have := h2 x hx
  simp only [isPlaceD, Bool.and_eq_true, decide_eq_true_eq]
  omega
theorem natsD_nums (g : List Nat) : natsD (nums g) = g := by
  show (g.map _).map natD = g
  rw [List.map_map]
  exact (List.map_congr_left fun x _ => by simp [natD]).trans (List.map_id g)
theorem nums_get {g : List Nat} {i : Nat} (h : i < g.length) : (g.map fun n : Nat => PyData.int (n : Int))[i]? = some (.int ((g.getD i 0 : Nat) : Int)) := by
  rw [List.getElem?_map, List.getElem?_eq_getElem h, List.getD_eq_getElem?_getD, List.getElem?_eq_getElem h]; rfl
theorem sd_nums {n : Nat} (g : List Nat) : Sd (n + 1) (nums g) := sd_list fun d hd => by
  obtain ⟨i, _, rfl⟩ := List.mem_map.mp hd
  exact sd_int _
theorem any_nat (x : Nat) (g : List Nat) : ((g.map fun n : Nat => PyData.int (n : Int)).any fun z => PyData.eqv z (.int (x : Int))) = decide (x ∈ g) := by
  have := any_int (x : Int) (g.map fun n : Nat => (n : Int))
  rw [List.map_map] at this
  refine this.trans ?_
  refine decide_eq_decide.mpr ⟨fun h => ?_, fun h => List.mem_map_of_mem h⟩
  obtain ⟨y, hy, e⟩ := List.mem_map.mp h
  have : y = x := by omega
  exact this ▸ hy
theorem pl_nums (g : List Nat) : Pl (nums g) := .list fun d hd => by
  obtain ⟨i, _, rfl⟩ := List.mem_map.mp hd
  exact .int _
theorem nums_inj {g h : List Nat} (e : nums g = nums h) : g = h := by rw [← natsD_nums g, e, natsD_nums]
theorem eqv_nums (g h : List Nat) : PyData.eqv (nums g) (nums h) = decide (g = h) := by
  rw [Bool.eq_iff_iff, decide_eq_true_iff, (pl_nums g).eqv (pl_nums h)]
  exact ⟨nums_inj, fun e => e ▸ rfl⟩
theorem ixr_near : ixr 1 = near := rfl
theorem ixr_far : ixr 2 = far := rfl
def preLed (K : PySem.W.Frag) : List V → Hp → Pm → Prop := fun vs G p => ∃ n ls m ms g, (∀ r ∈ ls, r.2.1 < n ∧ r.2.2 < n) ∧ ls.length ≤ 100000 ∧ ms.length ≤ 100000 ∧ (∀ r ∈ ls, KindOk r.1) ∧ g.length = n ∧ AllP [web K n ls, web K m ms, dat (nums g)] vs G ∧ p = dat (.bool (ledB g ls ms))
def preIsLead (K : PySem.W.Frag) : List V → Hp → Pm → Prop := fun vs G p => ∃ n ls m ms d, (∀ r ∈ ls, r.2.1 < n ∧ r.2.2 < n) ∧ ls.length ≤ 100000 ∧ ms.length ≤ 100000 ∧ (∀ r ∈ ls, KindOk r.1) ∧ (∀ ds, d = .list ds → ds.length ≤ 100000 ∧ ∀ e ∈ ds, Sd 60 e) ∧ AllP [web K n ls, web K m ms, dat d] vs G ∧ p = dat (.bool (isLeadD n ls m ms d))
def preLinesOf (K : PySem.W.Frag) : List V → Hp → Pm → Prop := fun vs G p => ∃ n ls k, KindOk k ∧ ls.length ≤ 100000 ∧ (∀ r ∈ ls, KindOk r.1) ∧ AllP [web K n ls, dat (.str k)] vs G ∧ p = dat (.list ((ls.filter fun r => decide (r.1 = k)).map rd))
def aheadL (m : Nat) (k : Str) (ms : List Road) (xs : List Nat) : List Nat := (List.range m).filter fun p => xs.all fun s => decide ((k, s, p) ∈ ms)
def behindL (m : Nat) (k : Str) (ms : List Road) (xs : List Nat) : List Nat := (List.range m).filter fun p => xs.all fun e => decide ((k, p, e) ∈ ms)
/-- all_ahead: the answer is a new list -/
def spAhead (K : PySem.W.Frag) : Sp := fun vs H Q _ => ∃ G m ms k xs, Same G H ∧ m ≤ 1000 ∧ ms.length ≤ 1024 ∧ xs.length ≤ 1000 ∧ AllP [web K m ms, dat (.str k), dat (nums xs)] vs G ∧
  ∀ l G2 H2, Gr0 G H G2 H2 → H l = none → G2 l = none → H2 l = some (.lst ((aheadL m k ms xs).map vN)) → Q (.ref l) H2
def preBehind (K : PySem.W.Frag) : List V → Hp → Pm → Prop := fun vs G p => ∃ m ms k xs, m ≤ 1000 ∧ ms.length ≤ 1024 ∧ xs.length ≤ 1000 ∧ AllP [web K m ms, dat (.str k), dat (nums xs)] vs G ∧ p = dat (nums (behindL m k ms xs))
section
variable {P : Program} {w : World} {K : PySem.W.Frag} {mg : Str → Option Value} {base : Heap}
theorem sc_led : FnScope ["one", "other", "leading", "kind", "near", "far"] ["one", "other", "leading"] (defScope (top 25)) := ⟨rfl, rfl, rfl, by decide +kernel, rfl, by decide +kernel, by decide +kernel⟩
theorem has_led (T : Tx K mg) : Has P w K mg base CX0 1 "led" ["one", "other", "leading"] (PureSp (preLed K)) := by
  refine T.has 12 (fun fd F => F.ok sc_led (fun vs H Q E h => ?_) fun cdv A outer s H vs Q E hr h => ?_) (fun fd F => F.bindsN fun _ _ _ _ _ _ us hl => match us, hl with | [_, _, _], _ => rfl)
  · obtain ⟨G, p, _, ⟨_, _, _, _, _, _, _, _, _, _, a, _⟩, _⟩ := h; exact a.len
  · obtain ⟨G, p, z, ⟨n, ls, m, ms, g, hr1, hz1, hz2, hk1, hg, a, rfl⟩, k⟩ := h
    obtain ⟨v, u, x, rfl, hv, hu, hx⟩ := allp3 a
    refine ⟨_, PSs.nox (pss_cons (ps_for PassesOwn.never rfl (pi_listK (K := K) rfl (pe_fldK (K := K) rfl (pv 0) rfl)) (pg_tupK (K := K) rfl rfl (pgs_cons (pg_name (i := 3) sc_led.nd rfl (by first | exact Or.inl rfl | exact Or.inr rfl)) (pgs_cons (pg_name (i := 4) sc_led.nd rfl (by first | exact Or.inl rfl | exact Or.inr rfl)) (pgs_cons (pg_name (i := 5) sc_led.nd rfl (by first | exact Or.inl rfl | exact Or.inr rfl)) (pgs_nil))))) (pss_one (ps_if (pt_cmpR (op_notInDK (K := K) rfl (un70 hr)) (pe_ix (ix_seqK (K := K) rfl) (pv 2) (pv 5) (fun _ _ => rfl)) (pe_dget2 (hu_of hr) (pe_fldK (K := K) rfl (pv 1) rfl) (pe_tup (pa_cons (pv 3) (pa_cons (pe_ix (ix_seqK (K := K) rfl) (pv 2) (pv 4) (fun _ _ => rfl)) (pa_nil)))) (pe_lst (pa_nil)) ⟨rfl, rfl, rfl, rfl⟩) (by rfl)) (pss_one (ps_ret (pe_bl))) (pss_nil))))
      (pss_one (ps_ret (pe_bl)))), ?_⟩
    refine for_dat (ds := ls.map rd) (is_lines T (is_var rfl hv)) z (fun i σ' G' H' => (∃ a b c, σ' = [some v, some u, some x, a, b, c]) ∧ Gr0 G H G' H' ∧ ∀ r ∈ ls.take i, (r.1, g.getD r.2.1 0, g.getD r.2.2 0) ∈ ms) (fun G1 H1 g1 => ⟨⟨_, _, _, rfl⟩, g1, fun r hr => by cases hr⟩) ?_ ?_
    · rintro i y d σ' G' H' hi hy zs zg ⟨⟨a1, b1, c1, rfl⟩, g1, hall⟩
      rw [List.getElem?_map, Option.map_eq_some_iff] at hi
      obtain ⟨r, hri, rfl⟩ := hi
      have hmem := List.mem_of_getElem? hri
      obtain ⟨hn1, hn2⟩ := hr1 r hmem
      obtain ⟨t, rfl, ht⟩ := road_tup hy
      refine ⟨_, gt_tup3 ht, fun N hN => ?_⟩
      have hx' := hx.mono zg
      have hu' := (web K m ms).mono _ _ _ zg hu
      refine if_is (b := !decide ((r.1, g.getD r.2.1 0, g.getD r.2.2 0) ∈ ms)) (IsT.eqb (ist_test (is_op (is_op (is_d rfl hx') (is_d rfl (.int _)) (ri_ixL (j := r.2.2) rfl (nums_get (by omega))))
        (is_dget (k := r.1) (p := g.getD r.2.1 0) (is_fore T (is_var rfl hu')) (is_tup (ds := [.str r.1, .int ((g.getD r.2.1 0 : Nat) : Int)]) (isa_cons (is_d rfl (.str _)) (isa_cons (is_op (is_d rfl hx') (is_d rfl (.int _)) (ri_ixL (j := r.2.1) rfl (nums_get (by omega)))) isa_nil)) (by simp)) (is_lst (ds := []) isa_nil (Nat.zero_le _)))
        (ri_notInD (Sd.sh (n := 1) (sd_int _)) (Sd.sh (n := 1) (sd_nums _))))) ?_) zs (fun hb G2 H2 g2 => ?_) fun hb G2 H2 g2 => ?_
      · rw [any_nat]
        exact congrArg (fun b => !b) (decide_eq_decide.mpr (by rw [ixr_near, ixr_far]; exact mem_fore))
      · refine ret_is (is_bl false) g2.gh fun v G3 H3 g3 pv => k v G3 H3 (g1.trans (g2.trans g3)) ?_
        have e : ledB g ls ms = false := by
          rw [Bool.eq_false_iff]
          intro h
          have := List.all_eq_true.mp h r hmem
          rw [this] at hb
          cases hb
        rw [e]; exact pv
      · refine hN _ G2 H2 g2.gg g2.gh ⟨⟨_, _, _, rfl⟩, g1.trans g2, fun q hq => ?_⟩
        rw [List.take_succ, hri] at hq
        rcases List.mem_append.mp hq with hq | hq
        · exact hall q hq
        · simp at hq
          subst hq
          simpa using hb
    · rintro σ' G' H' zs zg ⟨⟨a1, b1, c1, rfl⟩, g1, hall⟩
      rw [List.length_map, List.take_length] at hall
      dsimp only
      refine ret_is (is_bl true) zs fun v G3 H3 g3 pv => k v G3 H3 (g1.trans g3) ?_
      have e : ledB g ls ms = true := List.all_eq_true.mpr fun r hr => decide_eq_true (hall r hr)
      rw [e]; exact pv

theorem sc_is_leading : FnScope ["one", "other", "value"] ["one", "other", "value"] (defScope (top 26)) := ⟨rfl, rfl, rfl, by decide +kernel, rfl, by decide +kernel, by decide +kernel⟩
theorem has_is_leading (T : Tx K mg) : Has P w K mg base CX0 5 "is_leading" ["one", "other", "value"] (PureSp (preIsLead K)) := by
  refine T.has 13 (fun fd F => F.ok sc_is_leading (fun vs H Q E h => ?_) fun cdv A outer s H vs Q E hr h => ?_) (fun fd F => F.bindsN fun _ _ _ _ _ _ us hl => match us, hl with | [_, _, _], _ => rfl)
  · obtain ⟨G, p, _, ⟨_, _, _, _, _, _, _, _, _, _, a, _⟩, _⟩ := h; exact a.len
  · obtain ⟨G, p, z, ⟨n, ls, m, ms, d, hr1, hz1, hz2, hk1, hd, a, rfl⟩, k⟩ := h
    obtain ⟨v, u, x, rfl, hv, hu, hx⟩ := allp3 a
    refine ⟨_, PSs.nox (pss_one (ps_ret (pe_and (pe_callH (has_are_places T) (hr.mono (by decide)) pass0 (pa_cons (pv 2) (pa_cons (pe_fldK (K := K) rfl (pv 0) rfl) (pa_cons (pe_fldK (K := K) rfl (pv 1) rfl) (pa_nil))))) (pe_one (pe_callH (has_led T) (hr.mono (by decide)) pass0 (pa_cons (pv 0) (pa_cons (pv 1) (pa_cons (pv 2) (pa_nil))))))))), ?_⟩
    refine ret_is (p := dat (.bool (isLeadD n ls m ms d))) (is_andV (b := arePlacesD d n m) (c := ledB (natsD d) ls ms) (is_call (isa_cons (is_d rfl hx) (isa_cons (is_many T (is_var rfl hv)) (isa_cons (is_many T (is_var rfl hu)) isa_nil))) fun vs G1 _ a => ⟨d, n, m, hd, a, rfl⟩) fun hb => ?_) z k
    obtain ⟨e1, e2, e3⟩ := arePlaces_is hb
    exact is_call (isa_cons (is_var rfl hv) (isa_cons (is_var rfl hu) (isa_cons (is_d (d := nums (natsD d)) rfl (e1 ▸ hx)) isa_nil))) fun vs G1 _ a => ⟨n, ls, m, ms, natsD d, hr1, hz1, hz2, hk1, e2, a, rfl⟩

theorem sc_lines_of : FnScope ["web", "kind", "line"] ["web", "kind"] (defScope (top 28)) := ⟨rfl, rfl, rfl, by decide +kernel, rfl, by decide +kernel, by decide +kernel⟩
theorem has_lines_of (T : Tx K mg) : Has P w K mg base CX0 1 "lines_of" ["web", "kind"] (PureSp (preLinesOf K)) := by
  refine T.has 14 (fun fd F => F.ok sc_lines_of (fun vs H Q E h => ?_) fun cdv A outer s H vs Q E hr h => ?_) (fun fd F => F.bindsN fun _ _ _ _ _ _ us hl => match us, hl with | [_, _], _ => rfl)
  · obtain ⟨G, p, _, ⟨_, _, _, _, _, _, a, _⟩, _⟩ := h; exact a.len
  · obtain ⟨G, p, z, ⟨n, ls, kd, hk, hz1, hk1, a, rfl⟩, k⟩ := h
    obtain ⟨v, u, rfl, hv, hu⟩ := allp2 a
    refine ⟨_, PSs.nox (pss_one (ps_ret (pe_lc (own := [("line", 2)]) rfl sc_lines_of.nd (pi_listK (K := K) rfl (pe_fldK (K := K) rfl (pv 0) rfl)) (blkOk_by (by rfl)) (fun _ _ _ _ _ => pg_name (i := 2) sc_lines_of.nd rfl (by first | exact Or.inl rfl | exact Or.inr rfl)) (fun _ _ _ _ _ => pts_one (pt_cmpR (op_eqDK (K := K) rfl (un70 hr)) (pe_ix (ix_seqK (K := K) rfl) (pv 2) (pe_int) (fun _ _ => rfl)) (pv 1) (nomark _))) (fun _ _ _ _ _ => pv 2)))), ?_⟩
    refine ret_is (is_lcA rd (p := fun r => decide (r.1 = kd)) (q := rd) (is_lines T (is_var rfl hv)) hz1 fun x r G1 hr1 s1 hx => ⟨_, gt_name, rfl, IsT.eqb (ist_test (is_op (is_op (is_d rfl hx) (is_int 0) (ri_ixT (j := 0) rfl rfl)) (is_d rfl (hu.mono s1)) (ri_eqD (Sd.sh (n := 1) (sd_str (hk1 r hr1).sok)) (Sd.sh (n := 1) (sd_str hk.sok))))) ?_, fun _ => is_d rfl hx⟩) z k
    rw [eqv_str]

theorem sc_all_ahead : FnScope ["dyes", "kind", "some", "lots", "place", "lot"] ["dyes", "kind", "some"] (defScope (top 30)) := ⟨rfl, rfl, rfl, by decide +kernel, rfl, by decide +kernel, by decide +kernel⟩
theorem has_all_ahead (T : Tx K mg) : Has P w K mg base CX0 1 "all_ahead" ["dyes", "kind", "some"] (spAhead K) := by
  refine T.has 16 (fun fd F => F.ok sc_all_ahead (fun vs H Q E h => ?_) fun cdv A outer s H vs Q E hr h => ?_) (fun fd F => F.bindsN fun _ _ _ _ _ _ us hl => match us, hl with | [_, _, _], _ => rfl)
  · obtain ⟨G, m, ms, kd, xs, _, _, _, _, a, _⟩ := h; exact a.len
  · obtain ⟨G, m, ms, kd, xs, z, hm, hz1, hz2, a, k⟩ := h
    obtain ⟨v, u, x, rfl, hv, hu, hx⟩ := allp3 a
    refine ⟨_, PSs.nox (pss_cons (ps_set (i := 3) sc_all_ahead.nd rfl (by first | exact Or.inl rfl | exact Or.inr rfl) (pe_lc (own := [("place", 4)]) rfl sc_all_ahead.nd (pi_listK (K := K) rfl (pv 2)) (blkOk_by (by rfl)) (fun _ _ _ _ _ => pg_name (i := 4) sc_all_ahead.nd rfl (by first | exact Or.inl rfl | exact Or.inr rfl)) (fun _ _ _ _ _ => pts_nil) (fun _ _ _ _ _ => pe_dget2 (hu_of hr) (pe_fldK (K := K) rfl (pv 0) rfl) (pe_tup (pa_cons (pv 1) (pa_cons (pv 4) (pa_nil)))) (pe_lst (pa_nil)) ⟨rfl, rfl, rfl, rfl⟩)))
      (pss_one (ps_ret (pe_lc (own := [("place", 4)]) rfl sc_all_ahead.nd (pi_range1 rfl (T.free "range") (pa_cons (pe_fldK (K := K) rfl (pv 0) rfl) (pa_nil))) (blkOk_by (by rfl)) (fun _ _ _ _ _ => pg_name (i := 4) sc_all_ahead.nd rfl (by first | exact Or.inl rfl | exact Or.inr rfl)) (fun _ _ _ _ _ => pts_one (pt_cmpR (op_eqDK (K := K) rfl (un70 hr)) (pe_lc (own := [("lot", 5)]) rfl sc_all_ahead.nd (pi_listK (K := K) rfl (pv 3)) (blkOk_by (by rfl)) (fun _ _ _ _ _ => pg_name (i := 5) sc_all_ahead.nd rfl (by first | exact Or.inl rfl | exact Or.inr rfl)) (fun _ _ _ _ _ => pts_one (pt_cmpR (op_notInDK (K := K) rfl (un70 hr)) (pv 4) (pv 5) (by rfl))) (fun _ _ _ _ _ => pv 5)) (pe_lst (pa_nil)) (nomark _))) (fun _ _ _ _ _ => pv 4))))), ?_⟩
    refine set_is (is_lcA (fun n : Nat => PyData.int (n : Int)) (xs := xs) (p := fun _ => true) (q := fun s => nums (ends (ixr 1) (ixr 2) ms kd s)) (is_d rfl hx) (by omega) fun y s G1 hs s1 hy => ⟨_, gt_name, rfl, fun G2 H2 _ s4 Q q => q G2 H2 (.refl s4), fun _ =>
      is_dget (is_fore T (is_var rfl ((web K m ms).mono _ _ _ s1 hv))) (is_tup (ds := [.str kd, .int (s : Int)]) (isa_cons (is_d rfl (hu.mono s1)) (isa_cons (is_d rfl hy) isa_nil)) (by simp)) (is_lst (ds := []) isa_nil (Nat.zero_le _))⟩) z fun y G2 H2 g2 py => ?_
    have py' : DV G2 y (.list (xs.map fun s => nums (ends (ixr 1) (ixr 2) ms kd s))) := by
      have : (xs.filter fun _ => true) = xs := List.filter_eq_self.mpr fun _ _ => rfl
      rw [← this]; exact py
    refine lcR_hid (n := m) (f := fun p => xs.all fun s => decide ((kd, s, p) ∈ ms)) (o := fun p => .int (p : Int)) (isa_cons (is_many T (is_var rfl ((web K m ms).mono _ _ _ g2.gg hv))) isa_nil) (by omega) (fun i G3 hi s3 => ⟨_, gt_name, rfl, IsT.eqb (ist_test (is_op (is_lcA (fun s : Nat => nums (ends (ixr 1) (ixr 2) ms kd s)) (xs := xs) (p := fun s => !decide (i ∈ ends (ixr 1) (ixr 2) ms kd s)) (q := fun s => nums (ends (ixr 1) (ixr 2) ms kd s)) (is_d rfl (py'.mono s3)) (by omega) fun w s G4 hs s4 hw => ⟨_, gt_name, rfl, IsT.eqb (ist_test (is_op (is_d rfl (.int _)) (is_d rfl hw) (ri_notInD (Sd.sh (n := 1) (sd_int _)) (Sd.sh (n := 1) (sd_nums _))))) ?_, fun _ => is_d rfl hw⟩)
      (is_lst (ds := []) isa_nil (Nat.zero_le _)) (ri_eqD (Sd.sh (n := 2) (sd_list fun d hd => ?_)) (Sd.sh (n := 1) sd_nil)))) ?_, fun _ => is_d rfl (.int _)⟩) (Same.refl _) g2.gh _ fun D acc G3 H3 g3 e1 e2 e3 dv => k D G3 H3 (g2.trans g3) (g2.th _ e1) e3 (by rw [e2]; exact congrArg (fun l => some (HO.lst l)) (dvs_nums_inv (ns := aheadL m kd ms xs) dv))
    · rw [any_nat]
    · obtain ⟨s, _, rfl⟩ := List.mem_map.mp hd
      exact sd_nums _
    · rw [eqv_nil, List.isEmpty_map, filter_nil_all]
      rw [Bool.eq_iff_iff, List.all_eq_true, List.all_eq_true]
      simp only [decide_eq_true_iff, ixr_near, ixr_far, mem_fore]
    

theorem sc_all_behind : FnScope ["dyes", "kind", "some", "lots", "place", "lot"] ["dyes", "kind", "some"] (defScope (top 31)) := ⟨rfl, rfl, rfl, by decide +kernel, rfl, by decide +kernel, by decide +kernel⟩
theorem has_all_behind (T : Tx K mg) : Has P w K mg base CX0 1 "all_behind" ["dyes", "kind", "some"] (PureSp (preBehind K)) := by
  refine T.has 17 (fun fd F => F.ok sc_all_behind (fun vs H Q E h => ?_) fun cdv A outer s H vs Q E hr h => ?_) (fun fd F => F.bindsN fun _ _ _ _ _ _ us hl => match us, hl with | [_, _, _], _ => rfl)
  · obtain ⟨G, p, _, ⟨_, _, _, _, _, _, _, a, _⟩, _⟩ := h; exact a.len
  · obtain ⟨G, p, z, ⟨m, ms, kd, xs, hm, hz1, hz2, a, rfl⟩, k⟩ := h
    obtain ⟨v, u, x, rfl, hv, hu, hx⟩ := allp3 a
    refine ⟨_, PSs.nox (pss_cons (ps_set (i := 3) sc_all_behind.nd rfl (by first | exact Or.inl rfl | exact Or.inr rfl) (pe_lc (own := [("place", 4)]) rfl sc_all_behind.nd (pi_listK (K := K) rfl (pv 2)) (blkOk_by (by rfl)) (fun _ _ _ _ _ => pg_name (i := 4) sc_all_behind.nd rfl (by first | exact Or.inl rfl | exact Or.inr rfl)) (fun _ _ _ _ _ => pts_nil) (fun _ _ _ _ _ => pe_dget2 (hu_of hr) (pe_fldK (K := K) rfl (pv 0) rfl) (pe_tup (pa_cons (pv 1) (pa_cons (pv 4) (pa_nil)))) (pe_lst (pa_nil)) ⟨rfl, rfl, rfl, rfl⟩)))
      (pss_one (ps_ret (pe_lc (own := [("place", 4)]) rfl sc_all_behind.nd (pi_range1 rfl (T.free "range") (pa_cons (pe_fldK (K := K) rfl (pv 0) rfl) (pa_nil))) (blkOk_by (by rfl)) (fun _ _ _ _ _ => pg_name (i := 4) sc_all_behind.nd rfl (by first | exact Or.inl rfl | exact Or.inr rfl)) (fun _ _ _ _ _ => pts_one (pt_cmpR (op_eqDK (K := K) rfl (un70 hr)) (pe_lc (own := [("lot", 5)]) rfl sc_all_behind.nd (pi_listK (K := K) rfl (pv 3)) (blkOk_by (by rfl)) (fun _ _ _ _ _ => pg_name (i := 5) sc_all_behind.nd rfl (by first | exact Or.inl rfl | exact Or.inr rfl)) (fun _ _ _ _ _ => pts_one (pt_cmpR (op_notInDK (K := K) rfl (un70 hr)) (pv 4) (pv 5) (by rfl))) (fun _ _ _ _ _ => pv 5)) (pe_lst (pa_nil)) (nomark _))) (fun _ _ _ _ _ => pv 4))))), ?_⟩
    refine set_is (is_lcA (fun n : Nat => PyData.int (n : Int)) (xs := xs) (p := fun _ => true) (q := fun s => nums (ends (ixr 2) (ixr 1) ms kd s)) (is_d rfl hx) (by omega) fun y s G1 hs s1 hy => ⟨_, gt_name, rfl, fun G2 H2 _ s4 Q q => q G2 H2 (.refl s4), fun _ =>
      is_dget (is_back T (is_var rfl ((web K m ms).mono _ _ _ s1 hv))) (is_tup (ds := [.str kd, .int (s : Int)]) (isa_cons (is_d rfl (hu.mono s1)) (isa_cons (is_d rfl hy) isa_nil)) (by simp)) (is_lst (ds := []) isa_nil (Nat.zero_le _))⟩) z fun y G2 H2 g2 py => ?_
    have py' : DV G2 y (.list (xs.map fun s => nums (ends (ixr 2) (ixr 1) ms kd s))) := by
      have : (xs.filter fun _ => true) = xs := List.filter_eq_self.mpr fun _ _ => rfl
      rw [← this]; exact py
    refine ret_is (Is.eqd (is_lcR (n := m) (f := fun p => xs.all fun s => decide ((kd, p, s) ∈ ms)) (o := fun p => .int (p : Int)) (isa_cons (is_many T (is_var rfl ((web K m ms).mono _ _ _ g2.gg hv))) isa_nil) (by omega) fun i G3 hi s3 => ⟨_, gt_name, rfl, IsT.eqb (ist_test (is_op (is_lcA (fun s : Nat => nums (ends (ixr 2) (ixr 1) ms kd s)) (xs := xs) (p := fun s => !decide (i ∈ ends (ixr 2) (ixr 1) ms kd s)) (q := fun s => nums (ends (ixr 2) (ixr 1) ms kd s)) (is_d rfl (py'.mono s3)) (by omega) fun w s G4 hs s4 hw => ⟨_, gt_name, rfl, IsT.eqb (ist_test (is_op (is_d rfl (.int _)) (is_d rfl hw) (ri_notInD (Sd.sh (n := 1) (sd_int _)) (Sd.sh (n := 1) (sd_nums _))))) ?_, fun _ => is_d rfl hw⟩)
      (is_lst (ds := []) isa_nil (Nat.zero_le _)) (ri_eqD (Sd.sh (n := 2) (sd_list fun d hd => ?_)) (Sd.sh (n := 1) sd_nil)))) ?_, fun _ => is_d rfl (.int _)⟩) ?_) g2.gh fun v G3 H3 g3 pv => k v G3 H3 (g2.trans g3) pv
    · rw [any_nat]
    · obtain ⟨s, _, rfl⟩ := List.mem_map.mp hd
      exact sd_nums _
    · rw [eqv_nil, List.isEmpty_map, filter_nil_all]
      rw [Bool.eq_iff_iff, List.all_eq_true, List.all_eq_true]
      simp only [decide_eq_true_iff, ixr_near, ixr_far, mem_back]
    · rfl

end
end Yd
set_option Elab.async false
set_option linter.all false
set_option maxRecDepth 100000
set_option maxHeartbeats 4000000
/-! plain: closed pairs, line webs, what dyes roads -/
namespace Yd
open PySem PySem.W
/-! ### lots -/
def subs : Nat → List (List Nat)
  | 0 => [[]]
  | m + 1 => subs m ++ (subs m).map (· ++ [m])
theorem mem_subs : ∀ {m : Nat} {xs : List Nat}, xs ∈ subs m ↔ xs.Pairwise (· < ·) ∧ ∀ x ∈ xs, x < m
  | 0, xs => by
    simp only [subs, List.mem_singleton]
    constructor
    · rintro rfl; exact ⟨List.Pairwise.nil, fun x h => by cases h⟩
    · rintro ⟨_, h⟩
      cases xs with
      | nil => rfl
      | cons x xs => exact absurd (h x List.mem_cons_self) (Nat.not_lt_zero _)
  | m + 1, xs => by
    simp only [subs, List.mem_append, List.mem_map]
    constructor
    · rintro (h | ⟨ys, h, rfl⟩)
      · obtain ⟨h1, h2⟩ := mem_subs.mp h
        exact ⟨h1, fun x hx => Nat.lt_succ_of_lt (h2 x hx)⟩
      · obtain ⟨h1, h2⟩ := mem_subs.mp h
        refine ⟨List.pairwise_append.mpr ⟨h1, List.pairwise_singleton _ _, fun a ha b hb => ?_⟩, fun x hx => ?_⟩
        · rw [List.mem_singleton.mp hb]; exact h2 a ha
        · rcases List.mem_append.mp hx with hx | hx
          · exact Nat.lt_succ_of_lt (h2 x hx)
          · rw [List.mem_singleton.mp hx]; exact Nat.lt_succ_self _
    · rintro ⟨h1, h2⟩
      rcases List.eq_nil_or_concat xs with rfl | ⟨ys, z, rfl⟩
      · exact .inl (mem_subs.mpr ⟨List.Pairwise.nil, fun x h => by cases h⟩)
      · rw [List.concat_eq_append] at h1 h2 ⊢
        obtain ⟨k1, _, k3⟩ := List.pairwise_append.mp h1
        have hz := h2 z (by simp)
        have hy : ∀ y ∈ ys, y < z := fun y hy => k3 y hy z (List.mem_singleton.mpr rfl)
        by_cases c : z = m
        · subst c
          exact .inr ⟨ys, mem_subs.mpr ⟨k1, hy⟩, rfl⟩
        · refine .inl (mem_subs.mpr ⟨h1, fun x hx => ?_⟩)
          rcases List.mem_append.mp hx with hx | hx
          · have := hy x hx; omega
          · rw [List.mem_singleton.mp hx]; omega
theorem subs_len : ∀ m, (subs m).length = 2 ^ m
  | 0 => rfl
  | m + 1 => by simp only [subs, List.length_append, List.length_map, subs_len m, Nat.pow_succ]; omega
theorem asc_len {xs : List Nat} {m : Nat} (h1 : xs.Pairwise (· < ·)) (h2 : ∀ x ∈ xs, x < m) : xs.length ≤ m := by
  have := L2.nat_nodup_len xs (List.range m) (h1.imp fun h => Nat.ne_of_lt h) fun x hx => List.mem_range.mpr (h2 x hx)
  rwa [List.length_range] at this
theorem range_sub {m : Nat} (p : Nat → Bool) : (List.range m).filter p ∈ subs m :=
  mem_subs.mpr ⟨List.Pairwise.sublist List.filter_sublist List.pairwise_lt_range, fun x hx => List.mem_range.mp (List.mem_filter.mp hx).1⟩
def ssubs (m : Nat) : List (List Nat) := (subs m).mergeSort (dataLe false nums)
theorem mem_ssubs {m : Nat} {xs : List Nat} : xs ∈ ssubs m ↔ xs ∈ subs m := (List.mergeSort_perm _ _).mem_iff
theorem ssubs_len (m : Nat) : (ssubs m).length = 2 ^ m := by rw [ssubs, List.length_mergeSort, subs_len]
theorem dsort_nums (ls : List (List Nat)) : dsort (ls.map nums) = (ls.mergeSort (dataLe false nums)).map nums := dsort_map nums ls
theorem alike_nums (ls : List (List Nat)) : AllAlike (ls.map nums) := AllAlike.of fun a b => by
  have := alike_ints (a.map fun n : Nat => (n : Int)) (b.map fun n : Nat => (n : Int))
  rw [List.map_map, List.map_map] at this
  show alike (.list _) (.list _) = true
  rw [alike]
  exact this
theorem sortable_nums (ls : List (List Nat)) : Sortable (ls.map nums) := Sortable.others fun a => ⟨by simp [nums], fun xs => by simp [nums]⟩
theorem noDict_nums (g : List Nat) : (nums g).hasDict = false := noDict_of_canLay0 _ (sd_nums (n := 1) g).1
theorem depth_nums (g : List Nat) : (nums g).depth ≤ 60 := Nat.le_trans (sd_nums (n := 0) g).2 (by decide)
/-! ### ahead, behind, pairs -/
section
variable {m : Nat} {k : Str} {ms : List Road}
theorem mem_ahead {p : Nat} {xs : List Nat} : p ∈ aheadL m k ms xs ↔ p < m ∧ ∀ s ∈ xs, (k, s, p) ∈ ms := by
  unfold aheadL
  rw [List.mem_filter, List.mem_range, List.all_eq_true]
  simp only [decide_eq_true_iff]
theorem mem_behind {p : Nat} {xs : List Nat} : p ∈ behindL m k ms xs ↔ p < m ∧ ∀ e ∈ xs, (k, p, e) ∈ ms := by
  unfold behindL
  rw [List.mem_filter, List.mem_range, List.all_eq_true]
  simp only [decide_eq_true_iff]
theorem filter_range_ext {p q : Nat → Bool} (h : ∀ x, x ∈ (List.range m).filter p ↔ x ∈ (List.range m).filter q) : (List.range m).filter p = (List.range m).filter q := by
  refine List.filter_congr fun x hx => ?_
  have := h x
  rw [List.mem_filter, List.mem_filter] at this
  rw [Bool.eq_iff_iff]
  exact ⟨fun e => (this.mp ⟨hx, e⟩).2, fun e => (this.mpr ⟨hx, e⟩).2⟩
theorem ahead_ext {xs ys : List Nat} (h : ∀ x, x ∈ aheadL m k ms xs ↔ x ∈ aheadL m k ms ys) : aheadL m k ms xs = aheadL m k ms ys := filter_range_ext h
theorem behind_ext {xs ys : List Nat} (h : ∀ x, x ∈ behindL m k ms xs ↔ x ∈ behindL m k ms ys) : behindL m k ms xs = behindL m k ms ys := filter_range_ext h
theorem sub_closed {xs : List Nat} (hx : ∀ x ∈ xs, x < m) {x : Nat} (h : x ∈ xs) : x ∈ behindL m k ms (aheadL m k ms xs) := mem_behind.mpr ⟨hx x h, fun e he => (mem_ahead.mp he).2 x h⟩
theorem ahead_closed {xs : List Nat} (hx : ∀ x ∈ xs, x < m) : aheadL m k ms (behindL m k ms (aheadL m k ms xs)) = aheadL m k ms xs := by
  refine ahead_ext fun p => ⟨fun h => ?_, fun h => ?_⟩
  · obtain ⟨h1, h2⟩ := mem_ahead.mp h
    exact mem_ahead.mpr ⟨h1, fun s hs => h2 s (sub_closed hx hs)⟩
  · exact mem_ahead.mpr ⟨(mem_ahead.mp h).1, fun s hs => (mem_behind.mp hs).2 p h⟩
def pairsL (m : Nat) (k : Str) (ms : List Road) : List (List Nat × List Nat) := ((ssubs m).filter fun lot => decide (behindL m k ms (aheadL m k ms lot) = lot)).map fun lot => (lot, aheadL m k ms lot)
theorem mem_pairs {a b : List Nat} : (a, b) ∈ pairsL m k ms ↔ a ∈ subs m ∧ behindL m k ms (aheadL m k ms a) = a ∧ b = aheadL m k ms a := by
  unfold pairsL
  rw [List.mem_map]
  constructor
  · rintro ⟨lot, h, e⟩
    obtain ⟨h1, h2⟩ := List.mem_filter.mp h
    cases e
    exact ⟨mem_ssubs.mp h1, of_decide_eq_true h2, rfl⟩
  · rintro ⟨h1, h2, rfl⟩
    exact ⟨a, List.mem_filter.mpr ⟨mem_ssubs.mpr h1, decide_eq_true h2⟩, rfl⟩
theorem pair_of {xs : List Nat} (hx : ∀ x ∈ xs, x < m) : (behindL m k ms (aheadL m k ms xs), aheadL m k ms xs) ∈ pairsL m k ms :=
  mem_pairs.mpr ⟨range_sub _, by rw [ahead_closed hx], (ahead_closed hx).symm⟩
theorem pairs_len : (pairsL m k ms).length ≤ 2 ^ m := by
  unfold pairsL
  rw [List.length_map, ← ssubs_len m]
  exact List.length_filter_le _ _
theorem pairs_ne : pairsL m k ms ≠ [] := List.ne_nil_of_mem (pair_of (xs := []) fun x h => by cases h)
end
def prD (p : List Nat × List Nat) : PyData := .tuple [nums p.1, nums p.2]
theorem pl_pr (p : List Nat × List Nat) : Pl (prD p) := .tup fun d hd => by
  simp only [List.mem_cons, List.not_mem_nil, or_false] at hd
  rcases hd with rfl | rfl <;> exact pl_nums _
theorem prD_inj {p q : List Nat × List Nat} (h : prD p = prD q) : p = q := by
  simp only [prD, PyData.tuple.injEq, List.cons.injEq, and_true] at h
  exact Prod.ext (nums_inj h.1) (nums_inj h.2)
theorem sd_pr {n : Nat} (p : List Nat × List Nat) : Sd (n + 2) (prD p) := sd_tup fun d hd => by
  simp only [List.mem_cons, List.not_mem_nil, or_false] at hd
  rcases hd with rfl | rfl <;> exact sd_nums _
theorem eqv_pr (p q : List Nat × List Nat) : PyData.eqv (prD p) (prD q) = decide (p = q) := by
  rw [Bool.eq_iff_iff, decide_eq_true_iff, (pl_pr p).eqv (pl_pr q)]
  exact ⟨prD_inj, fun e => e ▸ rfl⟩
/-! ### the web of lines, the web of pairs -/
def lineRow (L : List Road) (k : Str) (i : Nat) : List Road := ((List.range L.length).filter fun j => decide ((L.getD j d0).2.1 = (L.getD i d0).2.2)).map fun j => (k, i, j)
def lineEdges (L : List Road) (k : Str) : List Road := (List.range L.length).flatMap (lineRow L k)
theorem mem_lineEdges {L : List Road} {k : Str} {r : Road} : r ∈ lineEdges L k ↔ r.1 = k ∧ r.2.1 < L.length ∧ r.2.2 < L.length ∧ (L.getD r.2.2 d0).2.1 = (L.getD r.2.1 d0).2.2 := by
  unfold lineEdges lineRow
  rw [List.mem_flatMap]
  constructor
  · rintro ⟨i, hi, h⟩
    obtain ⟨j, hj, rfl⟩ := List.mem_map.mp h
    obtain ⟨h1, h2⟩ := List.mem_filter.mp hj
    exact ⟨rfl, List.mem_range.mp hi, List.mem_range.mp h1, of_decide_eq_true h2⟩
  · obtain ⟨a, b, c⟩ := r
    rintro ⟨rfl, h1, h2, h3⟩
    exact ⟨b, List.mem_range.mpr h1, List.mem_map.mpr ⟨c, List.mem_filter.mpr ⟨List.mem_range.mpr h2, decide_eq_true h3⟩, rfl⟩⟩
def pairRow (ps : List (List Nat × List Nat)) (k : Str) (i : Nat) : List Road := ((List.range ps.length).filter fun j => (ps.getD i ([], [])).2.any fun x => decide (x ∈ (ps.getD j ([], [])).1)).map fun j => (k, i, j)
def pairEdges (ps : List (List Nat × List Nat)) (k : Str) : List Road := (List.range ps.length).flatMap (pairRow ps k)
theorem mem_pairEdges {ps : List (List Nat × List Nat)} {k : Str} {r : Road} : r ∈ pairEdges ps k ↔ r.1 = k ∧ r.2.1 < ps.length ∧ r.2.2 < ps.length ∧ ∃ x, x ∈ (ps.getD r.2.1 ([], [])).2 ∧ x ∈ (ps.getD r.2.2 ([], [])).1 := by
  unfold pairEdges pairRow
  rw [List.mem_flatMap]
  constructor
  · rintro ⟨i, hi, h⟩
    obtain ⟨j, hj, rfl⟩ := List.mem_map.mp h
    obtain ⟨h1, h2⟩ := List.mem_filter.mp hj
    obtain ⟨x, h3, h4⟩ := List.any_eq_true.mp h2
    exact ⟨rfl, List.mem_range.mp hi, List.mem_range.mp h1, x, h3, of_decide_eq_true h4⟩
  · obtain ⟨a, b, c⟩ := r
    rintro ⟨rfl, h1, h2, x, h3, h4⟩
    exact ⟨b, List.mem_range.mpr h1, List.mem_map.mpr ⟨c, List.mem_filter.mpr ⟨List.mem_range.mpr h2, List.any_eq_true.mpr ⟨x, h3, decide_eq_true h4⟩⟩, rfl⟩⟩
theorem rows_nodup (n : Nat) (k : Str) (p : Nat → Nat → Bool) : ((List.range n).flatMap fun i => ((List.range n).filter (p i)).map fun j => ((k, i, j) : Road)).Nodup := by
  unfold List.Nodup
  rw [List.pairwise_flatMap]
  refine ⟨fun i _ => ?_, List.nodup_range.imp fun {i j} hij x hx y hy e => ?_⟩
  · exact List.pairwise_map.mpr ((List.Pairwise.sublist List.filter_sublist (List.nodup_range (n := n))).imp fun h e => h (by cases e; rfl))
  · obtain ⟨a, _, rfl⟩ := List.mem_map.mp hx
    obtain ⟨b, _, rfl⟩ := List.mem_map.mp hy
    cases e
    exact hij rfl
theorem rows_len (n : Nat) (k : Str) (p : Nat → Nat → Bool) : ∀ m, ((List.range m).flatMap fun i => ((List.range n).filter (p i)).map fun j => ((k, i, j) : Road)).length ≤ m * n
  | 0 => by simp
  | m + 1 => by
    rw [List.range_succ, List.flatMap_append, List.length_append, Nat.succ_mul]
    have h := rows_len n k p m
    have h2 : (List.flatMap (fun i => ((List.range n).filter (p i)).map fun j => ((k, i, j) : Road)) [m]).length ≤ n := by
      rw [List.flatMap_singleton, List.length_map]
      exact Nat.le_trans (List.length_filter_le _ _) (by rw [List.length_range]; exact Nat.le_refl _)
    omega
theorem lineWeb_ok {L : List Road} {k : Str} (hk : KindOk k) (hL : L.length ≤ 32) : WebOk L.length (lineEdges L k) where
  road := fun r hr => by
    obtain ⟨h1, h2, h3, _⟩ := mem_lineEdges.mp hr
    exact ⟨h1 ▸ hk, h2, h3⟩
  nd := rows_nodup _ _ _
  few := Nat.le_trans (rows_len _ _ _ _) (Nat.le_trans (Nat.mul_le_mul hL hL) (by decide))
  small := by omega
theorem pairWeb_ok {ps : List (List Nat × List Nat)} {k : Str} (hk : KindOk k) (hL : ps.length ≤ 32) : WebOk ps.length (pairEdges ps k) where
  road := fun r hr => by
    obtain ⟨h1, h2, h3, _⟩ := mem_pairEdges.mp hr
    exact ⟨h1 ▸ hk, h2, h3⟩
  nd := rows_nodup _ _ _
  few := Nat.le_trans (rows_len _ _ _ _) (Nat.le_trans (Nat.mul_le_mul hL hL) (by decide))
  small := by omega
/-! ### leadings -/
theorem ledB_iff {g : List Nat} {ls ms : List Road} : ledB g ls ms = true ↔ ∀ r ∈ ls, (r.1, g.getD r.2.1 0, g.getD r.2.2 0) ∈ ms := by
  unfold ledB
  rw [List.all_eq_true]
  simp only [decide_eq_true_iff]
theorem ledB_sort (g : List Nat) (ls ms : List Road) : ledB g (rsort ls) (rsort ms) = ledB g ls ms := by
  rw [Bool.eq_iff_iff, ledB_iff, ledB_iff]
  simp only [mem_rsort]
structure Leads (n : Nat) (ls : List Road) (m : Nat) (ms : List Road) (g : List Nat) : Prop where
  len : g.length = n
  lt : ∀ x ∈ g, x < m
  ok : ∀ r ∈ ls, (r.1, g.getD r.2.1 0, g.getD r.2.2 0) ∈ ms
theorem isLead_nums {n m : Nat} {ls ms : List Road} {g : List Nat} : isLeadD n ls m ms (nums g) = true ↔ Leads n ls m ms g := by
  unfold isLeadD
  rw [Bool.and_eq_true, natsD_nums, ledB_iff]
  constructor
  · rintro ⟨h1, h2⟩
    obtain ⟨e1, e2, e3⟩ := arePlaces_is h1
    rw [natsD_nums] at e2 e3
    exact ⟨e2, e3, h2⟩
  · rintro ⟨h1, h2, h3⟩
    exact ⟨nums_places h1 h2, h3⟩
theorem isLead_sort (n : Nat) (ls : List Road) (m : Nat) (ms : List Road) (d : PyData) : isLeadD n (rsort ls) m (rsort ms) d = isLeadD n ls m ms d := by
  unfold isLeadD; rw [ledB_sort]
theorem getD_lt {g : List Nat} {m i : Nat} (h : ∀ x ∈ g, x < m) (hi : i < g.length) : g.getD i 0 < m := by
  rw [List.getD_eq_getElem?_getD, List.getElem?_eq_getElem hi]
  exact h _ (List.getElem_mem hi)
/-- the values at the lines that end at a place -/
def endsAt (L : List Road) (g : List Nat) (p : Nat) : List Nat := ((List.range L.length).filter fun i => decide ((L.getD i d0).2.2 = p)).map fun i => g.getD i 0
def begAt (m : Nat) (k : Str) (ms : List Road) (L : List Road) (g : List Nat) (p : Nat) : List Nat := aheadL m k ms (endsAt L g p)
def onIdx (m : Nat) (k : Str) (ms : List Road) (L : List Road) (g : List Nat) (p : Nat) : Nat := (pairsL m k ms).findIdx fun q => decide (q = (behindL m k ms (begAt m k ms L g p), begAt m k ms L g p))
def dyedOn (n m : Nat) (k : Str) (ms : List Road) (L : List Road) (g : List Nat) : List Nat := (List.range n).map (onIdx m k ms L g)
section
variable {n m : Nat} {k : Str} {ms L : List Road} {g : List Nat}
theorem endsAt_lt (hg : g.length = L.length) (h : ∀ x ∈ g, x < m) {p : Nat} : ∀ x ∈ endsAt L g p, x < m := fun x hx => by
  obtain ⟨i, hi, rfl⟩ := List.mem_map.mp hx
  have := List.mem_range.mp (List.mem_filter.mp hi).1
  exact getD_lt h (by omega)
theorem onIdx_spec (hg : g.length = L.length) (h : ∀ x ∈ g, x < m) (p : Nat) : (pairsL m k ms)[onIdx m k ms L g p]? = some (behindL m k ms (begAt m k ms L g p), begAt m k ms L g p) ∧ ∀ j, j < onIdx m k ms L g p → (pairsL m k ms)[j]? ≠ some (behindL m k ms (begAt m k ms L g p), begAt m k ms L g p) := by
  have hm : (behindL m k ms (begAt m k ms L g p), begAt m k ms L g p) ∈ pairsL m k ms := pair_of (endsAt_lt hg h)
  have hlt : onIdx m k ms L g p < (pairsL m k ms).length := List.findIdx_lt_length_of_exists ⟨_, hm, by simp⟩
  refine ⟨?_, fun j hj e => ?_⟩
  · rw [List.getElem?_eq_getElem hlt]
    have := List.findIdx_getElem (w := hlt)
    exact congrArg some (of_decide_eq_true this)
  · have := List.not_of_lt_findIdx hj
    obtain ⟨hj2, e2⟩ := List.getElem?_eq_some_iff.mp e
    rw [e2] at this
    simp at this
theorem onIdx_lt (hg : g.length = L.length) (h : ∀ x ∈ g, x < m) (p : Nat) : onIdx m k ms L g p < (pairsL m k ms).length := (List.getElem?_eq_some_iff.mp (onIdx_spec hg h p).1).1
theorem getD_some {α : Type} {xs : List α} {i : Nat} {a d : α} (h : xs[i]? = some a) : xs.getD i d = a := by rw [List.getD_eq_getElem?_getD, h]; rfl
theorem getD_map_range {n : Nat} (f : Nat → Nat) {i : Nat} (h : i < n) : ((List.range n).map f).getD i 0 = f i := by
  rw [List.getD_eq_getElem?_getD, List.getElem?_map, List.getElem?_range h]; rfl
theorem dyedOn_leads (hL : ∀ r ∈ L, r.1 = k ∧ r.2.1 < n ∧ r.2.2 < n) (h : Leads L.length (lineEdges L k) m ms g) : Leads n L (pairsL m k ms).length (pairEdges (pairsL m k ms) k) (dyedOn n m k ms L g) where
  len := by unfold dyedOn; rw [List.length_map, List.length_range]
  lt := fun x hx => by
    obtain ⟨p, _, rfl⟩ := List.mem_map.mp hx
    exact onIdx_lt h.len h.lt p
  ok := fun r hr => by
    obtain ⟨h1, h2, h3⟩ := hL r hr
    unfold dyedOn
    rw [getD_map_range _ h2, getD_map_range _ h3]
    refine mem_pairEdges.mpr ⟨h1, onIdx_lt h.len h.lt _, onIdx_lt h.len h.lt _, ?_⟩
    obtain ⟨i, hi, e⟩ := List.getElem_of_mem hr
    have ei : L.getD i d0 = r := by rw [List.getD_eq_getElem?_getD, List.getElem?_eq_getElem hi, e]; rfl
    refine ⟨g.getD i 0, ?_, ?_⟩
    · rw [getD_some (onIdx_spec h.len h.lt r.2.1).1]
      refine mem_ahead.mpr ⟨getD_lt h.lt (by rw [h.len]; exact hi), fun s hs => ?_⟩
      obtain ⟨j, hj, rfl⟩ := List.mem_map.mp hs
      obtain ⟨j1, j2⟩ := List.mem_filter.mp hj
      have := h.ok (k, j, i) (mem_lineEdges.mpr ⟨rfl, List.mem_range.mp j1, hi, by
        show (L.getD i d0).2.1 = (L.getD j d0).2.2
        rw [ei]; exact (of_decide_eq_true j2).symm⟩)
      exact this
    · rw [getD_some (onIdx_spec h.len h.lt r.2.2).1]
      refine sub_closed (endsAt_lt h.len h.lt) (List.mem_map.mpr ⟨i, List.mem_filter.mpr ⟨List.mem_range.mpr hi, ?_⟩, rfl⟩)
      exact decide_eq_true (by rw [ei])
def backAt (ps : List (List Nat × List Nat)) (g : List Nat) (r : Road) : List Nat := (ps.getD (g.getD r.2.1 0) ([], [])).2.filter fun x => decide (x ∈ (ps.getD (g.getD r.2.2 0) ([], [])).1)
def dyedBack (ps : List (List Nat × List Nat)) (L : List Road) (g : List Nat) : List Nat := L.map fun r => (backAt ps g r).headD 0
theorem backAt_ne {ps : List (List Nat × List Nat)} (h : Leads n L ps.length (pairEdges ps k) g) {r : Road} (hr : r ∈ L) : backAt ps g r ≠ [] := by
  obtain ⟨_, _, _, x, h1, h2⟩ := mem_pairEdges.mp (h.ok r hr)
  exact List.ne_nil_of_mem (List.mem_filter.mpr ⟨h1, decide_eq_true h2⟩)
theorem headD_mem {xs : List Nat} (h : xs ≠ []) : xs.headD 0 ∈ xs := by
  cases xs with
  | nil => exact absurd rfl h
  | cons x xs => exact List.mem_cons_self
theorem dyedBack_leads (hL : ∀ r ∈ L, r.1 = k ∧ r.2.1 < n ∧ r.2.2 < n) (h : Leads n L (pairsL m k ms).length (pairEdges (pairsL m k ms) k) g) : Leads L.length (lineEdges L k) m ms (dyedBack (pairsL m k ms) L g) := by
  have pm : ∀ i, i < n → (((pairsL m k ms).getD (g.getD i 0) ([], [])).1, ((pairsL m k ms).getD (g.getD i 0) ([], [])).2) ∈ pairsL m k ms := fun i hi => by
    have hlt : g.getD i 0 < (pairsL m k ms).length := getD_lt h.lt (by rw [h.len]; exact hi)
    rw [List.getD_eq_getElem?_getD, List.getElem?_eq_getElem hlt]
    exact List.getElem_mem hlt
  have mem : ∀ r ∈ L, (backAt (pairsL m k ms) g r).headD 0 ∈ ((pairsL m k ms).getD (g.getD r.2.1 0) ([], [])).2 ∧ (backAt (pairsL m k ms) g r).headD 0 ∈ ((pairsL m k ms).getD (g.getD r.2.2 0) ([], [])).1 := fun r hr => by
    have := List.mem_filter.mp (headD_mem (backAt_ne h hr))
    exact ⟨this.1, of_decide_eq_true this.2⟩
  refine ⟨by unfold dyedBack; rw [List.length_map], fun x hx => ?_, fun r hr => ?_⟩
  · obtain ⟨r, hr, rfl⟩ := List.mem_map.mp hx
    obtain ⟨_, h2, _⟩ := hL r hr
    obtain ⟨_, _, e⟩ := mem_pairs.mp (pm _ h2)
    have := (mem r hr).1
    rw [e] at this
    exact (mem_ahead.mp this).1
  · obtain ⟨e1, h1, h2, h3⟩ := mem_lineEdges.mp hr
    have get : ∀ i, i < L.length → (dyedBack (pairsL m k ms) L g).getD i 0 = (backAt (pairsL m k ms) g (L.getD i d0)).headD 0 ∧ L.getD i d0 ∈ L := fun i hi => by
      unfold dyedBack
      rw [List.getD_eq_getElem?_getD, List.getElem?_map, List.getD_eq_getElem?_getD, List.getElem?_eq_getElem hi]
      exact ⟨rfl, List.getElem_mem hi⟩
    obtain ⟨g1, m1⟩ := get _ h1
    obtain ⟨g2, m2⟩ := get _ h2
    rw [g1, g2, e1]
    obtain ⟨_, a2, a3⟩ := hL _ m1
    obtain ⟨_, _, e⟩ := mem_pairs.mp (pm _ a3)
    have x1 := (mem _ m1).2
    have x2 := (mem _ m2).1
    rw [h3, e] at x2
    exact (mem_ahead.mp x2).2 _ x1
end
end Yd
set_option Elab.async false
set_option linter.all false
set_option maxRecDepth 100000
set_option maxHeartbeats 4000000
namespace Yd
open PySem PySem.Spec L2

open PySem.W (AllAlike Sortable)
def nilH : Hp := fun _ => none
/-- seen in G, or in F -/
def uni (G F : Hp) : Hp := fun b => match G b with
  | some o => some o
  | none => F b
theorem uni_l {G F : Hp} {b : Addr} {o : HO} (h : G b = some o) : uni G F b = some o := by unfold uni; rw [h]
theorem uni_r {G F : Hp} {b : Addr} (h : G b = none) : uni G F b = F b := by unfold uni; rw [h]
theorem nil_same (H : Hp) : Same nilH H := fun _ _ e => nomatch e
section
variable {G F H G2 H2 U : Hp}
theorem Gr.hidE {F : Hp} (g : Gr0 U H G2 H2) (s : Same F H) : Gr0 F H F H2 := Gr.mk0 s (Same.refl _) (s.trans g.same) g.same fun _ e k => absurd e k
theorem uni_sl : Same G (uni G F) := fun _ _ e => uni_l e
theorem uni_sr (h : ∀ b o, F b = some o → G b = none) : Same F (uni G F) := fun b o e => by rw [uni_r (h b o e)]; exact e
theorem uni_s (s : Same G H) (f : Same F H) : Same (uni G F) H := fun b o e => by
  cases q : G b with
  | some o' => rw [uni_l q] at e; cases e; exact s _ _ q
  | none => rw [uni_r q] at e; exact f _ _ e
theorem fresh_out (s : Same G H) (g : Gr0 nilH H F H2) : ∀ b o, F b = some o → G b = none := fun b o e => s.free (g.nw b rfl (by rw [e]; exact fun z => nomatch z))
theorem Gr.uniR (s : Same G H) (g : Gr0 nilH H F H2) : Gr0 G H (uni G F) H2 := Gr.mk0 s uni_sl (uni_s (s.trans g.same) g.gh) g.same fun b e k => by
  rw [uni_r e] at k
  exact g.nw b rfl k
end
theorem allp_of {G : Hp} : ∀ {vs : List V} {ds : List PyData}, DVs G vs ds → AllP (ds.map dat) vs G
  | _, _, .nil => rfl
  | _, _, .cons h k => ⟨_, _, rfl, h, allp_of k⟩
/-! ### a list of one's own that grows -/
structure Own (G H G' H' : Hp) (l : Addr) (ds : List PyData) : Prop where
  g : Gr0 G H G' H'
  h0 : H l = none
  gn : G' l = none
  ex : ∃ vs, H' l = some (.lst vs) ∧ DVs G' vs ds
section
variable {G H G' H' G2 H2 : Hp} {l : Addr} {ds : List PyData} {K : PySem.W.Frag} {σ : L2.St} {te : TE} {i : Nat} {d : PyData} {D : Ends}
theorem Own.start (g : Gr0 G H G' H') (h : H' l = none) : Own G H G' (upd H' l (.lst [])) l [] := ⟨g.wr (.inl (g.th _ h)) (g.gh.free h), g.th _ h, g.gh.free h, [], upd_same, .nil⟩
theorem Own.grow (O : Own G H G' H' l ds) (g : Gr0 G' H' G2 H2) : Own G H G2 H2 l ds := by
  obtain ⟨vs, h1, h2⟩ := O.ex
  exact ⟨O.g.trans g, O.h0, g.out O.gn h1, vs, g.same _ _ h1, h2.mono g.gg⟩
theorem Own.fin (O : Own G H G' H' l ds) : ∃ G2, Gr0 G H G2 H' ∧ DV G2 (.ref l) (.list ds) ∧ Same G' G2 := by
  obtain ⟨vs, h1, h2⟩ := O.ex
  have s := same_upd (o := .lst vs) O.gn
  exact ⟨upd G' l (.lst vs), O.g.sho O.h0 h1, .lst upd_same (h2.mono s), s⟩
theorem app_ow (O : Own G H G' H' l ds) (hσ : σ[i]? = some (some (.ref l))) (h : Is te σ G' (dat d)) (hz : ds.length < 100000) (k : ∀ G2 H2, Own G H G2 H2 l (ds ++ [d]) → Same G' G2 → D.nx σ H2) : tDrop (tBM K "list" rAppend (tVar i) (tCons te tNil)) D σ H' := by
  obtain ⟨vs, h1, h2⟩ := O.ex
  refine app_own hσ h1 O.gn h O.g.gh (by rw [h2.length]; exact hz) fun v G3 H3 g3 pv gn hv => ?_
  exact k G3 _ ⟨(O.g.trans g3).wr (.inl O.h0) gn, O.h0, gn, _, upd_same, (h2.mono g3.gg).append (.one pv)⟩ g3.gg
theorem par_own {p : Pm} {j : Nat} (h : Is te σ G p) (s : Same G H) (k : ∀ v G2 H2, Gr0 G H G2 H2 → p.P v G2 → ∀ l, H2 l = none → D.nx ((σ.set i (some v)).set j (some (.ref l))) (upd H2 l (.lst []))) : tPar i j (tCons te (tCons (tLst tNil) tNil)) D σ H :=
  h G H (Same.refl _) s _ fun v G2 H2 g2 pv => ⟨Nat.zero_le _, fun l hl => ⟨v, .ref l, rfl, k v G2 H2 g2 pv l hl⟩⟩
theorem par_is {p q : Pm} {j : Nat} {te2 : TE} (h : Is te σ G p) (h2 : Is te2 σ G q) (s : Same G H) (k : ∀ v w G2 H2, Gr0 G H G2 H2 → p.P v G2 → q.P w G2 → D.nx ((σ.set i (some v)).set j (some w)) H2) : tPar i j (tCons te (tCons te2 tNil)) D σ H :=
  h G H (Same.refl _) s _ fun v G2 H2 g2 pv => h2 G2 H2 g2.gg g2.gh _ fun w G3 H3 g3 pw => ⟨v, w, rfl, k v w G3 H3 (g2.trans g3) (p.mono _ _ _ g3.gg pv) pw⟩
theorem isa_star {es : List PyData} {t : TA} (h : Is te σ G (dat (.list ds))) (hr : IsA t σ G (es.map dat)) : IsA (StX.tStar K te t) σ G ((ds ++ es).map dat) := fun G1 H1 s1 s2 Q k =>
  h G1 H1 s1 s2 _ fun x G3 H3 g3 px => by
    obtain ⟨a, xs, rfl, ha, dv⟩ := px.lst_inv
    refine ⟨a, xs, rfl, .inr (SqL.of (g3.gh _ _ ha)), ?_⟩
    exact hr G3 H3 (s1.trans g3.gg) g3.gh _ fun ys G4 H4 g4 py => k _ G4 H4 (g3.trans g4) (allp_of ((dv.mono g4.gg).append (allp_dat py)))
end
end Yd
namespace StX
open PySem PySem.Spec L2
theorem pa_starK {X : Cx} {K : PySem.W.Frag} (h : X.K = K) {e : Expr} {es : List Expr} {te : TE} {t : TA} {p : Pos} (he : PE X e te) (hr : PA X es t) (hs : starEach (.Starred e p :: es) X.env = (true, eval e X.env) :: starEach es X.env := by rfl) : PA X (.Starred e p :: es) (tStar K te t) := h ▸ pa_star he hr hs
end StX
namespace Yd
open PySem PySem.Spec L2
open PySem.W (AllAlike Sortable)
theorem mt_indexDK {X : Cx} {K : PySem.W.Frag} (h : X.K = K) (hu : X.A.units + 70 < cLine) : MtR X "list.index" (rIndexD K) := h ▸ mt_indexD (by omega)
def preWebOfLines (K : PySem.W.Frag) : List V → Hp → Pm → Prop := fun vs G p => ∃ L k, KindOk k ∧ L.length ≤ 32 ∧ AllP [dat (.list (L.map rd)), dat (.str k)] vs G ∧ p = web K L.length (rsort (lineEdges L k))
def preWebOfPairs (K : PySem.W.Frag) : List V → Hp → Pm → Prop := fun vs G p => ∃ ps k, KindOk k ∧ ps.length ≤ 32 ∧ (∀ p ∈ ps, p.2.length ≤ 1000) ∧ AllP [dat (.list (ps.map prD)), dat (.str k)] vs G ∧ p = web K ps.length (rsort (pairEdges ps k))
/-- closed_pairs, pairs: all of the answer is new -/
def spPairs (K : PySem.W.Frag) : Sp := fun vs H Q _ => ∃ G m ms k, Same G H ∧ m ≤ 5 ∧ ms.length ≤ 1024 ∧ KindOk k ∧ AllP [web K m ms, dat (.str k)] vs G ∧ ∀ v F H2, Gr0 nilH H F H2 → DV F v (.list ((pairsL m k ms).map prD)) → Q v H2
theorem pairs_32 {m : Nat} {k : Str} {ms : List Road} (h : m ≤ 5) : (pairsL m k ms).length ≤ 32 := Nat.le_trans pairs_len (Nat.le_trans (Nat.pow_le_pow_right (by decide) h) (by decide))
def preRoadDyes (K : PySem.W.Frag) : List V → Hp → Pm → Prop := fun vs G p => ∃ m ms k, m ≤ 5 ∧ ms.length ≤ 1024 ∧ KindOk k ∧ AllP [web K m ms, dat (.str k)] vs G ∧ p = web K (pairsL m k ms).length (rsort (pairEdges (pairsL m k ms) k))
def preCheckDyed (K : PySem.W.Frag) : List V → Hp → Pm → Prop := fun vs G p => ∃ n ls k m ms, KindOk k ∧ AllP [web K n ls, dat (.str k), web K m ms] vs G ∧ p = dat .none
theorem is_callP {K : PySem.W.Frag} {σ : L2.St} {G : Hp} {ta : TA} {m : Nat} {ms : List Road} {k : Str} {E : XK} (h : IsA ta σ G [web K m ms, dat (.str k)]) (hm : m ≤ 5) (hz : ms.length ≤ 1024) (hk : KindOk k) : Is (tCall (spPairs K) [] E ta) σ G (dat (.list ((pairsL m k ms).map prD))) := fun G1 H1 s1 s2 Q kk =>
  h G1 H1 s1 s2 _ fun vs G2 H2 g2 pv => by
    rw [List.append_nil]
    refine ⟨G2, m, ms, k, g2.gh, hm, hz, hk, pv, fun v F H3 g3 dv => ?_⟩
    exact kk v _ H3 (g2.trans (Gr.uniR g2.gh g3)) (dv.mono (uni_sr (fresh_out g2.gh g3)))
theorem pairs_small {m : Nat} {k : Str} {ms : List Road} (hm : m ≤ 5) {p : List Nat × List Nat} (h : p ∈ pairsL m k ms) : p.2.length ≤ 1000 := by
  obtain ⟨a, b⟩ := p
  obtain ⟨_, _, rfl⟩ := mem_pairs.mp h
  have := List.length_filter_le (fun p => a.all fun s => decide ((k, s, p) ∈ ms)) (List.range m)
  rw [List.length_range] at this
  show ((List.range m).filter _).length ≤ 1000
  omega
theorem line_row {L : List Road} {k : Str} {i : Nat} : outI L.length (fun j => decide (((L.getD j d0).2.1 : Int) = ((L.getD i d0).2.2 : Int))) (fun j => rd (k, i, j)) = (lineRow L k i).map rd := by
  unfold outI lineRow
  rw [List.map_map]
  refine congrArg (List.map _) (List.filter_congr fun j _ => ?_)
  exact decide_eq_decide.mpr ⟨fun h => by omega, fun h => by omega⟩
theorem flat_succ {α : Type} (f : Nat → List α) (i : Nat) : (List.range (i + 1)).flatMap f = (List.range i).flatMap f ++ f i := by
  rw [List.range_succ, List.flatMap_append, List.flatMap_singleton]
theorem getD_get {α : Type} {xs : List α} {i : Nat} {a d : α} (h : xs[i]? = some a) : a = xs.getD i d := by rw [List.getD_eq_getElem?_getD, h]; rfl
theorem pair_row_succ (ps : List (List Nat × List Nat)) (k : Str) (i j : Nat) : (((List.range (j + 1)).filter fun j => (ps.getD i ([], [])).2.any fun x => decide (x ∈ (ps.getD j ([], [])).1)).map fun j => ((k, i, j) : Road)) =
    (((List.range j).filter fun j => (ps.getD i ([], [])).2.any fun x => decide (x ∈ (ps.getD j ([], [])).1)).map fun j => ((k, i, j) : Road)) ++ if ((ps.getD i ([], [])).2.any fun x => decide (x ∈ (ps.getD j ([], [])).1)) = true then [(k, i, j)] else [] := by
  rw [List.range_succ, List.filter_append, List.map_append]
  congr 1
  cases c : (ps.getD i ([], [])).2.any fun x => decide (x ∈ (ps.getD j ([], [])).1) with
  | true => rw [List.filter_cons, if_pos c, if_pos rfl]; rfl
  | false => rw [List.filter_cons, if_neg (by rw [c]; exact Bool.false_ne_true), if_neg Bool.false_ne_true]; rfl
theorem filter_any (p : Nat → Bool) (l : List Nat) : (!(l.filter p).isEmpty) = l.any p := by
  rw [Bool.eq_iff_iff, List.any_eq_true]
  constructor
  · intro h
    cases q : l.filter p with
    | nil => rw [q] at h; cases h
    | cons x xs =>
      have : x ∈ l.filter p := by rw [q]; exact List.mem_cons_self
      exact ⟨x, (List.mem_filter.mp this).1, (List.mem_filter.mp this).2⟩
  · rintro ⟨x, h1, h2⟩
    have : x ∈ l.filter p := List.mem_filter.mpr ⟨h1, h2⟩
    cases q : l.filter p with
    | nil => rw [q] at this; cases this
    | cons _ _ => rfl
section
variable {P : Program} {w : World} {K : PySem.W.Frag} {mg : Str → Option Value} {base : Heap}
theorem sc_web_of_lines : FnScope ["lines", "kind", "found", "start", "near", "end", "far"] ["lines", "kind"] (defScope (top 29)) := ⟨rfl, rfl, rfl, by decide +kernel, rfl, by decide +kernel, by decide +kernel⟩
theorem has_web_of_lines (T : Tx K mg) : Has P w K mg base CX0 8 "web_of_lines" ["lines", "kind"] (PureSp (preWebOfLines K)) := by
  refine T.has 15 (fun fd F => F.ok sc_web_of_lines (fun vs H Q E h => ?_) fun cdv A outer s H vs Q E hr h => ?_) (fun fd F => F.bindsN fun _ _ _ _ _ _ us hl => match us, hl with | [_, _], _ => rfl)
  · obtain ⟨G, p, _, ⟨_, _, _, _, a, _⟩, _⟩ := h; exact a.len
  · obtain ⟨G, p, z, ⟨L, kd, hk, hL, a, rfl⟩, k⟩ := h
    obtain ⟨v, u, rfl, hv, hu⟩ := allp2 a
    refine ⟨_, PSs.nox (pss_cons (ps_set (i := 2) sc_web_of_lines.nd rfl (by first | exact Or.inl rfl | exact Or.inr rfl) (pe_lst (pa_nil)))
      (pss_cons (ps_for PassesOwn.never rfl (pi_enumK (K := K) rfl (by rfl) (T.free "enumerate") (pa_cons (pv 0) (pa_nil))) (pg_tupK (K := K) (n := 2) rfl rfl (pgs_cons (pg_name (i := 3) sc_web_of_lines.nd rfl (by first | exact Or.inl rfl | exact Or.inr rfl)) (pgs_cons (pg_name (i := 4) sc_web_of_lines.nd rfl (by first | exact Or.inl rfl | exact Or.inr rfl)) (pgs_nil)))) (pss_one (ps_set (i := 2) sc_web_of_lines.nd rfl (by first | exact Or.inl rfl | exact Or.inr rfl) (pe_op op_addU (pv 2) (pe_lc (own := [("end", 5), ("far", 6)]) rfl sc_web_of_lines.nd (pi_enumK (K := K) rfl (by rfl) (T.free "enumerate") (pa_cons (pv 0) (pa_nil))) (blkOk_by (by rfl)) (fun _ _ _ _ _ => pg_tupK (K := K) (n := 2) rfl rfl (pgs_cons (pg_name (i := 5) sc_web_of_lines.nd rfl (by first | exact Or.inl rfl | exact Or.inr rfl)) (pgs_cons (pg_name (i := 6) sc_web_of_lines.nd rfl (by first | exact Or.inl rfl | exact Or.inr rfl)) (pgs_nil)))) (fun _ _ _ _ _ => pts_one (pt_cmpR (op_eqDK (K := K) rfl (un70 hr)) (pe_ix (ix_seqK (K := K) rfl) (pv 6) (pe_int) (fun _ _ => rfl)) (pe_ix (ix_seqK (K := K) rfl) (pv 4) (pe_int) (fun _ _ => rfl)) (nomark _))) (fun _ _ _ _ _ => pe_tup (pa_cons (pv 1) (pa_cons (pv 3) (pa_cons (pv 5) (pa_nil))))))))))
      (pss_one (ps_ret (pe_makeK (K := K) rfl T (has_Web___init T) (hr.mono (by decide)) (pa_cons (pe_callB (call_lenK (K := K) rfl) (by rfl) (T.free "len") (by decide +kernel) (pa_cons (pv 0) (pa_nil))) (pa_cons (pv 2) (pa_nil)))))))), ?_⟩
    refine set_is (is_lst (ds := []) isa_nil (Nat.zero_le _)) z fun f0 G0 H0 g0 pf => ?_
    have rl : ∀ i, i ≤ L.length → ((List.range i).flatMap (lineRow L kd)).length ≤ 1024 := fun i hi => Nat.le_trans (rows_len L.length kd _ i) (Nat.le_trans (Nat.mul_le_mul (Nat.le_trans hi hL) hL) (by decide))
    refine for_enm (ds := L.map rd) (isa_cons (is_d rfl (hv.mono g0.gg)) isa_nil) g0.gh (fun i σ' G' H' => ∃ a b f, σ' = [some v, some u, some f, a, b, none, none] ∧ Gr0 G H G' H' ∧ DV G' f (.list (((List.range i).flatMap (lineRow L kd)).map rd)))
      (fun G1 H1 g1 => ⟨_, _, _, rfl, g0.trans g1, pf.mono g1.gg⟩) (fun i σ' G' H' G3 H3 ⟨a, b, f, e, g, df⟩ g3 => ⟨a, b, f, e, g.trans g3, df.mono g3.gg⟩) ?_ ?_
    · rintro i x d T1 σ' G' H' hi hx hT zs zg ⟨a0, b0, f, rfl, g, df⟩
      rw [List.getElem?_map, Option.map_eq_some_iff] at hi
      obtain ⟨r, hri, rfl⟩ := hi
      have hil : i < L.length := (List.getElem?_eq_some_iff.mp hri).1
      have er := getD_get (d := d0) hri
      refine ⟨_, gt_tup2 hT, fun N hN => ?_⟩
      have hv' := hv.mono g.gg
      have hu' := hu.mono g.gg
      refine set_is (p := dat (.list (((List.range (i + 1)).flatMap (lineRow L kd)).map rd))) (Is.eqd (is_op (is_d rfl df) (is_lcE (ds := L.map rd) (f := fun j => decide (((L.getD j d0).2.1 : Int) = ((L.getD i d0).2.2 : Int))) (o := fun j => rd (kd, i, j)) (isa_cons (is_d rfl hv') isa_nil) (by rw [List.length_map]; omega) fun j y d T2 G1 hj s1 hy hT2 => ?_) (ri_addL ?_)) ?_) zs fun f2 G2 H2 g2 pf2 => hN _ G2 H2 g2.gg g2.gh ⟨_, _, _, rfl, g.trans g2, pf2⟩
      · rw [List.getElem?_map, Option.map_eq_some_iff] at hj
        obtain ⟨q, hqj, rfl⟩ := hj
        have eq := getD_get (d := d0) hqj
        refine ⟨_, gt_tup2 hT2, rfl, IsT.eqb (ist_test (is_op (is_op (is_d rfl hy) (is_int 1) (ri_ixT (j := 1) rfl rfl)) (is_op (is_d rfl (hx.mono s1)) (is_int 2) (ri_ixT (j := 2) rfl rfl)) (ri_eqD (Sd.sh (n := 1) (sd_int _)) (Sd.sh (n := 1) (sd_int _))))) ?_, fun _ => is_tup (ds := [.str kd, .int (i : Int), .int (j : Int)]) (isa_cons (is_d rfl (hu'.mono s1)) (isa_cons (is_d rfl (.int _)) (isa_cons (is_d rfl (.int _)) isa_nil))) (by simp)⟩
        rw [eqv_int, er, eq]
      · rw [List.length_map, List.length_map, line_row, List.length_map]
        have h1 := rl i (by omega)
        have h2 := rl (i + 1) (by omega)
        rw [flat_succ, List.length_append] at h2
        omega
      · rw [List.length_map, line_row, flat_succ, List.map_append]
    · rintro σ' G' H' zs zg ⟨a0, b0, f, rfl, g, df⟩
      rw [List.length_map] at df
      dsimp only
      refine ret_is (is_make (isa_cons (is_cb (isa_cons (is_d rfl (hv.mono g.gg)) isa_nil) (by have := rc_lenL (K := K) (G := G') (ds := L.map rd); rw [List.length_map] at this; exact this)) (isa_cons (is_d rfl df) isa_nil)) (lineWeb_ok hk hL)) zs fun v G3 H3 g3 pv => k v G3 H3 (g.trans g3) pv

theorem sc_web_of_pairs : FnScope ["some", "kind", "found", "start", "near", "end", "far", "place"] ["some", "kind"] (defScope (top 34)) := ⟨rfl, rfl, rfl, by decide +kernel, rfl, by decide +kernel, by decide +kernel⟩
theorem has_web_of_pairs (T : Tx K mg) : Has P w K mg base CX0 8 "web_of_pairs" ["some", "kind"] (PureSp (preWebOfPairs K)) := by
  refine T.has 20 (fun fd F => F.ok sc_web_of_pairs (fun vs H Q E h => ?_) fun cdv A outer s H vs Q E hr h => ?_) (fun fd F => F.bindsN fun _ _ _ _ _ _ us hl => match us, hl with | [_, _], _ => rfl)
  · obtain ⟨G, p, _, ⟨_, _, _, _, _, a, _⟩, _⟩ := h; exact a.len
  · obtain ⟨G, p, z, ⟨ps, kd, hk, hL, hps, a, rfl⟩, k⟩ := h
    obtain ⟨v, u, rfl, hv, hu⟩ := allp2 a
    refine ⟨_, PSs.nox (pss_cons (ps_set (i := 2) sc_web_of_pairs.nd rfl (by first | exact Or.inl rfl | exact Or.inr rfl) (pe_lst (pa_nil)))
      (pss_cons (ps_for PassesOwn.never rfl (pi_enumK (K := K) rfl (by rfl) (T.free "enumerate") (pa_cons (pv 0) (pa_nil))) (pg_tupK (K := K) (n := 2) rfl rfl (pgs_cons (pg_name (i := 3) sc_web_of_pairs.nd rfl (by first | exact Or.inl rfl | exact Or.inr rfl)) (pgs_cons (pg_name (i := 4) sc_web_of_pairs.nd rfl (by first | exact Or.inl rfl | exact Or.inr rfl)) (pgs_nil)))) (pss_one (ps_for PassesOwn.never rfl (pi_enumK (K := K) rfl (by rfl) (T.free "enumerate") (pa_cons (pv 0) (pa_nil))) (pg_tupK (K := K) (n := 2) rfl rfl (pgs_cons (pg_name (i := 5) sc_web_of_pairs.nd rfl (by first | exact Or.inl rfl | exact Or.inr rfl)) (pgs_cons (pg_name (i := 6) sc_web_of_pairs.nd rfl (by first | exact Or.inl rfl | exact Or.inr rfl)) (pgs_nil)))) (pss_one (ps_if (pt_cmpR (op_neDK (K := K) rfl (un70 hr)) (pe_lc (own := [("place", 7)]) rfl sc_web_of_pairs.nd (pi_listK (K := K) rfl (pe_ix (ix_seqK (K := K) rfl) (pv 4) (pe_int) (fun _ _ => rfl))) (blkOk_by (by rfl)) (fun _ _ _ _ _ => pg_name (i := 7) sc_web_of_pairs.nd rfl (by first | exact Or.inl rfl | exact Or.inr rfl)) (fun _ _ _ _ _ => pts_one (pt_cmpR (op_inDK (K := K) rfl (un70 hr)) (pv 7) (pe_ix (ix_seqK (K := K) rfl) (pv 6) (pe_int) (fun _ _ => rfl)) (by rfl))) (fun _ _ _ _ _ => pv 7)) (pe_lst (pa_nil)) (nomark _)) (pss_one (ps_expr (pe_bm PySem.F.plainAttrs_list PySem.F.slot_list_append PySem.F.type_list_append mt_append (pv 2) (pa_cons (pe_tup (pa_cons (pv 1) (pa_cons (pv 3) (pa_cons (pv 5) (pa_nil))))) (pa_nil))))) (pss_nil))))))
      (pss_one (ps_ret (pe_makeK (K := K) rfl T (has_Web___init T) (hr.mono (by decide)) (pa_cons (pe_callB (call_lenK (K := K) rfl) (by rfl) (T.free "len") (by decide +kernel) (pa_cons (pv 0) (pa_nil))) (pa_cons (pv 2) (pa_nil)))))))), ?_⟩
    have rl : ∀ i, i ≤ ps.length → ((List.range i).flatMap (pairRow ps kd)).length ≤ 1024 := fun i hi => Nat.le_trans (rows_len ps.length kd _ i) (Nat.le_trans (Nat.mul_le_mul (Nat.le_trans hi hL) hL) (by decide))
    refine ⟨Nat.zero_le _, fun l hl => ?_⟩
    have O0 := Own.start (.refl z) hl
    refine for_enm (ds := ps.map prD) (isa_cons (is_d rfl hv) isa_nil) O0.g.gh (fun i σ' G' H' => (∃ a b c d, σ' = [some v, some u, some (.ref l), a, b, c, d, none]) ∧ Own G H G' H' l (((List.range i).flatMap (pairRow ps kd)).map rd))
      (fun G1 H1 g1 => ⟨⟨_, _, _, _, rfl⟩, O0.grow g1⟩) (fun i σ' G' H' G3 H3 ⟨e, O⟩ g3 => ⟨e, O.grow g3⟩) ?_ ?_
    · rintro i x d T1 σ' G' H' hi hx hT zs zg ⟨⟨a0, b0, c0, d0', rfl⟩, O⟩
      rw [List.getElem?_map, Option.map_eq_some_iff] at hi
      obtain ⟨r, hri, rfl⟩ := hi
      have hil : i < ps.length := (List.getElem?_eq_some_iff.mp hri).1
      have er := getD_get (d := ([], [])) hri
      refine ⟨_, gt_tup2 hT, fun N hN => ?_⟩
      refine for_enm (ds := ps.map prD) (isa_cons (is_d rfl (hv.mono O.g.gg)) isa_nil) zs (fun j σ' G2 H2 => (∃ c d, σ' = [some v, some u, some (.ref l), some (.int (i : Int)), some x, c, d, none]) ∧ Same G' G2 ∧ Own G H G2 H2 l (((List.range i).flatMap (pairRow ps kd) ++ (((List.range j).filter fun j => (ps.getD i ([], [])).2.any fun x => decide (x ∈ (ps.getD j ([], [])).1)).map fun j => ((kd, i, j) : Road))).map rd))
        (fun G1 H1 g1 => ⟨⟨_, _, rfl⟩, g1.gg, by simpa using O.grow g1⟩) (fun j σ' G2 H2 G3 H3 ⟨e, s, O⟩ g3 => ⟨e, s.trans g3.gg, O.grow g3⟩) ?_ ?_
      · rintro j y d T2 σ2 G2 H2 hj hy hT2 zs2 zg2 ⟨⟨c1, d1, rfl⟩, s2, O2⟩
        rw [List.getElem?_map, Option.map_eq_some_iff] at hj
        obtain ⟨q, hqj, rfl⟩ := hj
        have hjl : j < ps.length := (List.getElem?_eq_some_iff.mp hqj).1
        have eq := getD_get (d := ([], [])) hqj
        have hx2 := hx.mono s2
        refine ⟨_, gt_tup2 hT2, fun N2 hN2 => ?_⟩
        refine if_is (b := (ps.getD i ([], [])).2.any fun x => decide (x ∈ (ps.getD j ([], [])).1)) (IsT.eqb (ist_test (is_op (is_lcA (fun n : Nat => PyData.int (n : Int)) (xs := r.2) (p := fun x => decide (x ∈ q.1)) (q := fun n : Nat => PyData.int (n : Int)) (is_op (is_d rfl hx2) (is_int 1) (ri_ixT (j := 1) rfl rfl)) ?_ fun w m G3 hm s3 hw => ⟨_, gt_name, rfl, IsT.eqb (ist_test (is_op (is_d rfl hw) (is_op (is_d rfl (hy.mono s3)) (is_int 0) (ri_ixT (j := 0) rfl rfl)) (ri_inD (Sd.sh (n := 1) (sd_int _)) (Sd.sh (n := 1) (sd_nums _))))) (any_nat _ _), fun _ => is_d rfl hw⟩) (is_lst (ds := []) isa_nil (Nat.zero_le _)) (ri_neD (Sd.sh (n := 1) (sd_nums _)) (Sd.sh (n := 1) sd_nil)))) ?_) zs2 (fun hb G3 H3 g3 => ?_) fun hb G3 H3 g3 => ?_
        · have := hps r (List.mem_of_getElem? hri); omega
        · rw [eqv_nil, List.isEmpty_map, filter_any, er, eq]
        · refine app_ow (O2.grow g3) rfl (is_tup (ds := [.str kd, .int (i : Int), .int (j : Int)]) (isa_cons (is_d rfl (hu.mono (O2.g.gg.trans g3.gg))) (isa_cons (is_d rfl (.int _)) (isa_cons (is_d rfl (.int _)) isa_nil))) (by simp)) ?_ fun G4 H4 O4 s4 => hN2 _ G4 H4 (g3.gg.trans s4) O4.g.gh ⟨⟨_, _, rfl⟩, s2.trans (g3.gg.trans s4), ?_⟩
          · rw [List.length_map, List.length_append, List.length_map]
            have h1 := rl i (by omega)
            have h2 := List.length_filter_le (fun j => (ps.getD i ([], [])).2.any fun x => decide (x ∈ (ps.getD j ([], [])).1)) (List.range j)
            rw [List.length_range] at h2
            omega
          · rw [pair_row_succ, if_pos hb, ← List.append_assoc, List.map_append]
            exact O4
        · refine hN2 _ G3 H3 g3.gg g3.gh ⟨⟨_, _, rfl⟩, s2.trans g3.gg, ?_⟩
          rw [pair_row_succ, if_neg (by rw [hb]; exact Bool.false_ne_true), List.append_nil]
          exact O2.grow g3
      · rintro σ2 G2 H2 zs2 zg2 ⟨⟨c1, d1, rfl⟩, s2, O2⟩
        rw [List.length_map] at O2
        refine hN _ G2 H2 s2 zs2 ⟨⟨_, _, _, _, rfl⟩, ?_⟩
        rw [flat_succ]
        exact O2
    · rintro σ' G' H' zs zg ⟨⟨a0, b0, c0, d0', rfl⟩, O⟩
      rw [List.length_map] at O
      obtain ⟨G2, g2, dv, s2⟩ := O.fin
      dsimp only
      refine ret_is (is_make (isa_cons (is_cb (isa_cons (is_d rfl (hv.mono g2.gg)) isa_nil) (by have := rc_lenL (K := K) (G := G2) (ds := ps.map prD); rw [List.length_map] at this; exact this)) (isa_cons (is_d rfl dv) isa_nil)) (pairWeb_ok hk hL)) g2.gh fun v G3 H3 g3 pv => k v G3 H3 (g2.trans g3) pv

theorem sc_closed_pairs : FnScope ["dyes", "kind", "lots", "found", "place", "lot", "begins"] ["dyes", "kind"] (defScope (top 32)) := ⟨rfl, rfl, rfl, by decide +kernel, rfl, by decide +kernel, by decide +kernel⟩
theorem has_closed_pairs (T : Tx K mg) : Has P w K mg base CX0 2 "closed_pairs" ["dyes", "kind"] (spPairs K) := by
  refine T.has 18 (fun fd F => F.ok sc_closed_pairs (fun vs H Q E h => ?_) fun cdv A outer s H vs Q E hr h => ?_) (fun fd F => F.bindsN fun _ _ _ _ _ _ us hl => match us, hl with | [_, _], _ => rfl)
  · obtain ⟨G, m, ms, kd, _, _, _, _, a, _⟩ := h; exact a.len
  · obtain ⟨G, m, ms, kd, z, hm, hz, hk, a, k⟩ := h
    obtain ⟨v, u, rfl, hv, hu⟩ := allp2 a
    refine ⟨_, PSs.nox (pss_cons (ps_par (i := 2) (j := 3) rfl sc_closed_pairs.nd rfl rfl (by decide) rfl rfl (pa_cons (pe_lst (pa_cons (pe_lst (pa_nil)) (pa_nil))) (pa_cons (pe_lst (pa_nil)) (pa_nil))) (by rfl))
      (pss_cons (ps_for PassesOwn.never rfl (pi_range1 rfl (T.free "range") (pa_cons (pe_fldK (K := K) rfl (pv 0) rfl) (pa_nil))) (pg_name (i := 4) sc_closed_pairs.nd rfl (by first | exact Or.inl rfl | exact Or.inr rfl)) (pss_one (ps_set (i := 2) sc_closed_pairs.nd rfl (by first | exact Or.inl rfl | exact Or.inr rfl) (pe_op op_addU (pv 2) (pe_lc (own := [("lot", 5)]) rfl sc_closed_pairs.nd (pi_listK (K := K) rfl (pv 2)) (blkOk_by (by rfl)) (fun _ _ _ _ _ => pg_name (i := 5) sc_closed_pairs.nd rfl (by first | exact Or.inl rfl | exact Or.inr rfl)) (fun _ _ _ _ _ => pts_nil) (fun _ _ _ _ _ => pe_lst (StX.pa_starK (K := K) rfl (pv 5) (pa_cons (pv 4) (pa_nil)))))))))
      (pss_cons (ps_for PassesOwn.never rfl (pi_listK (K := K) rfl (pe_callB (cr_sortD (un70 hr)) (by rfl) (T.free "sorted") (by decide +kernel) (pa_cons (pv 2) (pa_nil)))) (pg_name (i := 5) sc_closed_pairs.nd rfl (by first | exact Or.inl rfl | exact Or.inr rfl)) (pss_cons (ps_set (i := 6) sc_closed_pairs.nd rfl (by first | exact Or.inl rfl | exact Or.inr rfl) (pe_callH (has_all_ahead T) (hr.mono (by decide)) pass0 (pa_cons (pv 0) (pa_cons (pv 1) (pa_cons (pv 5) (pa_nil))))))
        (pss_one (ps_if (pt_cmpR (op_eqDK (K := K) rfl (un70 hr)) (pe_callH (has_all_behind T) (hr.mono (by decide)) pass0 (pa_cons (pv 0) (pa_cons (pv 1) (pa_cons (pv 6) (pa_nil))))) (pv 5) (nomark _)) (pss_one (ps_expr (pe_bm PySem.F.plainAttrs_list PySem.F.slot_list_append PySem.F.type_list_append mt_append (pv 3) (pa_cons (pe_tup (pa_cons (pv 5) (pa_cons (pv 6) (pa_nil)))) (pa_nil))))) (pss_nil)))))
      (pss_one (ps_ret (pv 3)))))), ?_⟩
    have p32 : ∀ j, j ≤ m → (subs j).length ≤ 32 := fun j hj => by rw [subs_len]; exact Nat.le_trans (Nat.pow_le_pow_right (by decide) (Nat.le_trans hj hm)) (by decide)
    refine par_own (G := nilH) (is_lst (ds := [.list []]) (isa_cons (is_lst (ds := []) isa_nil (Nat.zero_le _)) isa_nil) (by simp)) (nil_same H) fun lv F1 H1 g1 pl fl hfl => ?_
    have O0 := Own.start g1 hfl
    have sG : ∀ {F' H' : Hp}, Gr0 nilH H F' H' → Same G H' := fun g => z.trans g.same
    refine for_rng (n := m) (isa_cons (is_many T (is_var rfl hv)) isa_nil) (by omega) (sG O0.g) (fun i σ' G' H' => ∃ F' lv p, σ' = [some v, some u, some lv, some (.ref fl), p, none, none] ∧ Own nilH H F' H' fl [] ∧ DV F' lv (.list ((subs i).map nums)))
      (fun G1 H1' g1' => ⟨F1, lv, _, rfl, O0.grow (g1'.hidE O0.g.gh), pl⟩) ?_ ?_
    · rintro i σ' G' H' hi zs zg ⟨F', lv', p', rfl, O, dl⟩
      refine ⟨_, gt_name, fun N hN => ?_⟩
      have hl2 := p32 (i + 1) (by omega)
      have hl1 := p32 i (by omega)
      refine set_is (is_op (is_d rfl dl) (is_lcA nums (xs := subs i) (p := fun _ => true) (q := fun xs => nums (xs ++ [i])) (is_d rfl dl) (by omega) fun x xs F2 hxs s2 hx => ⟨_, gt_name, rfl, fun G2 H2 _ s4 Q q => q G2 H2 (.refl s4), fun _ => Is.eqd (is_lst (ds := (xs.map fun n : Nat => PyData.int (n : Int)) ++ [.int (i : Int)]) (isa_star (is_d rfl hx) (isa_cons (is_d rfl (.int _)) isa_nil)) ?_) ?_⟩) (ri_addL ?_)) O.g.gh fun lv2 F2 H2 g2 p2 => hN _ G' H2 (Same.refl _) (zs.trans g2.same) ⟨F2, lv2, _, rfl, O.grow g2, ?_⟩
      · obtain ⟨h1, h2⟩ := mem_subs.mp hxs
        have := asc_len h1 h2
        rw [List.length_append, List.length_map]
        simp only [List.length_cons, List.length_nil]; omega
      · show PyData.list _ = .list _
        rw [List.map_append]; rfl
      · rw [List.length_map, List.length_map]
        have := List.length_filter_le (fun _ : List Nat => true) (subs i)
        omega
      · have e : (subs (i + 1)).map nums = (subs i).map nums ++ ((subs i).filter fun _ => true).map fun xs => nums (xs ++ [i]) := by
          rw [List.filter_eq_self.mpr fun _ _ => rfl]
          simp only [subs, List.map_append, List.map_map]; rfl
        rw [e]; exact p2
    · rintro σ' G' H' zs zg ⟨F', lv', p', rfl, O, dl⟩
      have hls := p32 m (Nat.le_refl _)
      have hss : (ssubs m).length ≤ 32 := by rw [ssubs_len, ← subs_len]; exact hls
      refine for_dat (ds := (ssubs m).map nums) (Is.eqd (is_cb (isa_cons (is_d rfl dl) isa_nil) (rc_sortD (alike_nums _) (sortable_nums _) (fun d hd => ?_) (by rw [List.length_map]; omega))) (congrArg PyData.list (dsort_nums _))) O.g.gh
        (fun i σ' F2 H2 => (∃ p x y, σ' = [some v, some u, some lv', some (.ref fl), p, x, y]) ∧ Own nilH H F2 H2 fl (((((ssubs m).take i).filter fun lot => decide (behindL m kd ms (aheadL m kd ms lot) = lot)).map fun lot => (lot, aheadL m kd ms lot)).map prD))
        (fun F2 H2 g2 => ⟨⟨_, _, _, rfl⟩, O.grow g2⟩) ?_ ?_
      · obtain ⟨xs, _, rfl⟩ := List.mem_map.mp hd
        exact ⟨noDict_nums _, depth_nums _⟩
      · rintro i y d σ2 F2 H2 hi hy zs2 zg2 ⟨⟨p2, x2, y2, rfl⟩, O2⟩
        rw [List.getElem?_map, Option.map_eq_some_iff] at hi
        obtain ⟨lot, hlot, rfl⟩ := hi
        have hmem : lot ∈ subs m := mem_ssubs.mp (List.mem_of_getElem? hlot)
        obtain ⟨hp1, hp2⟩ := mem_subs.mp hmem
        have hll := asc_len hp1 hp2
        have hil : i < (ssubs m).length := (List.getElem?_eq_some_iff.mp hlot).1
        refine ⟨_, gt_name, fun N hN => ?_⟩
        have sF := uni_sr (fresh_out z O2.g)
        have sU := uni_s (sG O2.g) O2.g.gh
        -- begins = all_ahead(dyes, kind, lot)
        refine ⟨_, rfl, _, rfl, _, rfl, ?_⟩
        refine ⟨uni G F2, m, ms, kd, lot, sU, by omega, hz, by omega, ⟨_, _, rfl, (web K m ms).mono _ _ _ uni_sl hv, _, _, rfl, hu.mono uni_sl, _, _, rfl, hy.mono sF, rfl⟩, fun bl U3 H3 g3 e1 e2 e3 => ?_⟩
        have g4 : Gr0 F2 H2 (upd F2 bl (.lst ((aheadL m kd ms lot).map vN))) H3 := (g3.hidE O2.g.gh).sho e1 e3
        have O4 := O2.grow g4
        have db : DV (upd F2 bl (.lst ((aheadL m kd ms lot).map vN))) (.ref bl) (nums (aheadL m kd ms lot)) := .lst upd_same (dvs_nums _)
        have hy4 := hy.mono g4.gg
        have sF4 := uni_sr (fresh_out z O4.g)
        have sU4 := uni_s (sG O4.g) O4.g.gh
        have hal : (aheadL m kd ms lot).length ≤ 1000 := by
          have := List.length_filter_le (fun p => lot.all fun s => decide ((kd, s, p) ∈ ms)) (List.range m)
          rw [List.length_range] at this
          show ((List.range m).filter _).length ≤ 1000
          omega
        -- all_behind(dyes, kind, begins) == lot
        refine if_is (G := uni G (upd F2 bl (.lst ((aheadL m kd ms lot).map vN)))) (b := decide (behindL m kd ms (aheadL m kd ms lot) = lot)) (IsT.eqb (ist_test (is_op (is_call (s := dat (nums (behindL m kd ms (aheadL m kd ms lot)))) (isa_cons (is_var rfl ((web K m ms).mono _ _ _ uni_sl hv)) (isa_cons (is_d rfl (hu.mono uni_sl)) (isa_cons (is_d rfl (db.mono sF4)) isa_nil))) fun vs G5 _ a5 => ⟨m, ms, kd, aheadL m kd ms lot, by omega, hz, hal, a5, rfl⟩) (is_d rfl (hy4.mono sF4)) (ri_eqD (Sd.sh (n := 1) (sd_nums _)) (Sd.sh (n := 1) (sd_nums _))))) (eqv_nums _ _)) sU4 (fun hb U5 H5 g5 => ?_) fun hb U5 H5 g5 => ?_
        · have O5 := O4.grow (g5.hidE O4.g.gh)
          refine app_ow O5 rfl (is_tup (ds := [nums lot, nums (aheadL m kd ms lot)]) (isa_cons (is_d rfl hy4) (isa_cons (is_d rfl db) isa_nil)) (by simp)) ?_ fun F6 H6 O6 s6 => hN _ F6 H6 (g4.gg.trans s6) O6.g.gh ⟨⟨_, _, _, rfl⟩, ?_⟩
          · rw [List.length_map, List.length_map]
            have := List.length_filter_le (fun lot => decide (behindL m kd ms (aheadL m kd ms lot) = lot)) ((ssubs m).take i)
            rw [List.length_take] at this
            omega
          · rw [List.take_succ, hlot, List.filter_append, List.map_append, List.map_append]
            have e : [lot].filter (fun lot => decide (behindL m kd ms (aheadL m kd ms lot) = lot)) = [lot] := by rw [List.filter_cons, if_pos hb]; rfl
            show Own nilH H F6 H6 fl (_ ++ (([lot].filter _).map _).map prD)
            rw [e]
            exact O6
        · have O5 := O4.grow (g5.hidE O4.g.gh)
          refine hN _ _ H5 g4.gg O5.g.gh ⟨⟨_, _, _, rfl⟩, ?_⟩
          rw [List.take_succ, hlot, List.filter_append, List.map_append, List.map_append]
          have e : [lot].filter (fun lot => decide (behindL m kd ms (aheadL m kd ms lot) = lot)) = [] := by rw [List.filter_cons, if_neg (by rw [hb]; exact Bool.false_ne_true)]; rfl
          show Own nilH H _ H5 fl (_ ++ (([lot].filter _).map _).map prD)
          rw [e, List.map_nil, List.map_nil, List.append_nil]
          exact O5
      · rintro σ2 F2 H2 zs2 zg2 ⟨⟨p2, x2, y2, rfl⟩, O2⟩
        rw [List.length_map, List.take_length] at O2
        obtain ⟨F3, g3, dv, _⟩ := O2.fin
        exact ⟨_, rfl, k _ F3 H2 g3 dv⟩

theorem sc_pairs : FnScope ["dyes", "kind"] ["dyes", "kind"] (defScope (top 33)) := ⟨rfl, rfl, rfl, by decide +kernel, rfl, by decide +kernel, by decide +kernel⟩
theorem has_pairs (T : Tx K mg) : Has P w K mg base CX0 4 "pairs" ["dyes", "kind"] (spPairs K) := by
  refine T.has 19 (fun fd F => F.ok sc_pairs (fun vs H Q E h => ?_) fun cdv A outer s H vs Q E hr h => ?_) (fun fd F => F.bindsN fun _ _ _ _ _ _ us hl => match us, hl with | [_, _], _ => rfl)
  · obtain ⟨G, m, ms, kd, _, _, _, _, a, _⟩ := h; exact a.len
  · obtain ⟨G, m, ms, kd, z, hm, hz, hk, a, k⟩ := h
    obtain ⟨v, u, rfl, hv, hu⟩ := allp2 a
    refine ⟨_, PSs.nox (pss_cons (ps_expr (pe_callH (has_check_web T) (hr.mono (by decide)) pass0 (pa_cons (pv 0) (pa_nil))))
      (pss_cons (ps_expr (pe_callH (has_check_kind T) (hr.mono (by decide)) pass0 (pa_cons (pv 1) (pa_nil))))
      (pss_one (ps_ret (pe_callH (has_closed_pairs T) (hr.mono (by decide)) pass0 (pa_cons (pv 0) (pa_cons (pv 1) (pa_nil)))))))), ?_⟩
    refine drop_is (is_call (s := dat .none) (isa_cons (is_var rfl hv) isa_nil) fun vs G1 _ a => ⟨m, ms, a, rfl⟩) z fun _ G1 H1 g1 _ => ?_
    refine drop_is (is_call (s := dat .none) (isa_cons (is_d rfl (hu.mono g1.gg)) isa_nil) fun vs G1 _ a => ⟨kd, hk, a, rfl⟩) g1.gh fun _ G2 H2 g2 _ => ?_
    have g12 := g1.trans g2
    refine ⟨_, rfl, _, rfl, G2, m, ms, kd, g12.gh, hm, hz, hk, ⟨_, _, rfl, (web K m ms).mono _ _ _ g12.gg hv, _, _, rfl, hu.mono g12.gg, rfl⟩, fun v F H3 g3 dv => k v F H3 ?_ dv⟩
    exact (g12.hidE (nil_same H)).trans g3

theorem sc_road_dyes : FnScope ["dyes", "kind"] ["dyes", "kind"] (defScope (top 35)) := ⟨rfl, rfl, rfl, by decide +kernel, rfl, by decide +kernel, by decide +kernel⟩
theorem has_road_dyes (T : Tx K mg) : Has P w K mg base CX0 9 "road_dyes" ["dyes", "kind"] (PureSp (preRoadDyes K)) := by
  refine T.has 21 (fun fd F => F.ok sc_road_dyes (fun vs H Q E h => ?_) fun cdv A outer s H vs Q E hr h => ?_) (fun fd F => F.bindsN fun _ _ _ _ _ _ us hl => match us, hl with | [_, _], _ => rfl)
  · obtain ⟨G, p, _, ⟨_, _, _, _, _, _, a, _⟩, _⟩ := h; exact a.len
  · obtain ⟨G, p, z, ⟨m, ms, kd, hm, hz, hk, a, rfl⟩, k⟩ := h
    obtain ⟨v, u, rfl, hv, hu⟩ := allp2 a
    refine ⟨_, PSs.nox (pss_cons (ps_expr (pe_callH (has_check_web T) (hr.mono (by decide)) pass0 (pa_cons (pv 0) (pa_nil))))
      (pss_cons (ps_expr (pe_callH (has_check_kind T) (hr.mono (by decide)) pass0 (pa_cons (pv 1) (pa_nil))))
      (pss_one (ps_ret (pe_callH (has_web_of_pairs T) (hr.mono (by decide)) pass0 (pa_cons (pe_callH (has_closed_pairs T) (hr.mono (by decide)) pass0 (pa_cons (pv 0) (pa_cons (pv 1) (pa_nil)))) (pa_cons (pv 1) (pa_nil)))))))), ?_⟩
    refine drop_is (is_call (s := dat .none) (isa_cons (is_var rfl hv) isa_nil) fun vs G1 _ a => ⟨m, ms, a, rfl⟩) z fun _ G1 H1 g1 _ => ?_
    refine drop_is (is_call (s := dat .none) (isa_cons (is_d rfl (hu.mono g1.gg)) isa_nil) fun vs G1 _ a => ⟨kd, hk, a, rfl⟩) g1.gh fun _ G2 H2 g2 _ => ?_
    have g12 := g1.trans g2
    refine ret_is (is_call (isa_cons (is_callP (isa_cons (is_var rfl ((web K m ms).mono _ _ _ g12.gg hv)) (isa_cons (is_d rfl (hu.mono g12.gg)) isa_nil)) hm hz hk) (isa_cons (is_d rfl (hu.mono g12.gg)) isa_nil)) fun vs G3 _ a => ⟨pairsL m kd ms, kd, hk, pairs_32 hm, fun p hp => ?_, a, rfl⟩) g12.gh fun v G3 H3 g3 pv => k v G3 H3 (g12.trans g3) pv
    exact pairs_small hm hp

theorem sc_check_dyed : FnScope ["web", "kind", "dyes"] ["web", "kind", "dyes"] (defScope (top 36)) := ⟨rfl, rfl, rfl, by decide +kernel, rfl, by decide +kernel, by decide +kernel⟩
theorem has_check_dyed (T : Tx K mg) : Has P w K mg base CX0 4 "check_dyed" ["web", "kind", "dyes"] (PureSp (preCheckDyed K)) := by
  refine T.has 22 (fun fd F => F.ok sc_check_dyed (fun vs H Q E h => ?_) fun cdv A outer s H vs Q E hr h => ?_) (fun fd F => F.bindsN fun _ _ _ _ _ _ us hl => match us, hl with | [_, _, _], _ => rfl)
  · obtain ⟨G, p, _, ⟨_, _, _, _, _, _, a, _⟩, _⟩ := h; exact a.len
  · obtain ⟨G, p, z, ⟨n, ls, kd, m, ms, hk, a, rfl⟩, k⟩ := h
    obtain ⟨v, u, x, rfl, hv, hu, hx⟩ := allp3 a
    refine ⟨_, PSs.nox (pss_cons (ps_expr (pe_callH (has_check_web T) (hr.mono (by decide)) pass0 (pa_cons (pv 0) (pa_nil))))
      (pss_cons (ps_expr (pe_callH (has_check_kind T) (hr.mono (by decide)) pass0 (pa_cons (pv 1) (pa_nil))))
      (pss_one (ps_expr (pe_callH (has_check_web T) (hr.mono (by decide)) pass0 (pa_cons (pv 2) (pa_nil))))))), ?_⟩
    refine drop_is (is_call (s := dat .none) (isa_cons (is_var rfl hv) isa_nil) fun vs G1 _ a => ⟨n, ls, a, rfl⟩) z fun _ G1 H1 g1 _ => ?_
    refine drop_is (is_call (s := dat .none) (isa_cons (is_d rfl (hu.mono g1.gg)) isa_nil) fun vs G1 _ a => ⟨kd, hk, a, rfl⟩) g1.gh fun _ G2 H2 g2 _ => ?_
    have g12 := g1.trans g2
    exact drop_is (is_call (s := dat .none) (isa_cons (is_var rfl ((web K m ms).mono _ _ _ g12.gg hx)) isa_nil) fun vs G1 _ a => ⟨m, ms, a, rfl⟩) g12.gh fun _ G3 H3 g3 _ => k _ G3 H3 (g12.trans g3) .non

end
end Yd
set_option Elab.async false
set_option linter.all false
set_option maxRecDepth 100000
set_option maxHeartbeats 4000000
namespace Yd
open PySem PySem.Spec L2

open PySem.W (AllAlike Sortable)
section
variable {K : PySem.W.Frag} {σ : L2.St} {G : Hp} {E : XK}
theorem is_callA {ta : TA} {m : Nat} {ms : List Road} {k : Str} {xs : List Nat} (h : IsA ta σ G [web K m ms, dat (.str k), dat (nums xs)]) (hm : m ≤ 1000) (hz : ms.length ≤ 1024) (hx : xs.length ≤ 1000) : Is (tCall (spAhead K) [] E ta) σ G (dat (nums (aheadL m k ms xs))) := fun G1 H1 s1 s2 Q kk =>
  h G1 H1 s1 s2 _ fun vs G2 H2 g2 pv => by
    rw [List.append_nil]
    refine ⟨G2, m, ms, k, xs, g2.gh, hm, hz, hx, pv, fun l G3 H3 g3 e1 e2 e3 => ?_⟩
    exact kk _ _ H3 (g2.trans (g3.sho e1 e3)) (.lst upd_same (dvs_nums _))
theorem is_index {t1 t2 : TE} {ds : List PyData} {d z : PyData} {j : Nat} (h1 : Is t1 σ G (dat (.list ds))) (h2 : Is t2 σ G (dat d)) (sd : SeqAt.shaped (.list ds) = true) (se : SeqAt.shaped d = true) (hj : ds[j]? = some z) (he : PyData.eqv z d = true) (hn : ∀ m z', m < j → ds[m]? = some z' → PyData.eqv z' d = false) :
    Is (tBM K "list" (rIndexD K) t1 (tCons t2 tNil)) σ G (dat (.int (j : Int))) := fun G1 H1 s1 s2 Q k =>
  h1 G1 H1 s1 s2 _ fun x G2 H2 g2 px => by
    obtain ⟨a, xs, ex, ha, dv⟩ := (show DV G2 x (.list ds) from px).lst_inv
    subst ex
    refine ⟨.inl ⟨rfl, _, SqL.of (g2.gh _ _ ha)⟩, ?_⟩
    refine h2 G2 H2 (s1.trans g2.gg) g2.gh _ fun y G3 H3 g3 py => ?_
    exact ⟨a, y, d, ds, j, z, rfl, rfl, DV.dp g3.gh (px.mono g3.gg) (noDict_of_shaped sd), DV.dp g3.gh py (noDict_of_shaped se), sd, se, hj, he, hn, k _ G3 H3 (g2.trans g3) (.int _)⟩
end
def SdL (d : PyData) : Prop := ∀ ds, d = .list ds → ds.length ≤ 100000 ∧ ∀ e ∈ ds, Sd 60 e
def ofK (k : Str) (ls : List Road) : List Road := ls.filter fun r => decide (r.1 = k)
structure DyeArg (n : Nat) (ls : List Road) (k : Str) (m : Nat) (ms : List Road) (d : PyData) : Prop where
  w : WebOk n ls
  u : WebOk m ms
  l : (ofK k ls).length ≤ 32
  k : KindOk k
  m5 : m ≤ 5
  d : SdL d
/-- dyed_on, dyed_back: test says whether the value leads, res what comes of it -/
def spDyed (K : PySem.W.Frag) (C : Addr) (test : Nat → List Road → Str → Nat → List Road → PyData → Bool) (res : Nat → List Road → Str → Nat → List Road → List Nat → List Nat) : Sp := fun vs H Q E => ∃ G n ls k m ms d a b c v, Same G H ∧ DyeArg n ls k m ms d ∧ vs = [a, b, c, v] ∧ WebV K n ls a G ∧ DV G b (.str k) ∧ WebV K m ms c G ∧ DV G v d ∧
  (test n ls k m ms d = false → ∀ G2 H2 dd, Gr0 G H G2 H2 → G2 dd = none → H2 dd = some (.xd [(("value" : Str), v)]) → E (.ref C) (some dd) H2) ∧
  (∀ g, d = nums g → test n ls k m ms d = true → ∀ l G2 H2, Gr0 G H G2 H2 → H l = none → G2 l = none → H2 l = some (.lst ((res n ls k m ms g).map vN)) → Q (.ref l) H2)
def testOn (n : Nat) (ls : List Road) (k : Str) (m : Nat) (ms : List Road) (d : PyData) : Bool := isLeadD (ofK k ls).length (lineEdges (ofK k ls) k) m ms d
def resOn (n : Nat) (ls : List Road) (k : Str) (m : Nat) (ms : List Road) (g : List Nat) : List Nat := dyedOn n m k ms (ofK k ls) g
def testBack (n : Nat) (ls : List Road) (k : Str) (m : Nat) (ms : List Road) (d : PyData) : Bool := isLeadD n (ofK k ls) (pairsL m k ms).length (pairEdges (pairsL m k ms) k) d
def resBack (n : Nat) (ls : List Road) (k : Str) (m : Nat) (ms : List Road) (g : List Nat) : List Nat := dyedBack (pairsL m k ms) (ofK k ls) g
theorem ledB_sort2 (g : List Nat) (ls ms : List Road) : ledB g (rsort ls) ms = ledB g ls ms := by
  rw [Bool.eq_iff_iff, ledB_iff, ledB_iff]
  simp only [mem_rsort]
theorem isLead_sort2 (n : Nat) (ls : List Road) (m : Nat) (ms : List Road) (d : PyData) : isLeadD n (rsort ls) m ms d = isLeadD n ls m ms d := by
  unfold isLeadD; rw [ledB_sort2]
theorem isLead_lists {n m : Nat} {ls ms : List Road} {d : PyData} (h : isLeadD n ls m ms d = true) : d = nums (natsD d) := (arePlaces_is (Bool.and_eq_true_iff.mp h).1).1
theorem ends_at {L : List Road} {g : List Nat} {p : Nat} : outI L.length (fun i => decide (((L.getD i d0).2.2 : Int) = (p : Int))) (fun i => PyData.int ((g.getD i 0 : Nat) : Int)) = (endsAt L g p).map fun n : Nat => PyData.int (n : Int) := by
  unfold outI endsAt
  rw [List.map_map]
  refine congrArg (List.map _) (List.filter_congr fun j _ => ?_)
  exact decide_eq_decide.mpr ⟨fun h => by omega, fun h => by omega⟩
theorem own_nums {G H G' H' : Hp} {l : Addr} {g : List Nat} (O : Own G H G' H' l (g.map fun n : Nat => PyData.int (n : Int))) : H' l = some (.lst (g.map vN)) := by
  obtain ⟨vs, h1, h2⟩ := O.ex
  rw [h1, dvs_nums_inv h2]
theorem endsAt_len (L : List Road) (g : List Nat) (p : Nat) : (endsAt L g p).length ≤ L.length := by
  unfold endsAt
  rw [List.length_map]
  have := List.length_filter_le (fun i => decide ((L.getD i d0).2.2 = p)) (List.range L.length)
  rwa [List.length_range] at this
theorem ahead_len (m : Nat) (k : Str) (ms : List Road) (xs : List Nat) : (aheadL m k ms xs).length ≤ m := by
  have := List.length_filter_le (fun p => xs.all fun s => decide ((k, s, p) ∈ ms)) (List.range m)
  rwa [List.length_range] at this
theorem Own.upG {G H G1 H1 G' H' : Hp} {l : Addr} {ds : List PyData} (g : Gr0 G H G1 H1) (O : Own G1 H1 G' H' l ds) : Own G H G' H' l ds := ⟨g.trans O.g, g.th _ O.h0, O.gn, O.ex⟩
section
variable {P : Program} {w : World} {K : PySem.W.Frag} {mg : Str → Option Value} {base : Heap}
theorem sc_dyed_on : FnScope ["web", "kind", "dyes", "value", "lines", "some", "found", "place", "begins", "at", "line"] ["web", "kind", "dyes", "value"] (defScope (top 37)) := ⟨rfl, rfl, rfl, by decide +kernel, rfl, by decide +kernel, by decide +kernel⟩
theorem has_dyed_on {C fI : Addr} (T : Tx K mg) (LX : LeadTxt P K mg C fI) : Has P w K mg base (L2.CX P w) 9 "dyed_on" ["web", "kind", "dyes", "value"] (spDyed K C testOn resOn) := by
  refine T.has 23 (fun fd F => F.ok sc_dyed_on (fun vs H Q E h => ?_) fun cdv A outer s H vs Q E hr h => ?_) (fun fd F => F.bindsN fun _ _ _ _ _ _ us hl => match us, hl with | [_, _, _, _], _ => rfl)
  · obtain ⟨G, n, ls, kd, m, ms, d, a, b, c, v, _, _, rfl, _⟩ := h; rfl
  · obtain ⟨G, n, ls, kd, m, ms, d, a, b, c, v, z, da, rfl, ha, hb, hc, hv, kE, kQ⟩ := h
    have hL := da.l
    have hm := da.m5
    have fewm := da.u.few
    have fewl := da.w.few
    have sml := da.w.small
    refine ⟨_, pss_cons (ps_expr (pe_callH (has_check_dyed T) (hr.mono (by decide)) pass0 (pa_cons (pv 0) (pa_cons (pv 1) (pa_cons (pv 2) (pa_nil))))))
      (pss_cons (ps_set (i := 4) sc_dyed_on.nd rfl (by first | exact Or.inl rfl | exact Or.inr rfl) (pe_callH (has_lines_of T) (hr.mono (by decide)) pass0 (pa_cons (pv 0) (pa_cons (pv 1) (pa_nil)))))
      (pss_cons (ps_if (pt_not (pt_val (pe_callH (has_is_leading T) (hr.mono (by decide)) pass0 (pa_cons (pe_callH (has_web_of_lines T) (hr.mono (by decide)) pass0 (pa_cons (pv 4) (pa_cons (pv 1) (pa_nil)))) (pa_cons (pv 2) (pa_cons (pv 3) (pa_nil))))))) (pss_one (ps_raiseLead rfl LX hr (takes_of rfl rfl rfl rfl) (by exact (pa_cons (pv 3) pa_nil)))) pss_nil)
      (PSs.nox (pss_cons (ps_par (i := 5) (j := 6) rfl sc_dyed_on.nd rfl rfl (by decide) rfl rfl (pa_cons (pe_callH (has_closed_pairs T) (hr.mono (by decide)) pass0 (pa_cons (pv 2) (pa_cons (pv 1) (pa_nil)))) (pa_cons (pe_lst (pa_nil)) (pa_nil))) (by rfl))
        (pss_cons (ps_for PassesOwn.never rfl (pi_range1 rfl (T.free "range") (pa_cons (pe_fldK (K := K) rfl (pv 0) rfl) (pa_nil))) (pg_name (i := 7) sc_dyed_on.nd rfl (by first | exact Or.inl rfl | exact Or.inr rfl)) (pss_cons (ps_set (i := 8) sc_dyed_on.nd rfl (by first | exact Or.inl rfl | exact Or.inr rfl) (pe_callH (has_all_ahead T) (hr.mono (by decide)) pass0 (pa_cons (pv 2) (pa_cons (pv 1) (pa_cons (pe_lc (own := [("at", 9), ("line", 10)]) rfl sc_dyed_on.nd (pi_enumK (K := K) rfl (by rfl) (T.free "enumerate") (pa_cons (pv 4) (pa_nil))) (blkOk_by (by rfl)) (fun _ _ _ _ _ => pg_tupK (K := K) (n := 2) rfl rfl (pgs_cons (pg_name (i := 9) sc_dyed_on.nd rfl (by first | exact Or.inl rfl | exact Or.inr rfl)) (pgs_cons (pg_name (i := 10) sc_dyed_on.nd rfl (by first | exact Or.inl rfl | exact Or.inr rfl)) (pgs_nil)))) (fun _ _ _ _ _ => pts_one (pt_cmpR (op_eqDK (K := K) rfl (un70 hr)) (pe_ix (ix_seqK (K := K) rfl) (pv 10) (pe_int) (fun _ _ => rfl)) (pv 7) (nomark _))) (fun _ _ _ _ _ => pe_ix (ix_seqK (K := K) rfl) (pv 3) (pv 9) (fun _ _ => rfl))) (pa_nil))))))
          (pss_one (ps_expr (pe_bm PySem.F.plainAttrs_list PySem.F.slot_list_append PySem.F.type_list_append mt_append (pv 6) (pa_cons (pe_bm PySem.F.plainAttrs_list PySem.F.slot_list_index PySem.F.type_list_index (mt_indexDK (K := K) rfl (un70 hr)) (pv 5) (pa_cons (pe_tup (pa_cons (pe_callH (has_all_behind T) (hr.mono (by decide)) pass0 (pa_cons (pv 2) (pa_cons (pv 1) (pa_cons (pv 8) (pa_nil))))) (pa_cons (pv 8) (pa_nil)))) (pa_nil))) (pa_nil)))))))
        (pss_one (ps_ret (pv 6)))))))), ?_⟩
    refine drop_is (is_call (s := dat .none) (isa_cons (is_var (p := web K n ls) rfl ha) (isa_cons (is_d rfl hb) (isa_cons (is_var (p := web K m ms) rfl hc) isa_nil))) fun vs G1 _ a => ⟨n, ls, kd, m, ms, da.k, a, rfl⟩) z fun _ G1 H1 g1 _ => ?_
    refine set_is (p := dat (.list ((ofK kd ls).map rd))) (is_call (isa_cons (is_var rfl ((web K n ls).mono _ _ _ g1.gg ha)) (isa_cons (is_d rfl (hb.mono g1.gg)) isa_nil)) fun vs G2 _ a => ⟨n, ls, kd, da.k, by omega, fun r hr => (da.w.road r hr).kind, a, rfl⟩) g1.gh fun L G2 H2 g2 dL => ?_
    have g12 := g1.trans g2
    have hk1 : ∀ r ∈ rsort (lineEdges (ofK kd ls) kd), KindOk r.1 ∧ r.2.1 < (ofK kd ls).length ∧ r.2.2 < (ofK kd ls).length := fun r hr => by
      obtain ⟨h1, h2, h3, _⟩ := mem_lineEdges.mp (mem_rsort.mp hr)
      exact ⟨h1 ▸ da.k, h2, h3⟩
    refine if_is (b := !testOn n ls kd m ms d) (IsT.eqb (ist_not (ist_B (is_call (s := dat (.bool (isLeadD (ofK kd ls).length (rsort (lineEdges (ofK kd ls) kd)) m ms d))) (isa_cons (is_call (s := web K (ofK kd ls).length (rsort (lineEdges (ofK kd ls) kd))) (isa_cons (is_d rfl dL) (isa_cons (is_d rfl (hb.mono g12.gg)) isa_nil)) fun vs G3 _ a => ⟨ofK kd ls, kd, da.k, hL, a, rfl⟩) (isa_cons (is_var (p := web K m ms) rfl ((web K m ms).mono _ _ _ g12.gg hc)) (isa_cons (is_d rfl (hv.mono g12.gg)) isa_nil)))
      fun vs G3 _ a => ⟨_, _, m, ms, d, fun r hr => (hk1 r hr).2, by rw [(rsort_perm _).length_eq]; have := (lineWeb_ok da.k hL).few; omega, by omega, fun r hr => (hk1 r hr).1, da.d, a, rfl⟩))) ?_) g2.gh (fun hb' G3 H3 g3 => ?_) fun hb' G3 H3 g3 => ?_
    · rw [isLead_sort2]; rfl
    · have e : testOn n ls kd m ms d = false := by simpa using hb'
      refine ⟨_, rfl, v, rfl, fun dd hdd => ?_⟩
      have g4 : Gr0 G3 H3 G3 (upd H3 dd (.xd [(("value" : Str), v)])) := .hid g3.gh hdd
      exact kE e G3 _ dd (g12.trans (g3.trans g4)) (g3.gh.free hdd) upd_same
    · have e : testOn n ls kd m ms d = true := by simpa using hb'
      have ed := isLead_lists e
      obtain ⟨gv, egv⟩ : ∃ gv, gv = natsD d := ⟨_, rfl⟩
      rw [← egv] at ed
      subst ed
      have ld : Leads (ofK kd ls).length (lineEdges (ofK kd ls) kd) m ms gv := isLead_nums.mp e
      have g13 := g12.trans g3
      refine par_own (is_callP (isa_cons (is_var (p := web K m ms) rfl ((web K m ms).mono _ _ _ g13.gg hc)) (isa_cons (is_d rfl (hb.mono g13.gg)) isa_nil)) hm fewm da.k) g3.gh fun ps G4 H4 g4 pps fl hfl => ?_
      have O0 := Own.upG (g13.trans g4) (Own.start (.refl g4.gh) hfl)
      refine for_rng (n := n) (isa_cons (is_many T (is_var rfl ((web K n ls).mono _ _ _ (g13.trans g4).gg ha))) isa_nil) (by omega) O0.g.gh (fun i σ' G' H' => (∃ x y, σ' = [some a, some b, some c, some v, some L, some ps, some (.ref fl), x, y, none, none]) ∧ Same G4 G' ∧ Own G H G' H' fl (((List.range i).map (onIdx m kd ms (ofK kd ls) gv)).map fun n : Nat => PyData.int (n : Int)))
        (fun G5 H5 g5 => ⟨⟨_, _, rfl⟩, g5.gg, O0.grow g5⟩) ?_ ?_
      · rintro i σ' G' H' hi zs zg ⟨⟨x0, y0, rfl⟩, s4, O⟩
        have hc' := (web K m ms).mono _ _ _ ((g13.trans g4).gg.trans s4) hc
        have hb' := hb.mono ((g13.trans g4).gg.trans s4)
        have hv' := hv.mono ((g13.trans g4).gg.trans s4)
        have dL' := dL.mono (g3.gg.trans (g4.gg.trans s4))
        have pps' := pps.mono s4
        have hea := endsAt_len (ofK kd ls) gv i
        refine ⟨_, gt_name, fun N hN => ?_⟩
        refine set_is (p := dat (nums (begAt m kd ms (ofK kd ls) gv i))) (is_callA (xs := endsAt (ofK kd ls) gv i) (isa_cons (is_var rfl hc') (isa_cons (is_d rfl hb') (isa_cons (Is.eqd (is_lcE (ds := (ofK kd ls).map rd) (f := fun j => decide ((((ofK kd ls).getD j d0).2.2 : Int) = (i : Int))) (o := fun j => .int ((gv.getD j 0 : Nat) : Int)) (isa_cons (is_d rfl dL') isa_nil) (by rw [List.length_map]; omega) fun j y dq T1 G5 hj s5 hy hT => ?_) ?_) isa_nil))) (by omega) (by omega) (by omega)) zs fun bg G5 H5 g5 pb => ?_
        · rw [List.getElem?_map, Option.map_eq_some_iff] at hj
          obtain ⟨q, hqj, rfl⟩ := hj
          have hjl : j < (ofK kd ls).length := (List.getElem?_eq_some_iff.mp hqj).1
          have eq := getD_get (d := d0) hqj
          refine ⟨_, gt_tup2 hT, rfl, IsT.eqb (ist_test (is_op (is_op (is_d rfl hy) (is_int 2) (ri_ixT (j := 2) rfl rfl)) (is_d rfl (.int _)) (ri_eqD (Sd.sh (n := 1) (sd_int _)) (Sd.sh (n := 1) (sd_int _))))) ?_, fun _ => is_op (is_d rfl (hv'.mono s5)) (is_d rfl (.int _)) (ri_ixL (j := j) rfl (nums_get (by have := ld.len; omega)))⟩
          rw [eqv_int, eq]
        · rw [List.length_map]; exact congrArg PyData.list ends_at
        · obtain ⟨ix1, ix2⟩ := onIdx_spec (m := m) (k := kd) (ms := ms) ld.len ld.lt i
          refine app_ow (O.grow g5) rfl (is_index (z := prD (behindL m kd ms (begAt m kd ms (ofK kd ls) gv i), begAt m kd ms (ofK kd ls) gv i)) (j := onIdx m kd ms (ofK kd ls) gv i) (is_d rfl (pps'.mono g5.gg)) (is_tup (ds := [nums (behindL m kd ms (begAt m kd ms (ofK kd ls) gv i)), nums (begAt m kd ms (ofK kd ls) gv i)]) (isa_cons (is_call (s := dat (nums (behindL m kd ms (begAt m kd ms (ofK kd ls) gv i)))) (isa_cons (is_var rfl ((web K m ms).mono _ _ _ g5.gg hc')) (isa_cons (is_d rfl (hb'.mono g5.gg)) (isa_cons (is_d rfl pb) isa_nil))) fun vs G6 _ a => ⟨m, ms, kd, _, by omega, by omega, ?_, a, rfl⟩) (isa_cons (is_d rfl pb) isa_nil)) (by simp))
            (Sd.sh (n := 3) (sd_list fun e he => ?_)) (Sd.sh (n := 2) (sd_pr (behindL m kd ms (begAt m kd ms (ofK kd ls) gv i), begAt m kd ms (ofK kd ls) gv i))) ?_ ?_ ?_) ?_ fun G6 H6 O6 s6 => hN _ G6 H6 (g5.gg.trans s6) O6.g.gh ⟨⟨_, _, rfl⟩, s4.trans (g5.gg.trans s6), ?_⟩
          · have := ahead_len m kd ms (endsAt (ofK kd ls) gv i); show (aheadL m kd ms _).length ≤ 1000; omega
          · obtain ⟨q, _, rfl⟩ := List.mem_map.mp he; exact sd_pr _
          · rw [List.getElem?_map, ix1]; rfl
          · show PyData.eqv (prD _) (prD (behindL m kd ms (begAt m kd ms (ofK kd ls) gv i), begAt m kd ms (ofK kd ls) gv i)) = true
            rw [eqv_pr]; simp
          · intro j z' hj hz'
            rw [List.getElem?_map, Option.map_eq_some_iff] at hz'
            obtain ⟨q, hq, rfl⟩ := hz'
            show PyData.eqv (prD q) (prD (behindL m kd ms (begAt m kd ms (ofK kd ls) gv i), begAt m kd ms (ofK kd ls) gv i)) = false
            rw [eqv_pr, decide_eq_false_iff_not]
            rintro rfl
            exact ix2 j hj hq
          · rw [List.length_map, List.length_map, List.length_range]; omega
          · rw [List.range_succ, List.map_append, List.map_append]; exact O6
      · rintro σ' G' H' zs zg ⟨⟨x0, y0, rfl⟩, s4, O⟩
        exact ⟨_, rfl, kQ gv rfl e fl G' H' O.g O.h0 O.gn (own_nums O)⟩
theorem sc_dyed_back : FnScope ["web", "kind", "dyes", "value", "lines", "some", "found", "word", "near", "far", "ends", "place"] ["web", "kind", "dyes", "value"] (defScope (top 38)) := ⟨rfl, rfl, rfl, by decide +kernel, rfl, by decide +kernel, by decide +kernel⟩
theorem has_dyed_back {C fI : Addr} (T : Tx K mg) (LX : LeadTxt P K mg C fI) : Has P w K mg base (L2.CX P w) 9 "dyed_back" ["web", "kind", "dyes", "value"] (spDyed K C testBack resBack) := by
  refine T.has 24 (fun fd F => F.ok sc_dyed_back (fun vs H Q E h => ?_) fun cdv A outer s H vs Q E hr h => ?_) (fun fd F => F.bindsN fun _ _ _ _ _ _ us hl => match us, hl with | [_, _, _, _], _ => rfl)
  · obtain ⟨G, n, ls, kd, m, ms, d, a, b, c, v, _, _, rfl, _⟩ := h; rfl
  · obtain ⟨G, n, ls, kd, m, ms, d, a, b, c, v, z, da, rfl, ha, hb, hc, hv, kE, kQ⟩ := h
    have hL := da.l
    have hm := da.m5
    have fewm := da.u.few
    have fewl := da.w.few
    have sml := da.w.small
    have wL := da.w.filter fun r => decide (r.1 = kd)
    have hp32 := pairs_32 (k := kd) (ms := ms) hm
    have wP := pairWeb_ok (ps := pairsL m kd ms) da.k hp32
    refine ⟨_, pss_cons (ps_expr (pe_callH (has_check_dyed T) (hr.mono (by decide)) pass0 (pa_cons (pv 0) (pa_cons (pv 1) (pa_cons (pv 2) (pa_nil))))))
      (pss_cons (ps_par (i := 4) (j := 5) rfl sc_dyed_back.nd rfl rfl (by decide) rfl rfl (pa_cons (pe_callH (has_lines_of T) (hr.mono (by decide)) pass0 (pa_cons (pv 0) (pa_cons (pv 1) (pa_nil)))) (pa_cons (pe_callH (has_closed_pairs T) (hr.mono (by decide)) pass0 (pa_cons (pv 2) (pa_cons (pv 1) (pa_nil)))) (pa_nil))) (by rfl))
      (pss_cons (ps_if (pt_not (pt_val (pe_callH (has_is_leading T) (hr.mono (by decide)) pass0 (pa_cons (pe_makeK (K := K) rfl T (has_Web___init T) (hr.mono (by decide)) (pa_cons (pe_fldK (K := K) rfl (pv 0) rfl) (pa_cons (pv 4) (pa_nil)))) (pa_cons (pe_callH (has_web_of_pairs T) (hr.mono (by decide)) pass0 (pa_cons (pv 5) (pa_cons (pv 1) (pa_nil)))) (pa_cons (pv 3) (pa_nil))))))) (pss_one (ps_raiseLead rfl LX hr (takes_of rfl rfl rfl rfl) (by exact (pa_cons (pv 3) pa_nil)))) pss_nil)
      (PSs.nox (pss_cons (ps_set (i := 6) sc_dyed_back.nd rfl (by first | exact Or.inl rfl | exact Or.inr rfl) (pe_lst (pa_nil)))
        (pss_cons (ps_for PassesOwn.never rfl (pi_listK (K := K) rfl (pv 4)) (pg_tupK (K := K) (n := 3) rfl rfl (pgs_cons (pg_name (i := 7) sc_dyed_back.nd rfl (by first | exact Or.inl rfl | exact Or.inr rfl)) (pgs_cons (pg_name (i := 8) sc_dyed_back.nd rfl (by first | exact Or.inl rfl | exact Or.inr rfl)) (pgs_cons (pg_name (i := 9) sc_dyed_back.nd rfl (by first | exact Or.inl rfl | exact Or.inr rfl)) (pgs_nil))))) (pss_cons (ps_set (i := 10) sc_dyed_back.nd rfl (by first | exact Or.inl rfl | exact Or.inr rfl) (pe_ix (ix_seqK (K := K) rfl) (pe_ix (ix_seqK (K := K) rfl) (pv 5) (pe_ix (ix_seqK (K := K) rfl) (pv 3) (pv 9) (fun _ _ => rfl)) (fun _ _ => rfl)) (pe_int) (fun _ _ => rfl)))
          (pss_one (ps_expr (pe_bm PySem.F.plainAttrs_list PySem.F.slot_list_append PySem.F.type_list_append mt_append (pv 6) (pa_cons (pe_ix (ix_seqK (K := K) rfl) (pe_lc (own := [("place", 11)]) rfl sc_dyed_back.nd (pi_listK (K := K) rfl (pe_ix (ix_seqK (K := K) rfl) (pe_ix (ix_seqK (K := K) rfl) (pv 5) (pe_ix (ix_seqK (K := K) rfl) (pv 3) (pv 8) (fun _ _ => rfl)) (fun _ _ => rfl)) (pe_int) (fun _ _ => rfl))) (blkOk_by (by rfl)) (fun _ _ _ _ _ => pg_name (i := 11) sc_dyed_back.nd rfl (by first | exact Or.inl rfl | exact Or.inr rfl)) (fun _ _ _ _ _ => pts_one (pt_cmpR (op_inDK (K := K) rfl (un70 hr)) (pv 11) (pv 10) (by rfl))) (fun _ _ _ _ _ => pv 11)) (pe_int) (fun _ _ => rfl)) (pa_nil)))))))
        (pss_one (ps_ret (pv 6)))))))), ?_⟩
    refine drop_is (is_call (s := dat .none) (isa_cons (is_var (p := web K n ls) rfl ha) (isa_cons (is_d rfl hb) (isa_cons (is_var (p := web K m ms) rfl hc) isa_nil))) fun vs G1 _ a => ⟨n, ls, kd, m, ms, da.k, a, rfl⟩) z fun _ G1 H1 g1 _ => ?_
    refine par_is (p := dat (.list ((ofK kd ls).map rd))) (q := dat (.list ((pairsL m kd ms).map prD))) (is_call (isa_cons (is_var rfl ((web K n ls).mono _ _ _ g1.gg ha)) (isa_cons (is_d rfl (hb.mono g1.gg)) isa_nil)) fun vs G2 _ a => ⟨n, ls, kd, da.k, by omega, fun r hr => (da.w.road r hr).kind, a, rfl⟩)
      (is_callP (isa_cons (is_var (p := web K m ms) rfl ((web K m ms).mono _ _ _ g1.gg hc)) (isa_cons (is_d rfl (hb.mono g1.gg)) isa_nil)) hm fewm da.k) g1.gh fun L ps G2 H2 g2 dL pps => ?_
    have g12 := g1.trans g2
    have hk1 : ∀ r ∈ rsort (ofK kd ls), RoadOk n r := fun r hr => wL.road r (mem_rsort.mp hr)
    refine if_is (b := !testBack n ls kd m ms d) (IsT.eqb (ist_not (ist_B (is_call (s := dat (.bool (isLeadD n (rsort (ofK kd ls)) (pairsL m kd ms).length (rsort (pairEdges (pairsL m kd ms) kd)) d)))
      (isa_cons (is_make (isa_cons (is_many T (is_var rfl ((web K n ls).mono _ _ _ g12.gg ha))) (isa_cons (is_d rfl dL) isa_nil)) wL)
        (isa_cons (is_call (s := web K (pairsL m kd ms).length (rsort (pairEdges (pairsL m kd ms) kd))) (isa_cons (is_d rfl pps) (isa_cons (is_d rfl (hb.mono g12.gg)) isa_nil)) fun vs G3 _ a => ⟨pairsL m kd ms, kd, da.k, hp32, fun p hp => pairs_small hm hp, a, rfl⟩)
          (isa_cons (is_d rfl (hv.mono g12.gg)) isa_nil)))
      fun vs G3 _ a => ⟨_, _, _, _, d, fun r hr => ⟨(hk1 r hr).near, (hk1 r hr).far⟩, by rw [(rsort_perm _).length_eq]; omega, by rw [(rsort_perm _).length_eq]; have := wP.few; omega, fun r hr => (hk1 r hr).kind, da.d, a, rfl⟩))) ?_) g2.gh (fun hb' G3 H3 g3 => ?_) fun hb' G3 H3 g3 => ?_
    · rw [isLead_sort]; rfl
    · have e : testBack n ls kd m ms d = false := by simpa using hb'
      refine ⟨_, rfl, v, rfl, fun dd hdd => ?_⟩
      have g4 : Gr0 G3 H3 G3 (upd H3 dd (.xd [(("value" : Str), v)])) := .hid g3.gh hdd
      exact kE e G3 _ dd (g12.trans (g3.trans g4)) (g3.gh.free hdd) upd_same
    · have e : testBack n ls kd m ms d = true := by simpa using hb'
      have ed := isLead_lists e
      obtain ⟨gv, egv⟩ : ∃ gv, gv = natsD d := ⟨_, rfl⟩
      rw [← egv] at ed
      subst ed
      have ld : Leads n (ofK kd ls) (pairsL m kd ms).length (pairEdges (pairsL m kd ms) kd) gv := isLead_nums.mp e
      have g13 := g12.trans g3
      refine ⟨Nat.zero_le _, fun fl hfl => ?_⟩
      have O0 := Own.upG g13 (Own.start (.refl g3.gh) hfl)
      refine for_dat (ds := (ofK kd ls).map rd) (is_d rfl (dL.mono g3.gg)) O0.g.gh (fun i σ' G' H' => (∃ x y u t, σ' = [some a, some b, some c, some v, some L, some ps, some (.ref fl), x, y, u, t, none]) ∧ Same G3 G' ∧ Own G H G' H' fl ((((ofK kd ls).take i).map fun r => (backAt (pairsL m kd ms) gv r).headD 0).map fun n : Nat => PyData.int (n : Int)))
        (fun G5 H5 g5 => ⟨⟨_, _, _, _, rfl⟩, g5.gg, O0.grow g5⟩) ?_ ?_
      · rintro i y d σ' G' H' hi hy zs zg ⟨⟨x0, y0, u0, t0, rfl⟩, s4, O⟩
        rw [List.getElem?_map, Option.map_eq_some_iff] at hi
        obtain ⟨r, hri, rfl⟩ := hi
        have hil : i < (ofK kd ls).length := (List.getElem?_eq_some_iff.mp hri).1
        have hmem : r ∈ ofK kd ls := List.mem_of_getElem? hri
        obtain ⟨t, rfl, ht⟩ := road_tup hy
        have ro := wL.road r hmem
        have hv' := hv.mono (g13.gg.trans s4)
        have pps' := pps.mono (g3.gg.trans s4)
        have gn : r.2.1 < gv.length := by rw [ld.len]; exact ro.near
        have gf : r.2.2 < gv.length := by rw [ld.len]; exact ro.far
        have pn := getD_lt ld.lt gn
        have pf := getD_lt ld.lt gf
        have getp : ∀ j, j < (pairsL m kd ms).length → ((pairsL m kd ms).map prD)[j]? = some (prD ((pairsL m kd ms).getD j ([], []))) := fun j hj => by
          rw [List.getElem?_map, List.getElem?_eq_getElem hj, List.getD_eq_getElem?_getD, List.getElem?_eq_getElem hj]; rfl
        refine ⟨_, gt_tup3 ht, fun N hN => ?_⟩
        refine set_is (p := dat (nums ((pairsL m kd ms).getD (gv.getD r.2.2 0) ([], [])).1)) (is_op (is_op (is_d rfl pps') (is_op (is_d rfl hv') (is_d rfl (.int _)) (ri_ixL (j := r.2.2) rfl (nums_get gf))) (ri_ixL (j := gv.getD r.2.2 0) rfl (getp _ pf))) (is_int 0) (ri_ixT (j := 0) rfl rfl)) zs fun en G5 H5 g5 pen => ?_
        have hne := backAt_ne ld hmem
        have hget : ((backAt (pairsL m kd ms) gv r).map fun n : Nat => PyData.int (n : Int))[0]? = some (.int (((backAt (pairsL m kd ms) gv r).headD 0 : Nat) : Int)) := by
          cases q : backAt (pairsL m kd ms) gv r with
          | nil => exact absurd q hne
          | cons x xs => rfl
        have hsm : (((pairsL m kd ms).getD (gv.getD r.2.1 0) ([], [])).2).length ≤ 1000 := by
          refine pairs_small (k := kd) (ms := ms) hm (p := (pairsL m kd ms).getD (gv.getD r.2.1 0) ([], [])) ?_
          rw [List.getD_eq_getElem?_getD, List.getElem?_eq_getElem pn]
          exact List.getElem_mem pn
        refine app_ow (O.grow g5) rfl (is_op (is_lcA (fun n : Nat => PyData.int (n : Int)) (xs := ((pairsL m kd ms).getD (gv.getD r.2.1 0) ([], [])).2) (p := fun x => decide (x ∈ ((pairsL m kd ms).getD (gv.getD r.2.2 0) ([], [])).1)) (q := fun n : Nat => PyData.int (n : Int))
          (is_op (is_op (is_d rfl (pps'.mono g5.gg)) (is_op (is_d rfl (hv'.mono g5.gg)) (is_d rfl (.int _)) (ri_ixL (j := r.2.1) rfl (nums_get gn))) (ri_ixL (j := gv.getD r.2.1 0) rfl (getp _ pn))) (is_int 1) (ri_ixT (j := 1) rfl rfl)) (by omega)
          fun w x G6 hx s6 hw => ⟨_, gt_name, rfl, IsT.eqb (ist_test (is_op (is_d rfl hw) (is_d rfl (pen.mono s6)) (ri_inD (Sd.sh (n := 1) (sd_int _)) (Sd.sh (n := 1) (sd_nums _))))) (any_nat _ _), fun _ => is_d rfl hw⟩) (is_int 0) (ri_ixL (j := 0) rfl hget)) ?_ fun G6 H6 O6 s6 => hN _ G6 H6 (g5.gg.trans s6) O6.g.gh ⟨⟨_, _, _, _, rfl⟩, s4.trans (g5.gg.trans s6), ?_⟩
        · rw [List.length_map, List.length_map, List.length_take]; omega
        · rw [List.take_succ, hri, List.map_append, List.map_append]; exact O6
      · rintro σ' G' H' zs zg ⟨⟨x0, y0, u0, t0, rfl⟩, s4, O⟩
        rw [List.length_map, List.take_length] at O
        exact ⟨_, rfl, kQ gv rfl e fl G' H' O.g O.h0 O.gn (own_nums O)⟩
end
end Yd
set_option Elab.async false
set_option linter.all false
set_option maxRecDepth 100000
set_option maxHeartbeats 4000000
namespace Yd
open PySem PySem.Spec L2

open PySem.W (AllAlike Sortable)
def lwD (n : Nat) (rs : List Road) : PyData := .list [.int (n : Int), .list (rs.map rd)]
theorem ahead_mem_ext {m : Nat} {k : Str} {ms qs : List Road} (h : ∀ r, r ∈ ms ↔ r ∈ qs) (xs : List Nat) : aheadL m k ms xs = aheadL m k qs xs := by
  unfold aheadL; simp only [h]
theorem behind_mem_ext {m : Nat} {k : Str} {ms qs : List Road} (h : ∀ r, r ∈ ms ↔ r ∈ qs) (xs : List Nat) : behindL m k ms xs = behindL m k qs xs := by
  unfold behindL; simp only [h]
theorem pairsL_ext {m : Nat} {k : Str} {ms qs : List Road} (h : ∀ r, r ∈ ms ↔ r ∈ qs) : pairsL m k ms = pairsL m k qs := by
  unfold pairsL
  simp only [ahead_mem_ext h, behind_mem_ext h]
theorem pairsL_sort (m : Nat) (k : Str) (ms : List Road) : pairsL m k (rsort ms) = pairsL m k ms := pairsL_ext fun _ => mem_rsort
theorem sd_lw {n : Nat} {rs : List Road} (h : ∀ r ∈ rs, KindOk r.1) : Sd 5 (lwD n rs) := sd_list fun d hd => by
  simp only [List.mem_cons, List.not_mem_nil, or_false] at hd
  rcases hd with rfl | rfl
  · exact sd_int _
  · exact sd_rds h
section
variable {K : PySem.W.Frag} {σ : L2.St} {G : Hp} {te ta tb tc : TE} {n : Nat} {rs : List Road} {i j l : Int}
theorem is_lw0 (h : Is te σ G (dat (lwD n rs))) : Is (tOp (rIx K) te (tC (.int 0))) σ G (dat (.int (n : Int))) := is_op h (is_int 0) (ri_ixL (j := 0) rfl rfl)
theorem is_lw1 (h : Is te σ G (dat (lwD n rs))) : Is (tOp (rIx K) te (tC (.int 1))) σ G (dat (.list (rs.map rd))) := is_op h (is_int 1) (ri_ixL (j := 1) rfl rfl)
theorem is_chain (ha : Is ta σ G (dat (.int i))) (hb : Is tb σ G (dat (.int j))) (hc : Is tc σ G (dat (.int l))) : Is (tChain (rI0 fun i j => .bl (decide (i ≤ j))) (rI0 fun i j => .bl (decide (i < j))) ta tb tc) σ G (dat (.bool (decide (i ≤ j) && decide (j < l)))) := fun G1 H1 s1 s2 Q k =>
  ha G1 H1 s1 s2 _ fun x G2 H2 g2 px => hb G2 H2 (s1.trans g2.gg) g2.gh _ fun y G3 H3 g3 py => by
    refine ⟨i, j, px.int_inv, py.int_inv, _, rfl, ?_⟩
    cases c : decide (i ≤ j) with
    | false => exact if_false_of rfl (by
        rw [c] at k
        exact k _ G3 H3 (g2.trans g3) (.bl false))
    | true =>
      refine if_true_of rfl ?_
      rw [c] at k
      exact hc G3 H3 ((s1.trans g2.gg).trans g3.gg) g3.gh _ fun z G4 H4 g4 pz => ⟨j, l, py.int_inv, pz.int_inv, k _ G4 H4 (g2.trans (g3.trans g4)) (.bl _)⟩
end
def preLeads : List V → Hp → Pm → Prop := fun vs G p => ∃ rs qs g, rs.length ≤ 100000 ∧ (∀ r ∈ rs, KindOk r.1 ∧ r.2.1 < g.length ∧ r.2.2 < g.length) ∧ (∀ r ∈ qs, KindOk r.1) ∧ AllP [dat (.list (rs.map rd)), dat (.list (qs.map rd)), dat (nums g)] vs G ∧ p = dat (.bool (ledB g rs qs))
def preLawLead : List V → Hp → Pm → Prop := fun vs G p => ∃ n rs m qs d, rs.length ≤ 100000 ∧ (∀ r ∈ rs, KindOk r.1 ∧ r.2.1 < n ∧ r.2.2 < n) ∧ (∀ r ∈ qs, KindOk r.1) ∧ SdL d ∧ AllP [dat (lwD n rs), dat (lwD m qs), dat d] vs G ∧ p = dat (.bool (isLeadD n rs m qs d))
def preObject (K : PySem.W.Frag) : List V → Hp → Pm → Prop := fun vs G p => ∃ n rs, WebOk n rs ∧ AllP [dat (lwD n rs)] vs G ∧ p = web K n (rsort rs)
def preLots : List V → Hp → Pm → Prop := fun vs G p => ∃ m : Nat, m ≤ 5 ∧ AllP [dat (.int (m : Int))] vs G ∧ p = dat (.list ((ssubs m).map nums))
def preLineWeb : List V → Hp → Pm → Prop := fun vs G p => ∃ n rs k, KindOk k ∧ (∀ r ∈ rs, KindOk r.1) ∧ rs.length ≤ 32 ∧ AllP [dat (lwD n rs), dat (.str k)] vs G ∧ p = dat (lwD (ofK k (rsort rs)).length (lineEdges (ofK k (rsort rs)) k))
def prePairsOf : List V → Hp → Pm → Prop := fun vs G p => ∃ m ms k, m ≤ 5 ∧ KindOk k ∧ (∀ r ∈ ms, KindOk r.1) ∧ AllP [dat (lwD m ms), dat (.str k)] vs G ∧ p = dat (.list ((pairsL m k ms).map prD))
def prePairWeb : List V → Hp → Pm → Prop := fun vs G p => ∃ ps k, KindOk k ∧ ps.length ≤ 32 ∧ (∀ p ∈ ps, p.2.length ≤ 1000) ∧ AllP [dat (.list (ps.map prD)), dat (.str k)] vs G ∧ p = dat (lwD ps.length (pairEdges ps k))
theorem len_map {K : PySem.W.Frag} {G : Hp} {α : Type} (f : α → PyData) (l : List α) : RC (fun xs H Q => ∃ x n, xs = [x] ∧ LenV K x H n ∧ Q (.int n) H) [dat (.list (l.map f))] G (dat (.int (l.length : Int))) := by
  have := rc_lenL (K := K) (G := G) (ds := l.map f)
  rw [List.length_map] at this
  exact this
theorem line_rowB {L : List Road} {k : Str} {i : Nat} : outI L.length (fun j => decide (((L.getD i d0).2.2 : Int) = ((L.getD j d0).2.1 : Int))) (fun j => rd (k, i, j)) = (lineRow L k i).map rd := by
  rw [← line_row]
  unfold outI
  refine congrArg (List.map _) (List.filter_congr fun j _ => ?_)
  exact decide_eq_decide.mpr ⟨fun h => h.symm, fun h => h.symm⟩
theorem rd_get {L : List Road} {i : Nat} (h : i < L.length) : (L.map rd)[i]? = some (rd (L.getD i d0)) := by
  rw [List.getElem?_map, List.getElem?_eq_getElem h, List.getD_eq_getElem?_getD, List.getElem?_eq_getElem h]; rfl
theorem all_not {α : Type} (p : α → Bool) (l : List α) : (l.filter fun x => !p x).isEmpty = l.all p := filter_nil_all p l
section
variable {P : Program} {w : World} {K : PySem.W.Frag} {mg : Str → Option Value} {base : Heap}
theorem sc_lleads : FnScope ["_law_roads_here", "_law_others", "_law_given", "_law_road"] ["_law_roads_here", "_law_others", "_law_given"] (defScope (top 49)) := ⟨rfl, rfl, rfl, by decide +kernel, rfl, by decide +kernel, by decide +kernel⟩
theorem has_lleads (T : Tx K mg) : Has P w K mg base CX0 1 "_law_leads" ["_law_roads_here", "_law_others", "_law_given"] (PureSp preLeads) := by
  refine T.has 34 (fun fd F => F.ok sc_lleads (fun vs H Q E h => ?_) fun cdv A outer s H vs Q E hr h => ?_) (fun fd F => F.bindsN fun _ _ _ _ _ _ us hl => match us, hl with | [_, _, _], _ => rfl)
  · obtain ⟨G, p, _, ⟨_, _, _, _, _, _, a, _⟩, _⟩ := h; exact a.len
  · obtain ⟨G, p, z, ⟨rs, qs, g, hz, hr1, hq1, a, rfl⟩, k⟩ := h
    obtain ⟨v, u, x, rfl, hv, hu, hx⟩ := allp3 a
    refine ⟨_, PSs.nox (pss_one (ps_ret (pe_cmpR (op_eqDK (K := K) rfl (un70 hr)) (pe_lc (own := [("_law_road", 3)]) rfl sc_lleads.nd (pi_listK (K := K) rfl (pv 0)) (blkOk_by (by rfl)) (fun _ _ _ _ _ => pg_name (i := 3) sc_lleads.nd rfl (by first | exact Or.inl rfl | exact Or.inr rfl)) (fun _ _ _ _ _ => pts_one (pt_cmpR (op_notInDK (K := K) rfl (un70 hr)) (pe_tup (pa_cons (pe_ix (ix_seqK (K := K) rfl) (pv 3) (pe_int) (fun _ _ => rfl)) (pa_cons (pe_ix (ix_seqK (K := K) rfl) (pv 2) (pe_ix (ix_seqK (K := K) rfl) (pv 3) (pe_int) (fun _ _ => rfl)) (fun _ _ => rfl)) (pa_cons (pe_ix (ix_seqK (K := K) rfl) (pv 2) (pe_ix (ix_seqK (K := K) rfl) (pv 3) (pe_int) (fun _ _ => rfl)) (fun _ _ => rfl)) (pa_nil))))) (pv 1) (by rfl))) (fun _ _ _ _ _ => pv 3)) (pe_lst (pa_nil)) (nomark _)))), ?_⟩
    refine ret_is (Is.eqd (is_op (is_lcA rd (p := fun r => !decide ((r.1, g.getD r.2.1 0, g.getD r.2.2 0) ∈ qs)) (q := rd) (is_d rfl hv) hz fun y r G1 hm s1 hy => ⟨_, gt_name, rfl,
      IsT.eqb (ist_test (is_op (is_tup (ds := [.str r.1, .int ((g.getD r.2.1 0 : Nat) : Int), .int ((g.getD r.2.2 0 : Nat) : Int)]) (isa_cons (is_op (is_d rfl hy) (is_int 0) (ri_ixT (j := 0) rfl rfl)) (isa_cons (is_op (is_d rfl (hx.mono s1)) (is_op (is_d rfl hy) (is_int 1) (ri_ixT (j := 1) rfl rfl)) (ri_ixL (j := r.2.1) rfl (nums_get (hr1 r hm).2.1))) (isa_cons (is_op (is_d rfl (hx.mono s1)) (is_op (is_d rfl hy) (is_int 2) (ri_ixT (j := 2) rfl rfl)) (ri_ixL (j := r.2.2) rfl (nums_get (hr1 r hm).2.2))) isa_nil))) (by simp)) (is_d rfl (hu.mono s1))
        (ri_notInD (Sd.sh (n := 3) (sd_rd (n := 2) (r := (r.1, g.getD r.2.1 0, g.getD r.2.2 0)) (hr1 r hm).1)) (Sd.sh (n := 5) (sd_rds hq1))))) ?_, fun _ => is_d rfl hy⟩) (is_lst (ds := []) isa_nil (Nat.zero_le _)) (ri_eqD (Sd.sh (n := 5) (sd_rds fun r hr => ?_)) (Sd.sh (n := 1) sd_nil))) ?_) z k
    · exact congrArg (fun b => !b) (any_rd (r.1, g.getD r.2.1 0, g.getD r.2.2 0) qs)
    · exact (hr1 r (List.mem_filter.mp hr).1).1
    · rw [eqv_nil, List.isEmpty_map, filter_nil_all]; rfl

theorem sc_lis_leading : FnScope ["_law_web", "_law_other", "_law_value", "_law_place"] ["_law_web", "_law_other", "_law_value"] (defScope (top 61)) := ⟨rfl, rfl, rfl, by decide +kernel, rfl, by decide +kernel, by decide +kernel⟩
theorem has_lis_leading (T : Tx K mg) : Has P w K mg base CX0 2 "_law_is_leading" ["_law_web", "_law_other", "_law_value"] (PureSp preLawLead) := by
  refine T.has 46 (fun fd F => F.ok sc_lis_leading (fun vs H Q E h => ?_) fun cdv A outer s H vs Q E hr h => ?_) (fun fd F => F.bindsN fun _ _ _ _ _ _ us hl => match us, hl with | [_, _, _], _ => rfl)
  · obtain ⟨G, p, _, ⟨_, _, _, _, _, _, _, _, _, a, _⟩, _⟩ := h; exact a.len
  · obtain ⟨G, p, z, ⟨n, rs, m, qs, d, hz, hr1, hq1, hd, a, rfl⟩, k⟩ := h
    obtain ⟨v, u, x, rfl, hv, hu, hx⟩ := allp3 a
    refine ⟨_, PSs.nox (pss_cons (ps_if (PW.pt (pw_or (pt_not (pt_val (pe_callB (call_isiK (K := K) rfl) (by rfl) (T.free "isinstance") (by decide +kernel) (pa_cons (pv 2) (pa_cons (pe_bltn (v := .ty "list") rfl (T.free "list") (by decide +kernel) rfl) (pa_nil)))))) (pw_or1 (pt_cmpR (op_neDK (K := K) rfl (un70 hr)) (pe_callB (call_lenK (K := K) rfl) (by rfl) (T.free "len") (by decide +kernel) (pa_cons (pv 2) (pa_nil))) (pe_ix (ix_seqK (K := K) rfl) (pv 0) (pe_int) (fun _ _ => rfl)) (nomark _))))) (pss_one (ps_ret (pe_bl))) (pss_nil))
      (pss_cons (ps_for PassesOwn.never rfl (pi_listK (K := K) rfl (pv 2)) (pg_name (i := 3) sc_lis_leading.nd rfl (by first | exact Or.inl rfl | exact Or.inr rfl)) (pss_one (ps_if (PW.pt (pw_or (pt_val (pe_callB (call_isiK (K := K) rfl) (by rfl) (T.free "isinstance") (by decide +kernel) (pa_cons (pv 3) (pa_cons (pe_bltn (v := .ty "bool") rfl (T.free "bool") (by decide +kernel) rfl) (pa_nil))))) (pw_or (pt_not (pt_val (pe_callB (call_isiK (K := K) rfl) (by rfl) (T.free "isinstance") (by decide +kernel) (pa_cons (pv 3) (pa_cons (pe_bltn (v := .ty "int") rfl (T.free "int") (by decide +kernel) rfl) (pa_nil)))))) (pw_or1 (pt_not (pt_chain op_le op_lt (pe_int) (pv 3) (pe_ix (ix_seqK (K := K) rfl) (pv 1) (pe_int) (fun _ _ => rfl)))))))) (pss_one (ps_ret (pe_bl))) (pss_nil))))
      (pss_one (ps_ret (pe_callH (has_lleads T) (hr.mono (by decide)) pass0 (pa_cons (pe_ix (ix_seqK (K := K) rfl) (pv 0) (pe_int) (fun _ _ => rfl)) (pa_cons (pe_ix (ix_seqK (K := K) rfl) (pv 1) (pe_int) (fun _ _ => rfl)) (pa_cons (pv 2) (pa_nil))))))))), ?_⟩
    have t1 : IsT (tNot (tB (tCB (rIsi K) (tCons (tVar 2) (tCons (tC (.ty "list")) tNil))))) (start ["_law_web", "_law_other", "_law_value", "_law_place"] [v, u, x]) G (!isTy d "list") := ist_not (ist_B (is_cb (isa_cons (is_var rfl hx) (isa_cons (is_ty _) isa_nil)) (rc_isi (kb_list _))))
    by_cases hl : ∃ ds, d = .list ds
    · obtain ⟨ds, rfl⟩ := hl
      obtain ⟨hzd, hds⟩ := hd ds rfl
      refine if_is (b := !decide ((ds.length : Int) = (n : Int))) (IsT.eqb (ist_or t1 fun _ => ist_test (is_op (is_cb (isa_cons (is_var rfl hx) isa_nil) rc_lenL) (is_lw0 (is_d rfl hv)) (ri_neD (Sd.sh (n := 1) (sd_int _)) (Sd.sh (n := 1) (sd_int _))))) ?_) z (fun hb G2 H2 g2 => ?_) fun hb G2 H2 g2 => ?_
      · rw [isTy_list, eqv_int]; rfl
      · refine ret_is (is_bl false) g2.gh fun v G3 H3 g3 pv => k v G3 H3 (g2.trans g3) ?_
        have e : decide ((ds.length : Int) = (n : Int)) = false := by simpa using hb
        have : isLeadD n rs m qs (.list ds) = false := by
          unfold isLeadD
          have e3 : arePlacesD (.list ds) n m = false := by
            show (decide ((ds.length : Int) = (n : Int)) && _) = false
            rw [e]; rfl
          rw [e3]; rfl
        rw [this]; exact pv
      · have e : decide ((ds.length : Int) = (n : Int)) = true := by simpa using hb
        refine for_dat (ds := ds) (is_d rfl (hx.mono g2.gg)) g2.gh (fun i σ' G' H' => (∃ y, σ' = [some v, some u, some x, y]) ∧ Gr0 G H G' H' ∧ ∀ e ∈ ds.take i, isPlaceD e m = true) (fun G3 H3 g3 => ⟨⟨_, rfl⟩, g2.trans g3, fun e he => by cases he⟩) ?_ ?_
        · rintro i y e' σ' G' H' hi hy zs zg ⟨⟨y0, rfl⟩, g, hall⟩
          have hmem := List.mem_of_getElem? hi
          refine ⟨_, gt_name, fun N hN => ?_⟩
          refine if_is (b := !isPlaceD e' m) (IsT.eqb (ist_or (b := isTy e' "bool") (c := !isPlaceD e' m) (ist_B (is_cb (isa_cons (is_d rfl hy) (isa_cons (is_ty _) isa_nil)) (rc_isi (kb_bool _)))) fun hb1 => IsT.eqb (ist_or (b := !isTy e' "int") (c := !isPlaceD e' m) (ist_not (ist_B (is_cb (isa_cons (is_d rfl hy) (isa_cons (is_ty _) isa_nil)) (rc_isi (kb_int _))))) fun hb2 => ?_) ?_) ?_) zs (fun hb G3 H3 g3 => ?_) fun hb G3 H3 g3 => ?_
          · rw [isTy_bool] at hb1
            rw [isTy_int] at hb2
            cases e' with
            | int j => exact ist_not (ist_test (is_chain (is_int 0) (is_d rfl hy) (is_lw0 (is_d rfl (hu.mono g.gg)))))
            | bool b => simp [tyN] at hb1
            | _ => simp [tyN] at hb2
          · rw [isTy_int]
            cases e' <;> simp [isPlaceD, tyN]
          · rw [isTy_bool]
            cases e' <;> simp [isPlaceD, tyN]
          · refine ret_is (is_bl false) g3.gh fun v G4 H4 g4 pv => k v G4 H4 (g.trans (g3.trans g4)) ?_
            have e2 : isLeadD n rs m qs (.list ds) = false := by
              rw [Bool.eq_false_iff]
              intro h
              have h2 := (Bool.and_eq_true_iff.mp h).1
              simp only [arePlacesD, Bool.and_eq_true, List.all_eq_true] at h2
              rw [h2.2 e' hmem] at hb
              cases hb
            rw [e2]; exact pv
          · refine hN _ G3 H3 g3.gg g3.gh ⟨⟨_, rfl⟩, g.trans g3, fun q hq => ?_⟩
            rw [List.take_succ, hi] at hq
            rcases List.mem_append.mp hq with hq | hq
            · exact hall q hq
            · simp at hq
              subst hq
              simpa using hb
        · rintro σ' G' H' zs zg ⟨⟨y0, rfl⟩, g, hall⟩
          rw [List.take_length] at hall
          have hp : arePlacesD (.list ds) n m = true := by
            simp only [arePlacesD, Bool.and_eq_true, List.all_eq_true]
            exact ⟨e, hall⟩
          obtain ⟨e1, e2, e3⟩ := arePlaces_is hp
          dsimp only
          refine ret_is (p := dat (.bool (isLeadD n rs m qs (.list ds)))) (Is.eqd (is_call (s := dat (.bool (ledB (natsD (.list ds)) rs qs))) (isa_cons (is_lw1 (is_d rfl (hv.mono g.gg))) (isa_cons (is_lw1 (is_d rfl (hu.mono g.gg))) (isa_cons (is_d (d := nums (natsD (.list ds))) rfl (e1 ▸ hx.mono g.gg)) isa_nil))) fun vs G3 _ a => ⟨rs, qs, natsD (.list ds), hz, fun r hr => ⟨(hr1 r hr).1, by rw [e2]; exact (hr1 r hr).2.1, by rw [e2]; exact (hr1 r hr).2.2⟩, hq1, a, rfl⟩) ?_) zs fun v G3 H3 g3 pv => k v G3 H3 (g.trans g3) pv
          unfold isLeadD
          rw [hp]; rfl
    · have e1 : isTy d "list" = false := by
        rw [isTy_list]
        cases d with
        | list ds => exact absurd ⟨ds, rfl⟩ hl
        | _ => rfl
      have e2 : isLeadD n rs m qs d = false := by
        unfold isLeadD
        cases d with
        | list ds => exact absurd ⟨ds, rfl⟩ hl
        | _ => rfl
      refine if_is (b := true) (IsT.eqb (ist_or (c := false) t1 fun hb => ?_) ?_) z (fun hb G2 H2 g2 => ?_) fun hb => nomatch hb
      · rw [e1] at hb; cases hb
      · rw [e1]; rfl
      · exact ret_is (is_bl false) g2.gh fun v G3 H3 g3 pv => k v G3 H3 (g2.trans g3) (e2 ▸ pv)

theorem sc_lobject : FnScope ["_law_web"] ["_law_web"] (defScope (top 56)) := ⟨rfl, rfl, rfl, by decide +kernel, rfl, by decide +kernel, by decide +kernel⟩
theorem has_lobject (T : Tx K mg) : Has P w K mg base CX0 8 "_law_object" ["_law_web"] (PureSp (preObject K)) := by
  refine T.has 41 (fun fd F => F.ok sc_lobject (fun vs H Q E h => ?_) fun cdv A outer s H vs Q E hr h => ?_) (fun fd F => F.bindsN fun _ _ _ _ _ _ us hl => match us, hl with | [_], _ => rfl)
  · obtain ⟨G, p, _, ⟨_, _, _, a, _⟩, _⟩ := h; exact a.len
  · obtain ⟨G, p, z, ⟨n, rs, hw, a, rfl⟩, k⟩ := h
    obtain ⟨v, rfl, hv⟩ := allp1 a
    refine ⟨_, PSs.nox (pss_one (ps_ret (pe_makeK (K := K) rfl T (has_Web___init T) (hr.mono (by decide)) (pa_cons (pe_ix (ix_seqK (K := K) rfl) (pv 0) (pe_int) (fun _ _ => rfl)) (pa_cons (pe_callTy (call_list_ofK (K := K) rfl) (by rfl) (T.free "list") (by decide +kernel) (pa_cons (pe_ix (ix_seqK (K := K) rfl) (pv 0) (pe_int) (fun _ _ => rfl)) (pa_nil))) (pa_nil)))))), ?_⟩
    exact ret_is (is_make (isa_cons (is_lw0 (is_d rfl hv)) (isa_cons (is_cb (isa_cons (is_lw1 (is_d rfl hv)) isa_nil) rc_listL) isa_nil)) hw) z k

theorem sc_llots : FnScope ["_law_size", "_law_found", "_law_place", "_law_lot"] ["_law_size"] (defScope (top 57)) := ⟨rfl, rfl, rfl, by decide +kernel, rfl, by decide +kernel, by decide +kernel⟩
theorem has_llots (T : Tx K mg) : Has P w K mg base CX0 1 "_law_lots" ["_law_size"] (PureSp preLots) := by
  refine T.has 42 (fun fd F => F.ok sc_llots (fun vs H Q E h => ?_) fun cdv A outer s H vs Q E hr h => ?_) (fun fd F => F.bindsN fun _ _ _ _ _ _ us hl => match us, hl with | [_], _ => rfl)
  · obtain ⟨G, p, _, ⟨_, _, a, _⟩, _⟩ := h; exact a.len
  · obtain ⟨G, p, z, ⟨m, hm, a, rfl⟩, k⟩ := h
    obtain ⟨v, rfl, hv⟩ := allp1 a
    refine ⟨_, PSs.nox (pss_cons (ps_set (i := 1) sc_llots.nd rfl (by first | exact Or.inl rfl | exact Or.inr rfl) (pe_lst (pa_cons (pe_lst (pa_nil)) (pa_nil))))
      (pss_cons (ps_for PassesOwn.never rfl (pi_range1 rfl (T.free "range") (pa_cons (pv 0) (pa_nil))) (pg_name (i := 2) sc_llots.nd rfl (by first | exact Or.inl rfl | exact Or.inr rfl)) (pss_one (ps_set (i := 1) sc_llots.nd rfl (by first | exact Or.inl rfl | exact Or.inr rfl) (pe_op op_addU (pv 1) (pe_lc (own := [("_law_lot", 3)]) rfl sc_llots.nd (pi_listK (K := K) rfl (pv 1)) (blkOk_by (by rfl)) (fun _ _ _ _ _ => pg_name (i := 3) sc_llots.nd rfl (by first | exact Or.inl rfl | exact Or.inr rfl)) (fun _ _ _ _ _ => pts_nil) (fun _ _ _ _ _ => pe_op op_addU (pv 3) (pe_lst (pa_cons (pv 2) (pa_nil)))))))))
      (pss_one (ps_ret (pe_callB (cr_sortD (un70 hr)) (by rfl) (T.free "sorted") (by decide +kernel) (pa_cons (pv 1) (pa_nil))))))), ?_⟩
    have p32 : ∀ j, j ≤ m → (subs j).length ≤ 32 := fun j hj => by rw [subs_len]; exact Nat.le_trans (Nat.pow_le_pow_right (by decide) (Nat.le_trans hj hm)) (by decide)
    refine set_is (is_lst (ds := [.list []]) (isa_cons (is_lst (ds := []) isa_nil (Nat.zero_le _)) isa_nil) (by simp)) z fun f0 G0 H0 g0 pf => ?_
    refine for_rng (n := m) (isa_cons (is_d rfl (hv.mono g0.gg)) isa_nil) (by omega) g0.gh (fun i σ' G' H' => ∃ lv p, σ' = [some v, some lv, p, none] ∧ Gr0 G H G' H' ∧ DV G' lv (.list ((subs i).map nums)))
      (fun G1 H1 g1 => ⟨_, _, rfl, g0.trans g1, pf.mono g1.gg⟩) ?_ ?_
    · rintro i σ' G' H' hi zs zg ⟨lv', p', rfl, g, dl⟩
      refine ⟨_, gt_name, fun N hN => ?_⟩
      have hl1 := p32 i (by omega)
      refine set_is (is_op (is_d rfl dl) (is_lcA nums (xs := subs i) (p := fun _ => true) (q := fun xs => nums (xs ++ [i])) (is_d rfl dl) (by omega) fun x xs F2 hxs s2 hx => ⟨_, gt_name, rfl, fun G2 H2 _ s4 Q q => q G2 H2 (.refl s4), fun _ => Is.eqd (is_op (is_d rfl hx) (is_lst (ds := [.int (i : Int)]) (isa_cons (is_d rfl (.int _)) isa_nil) (by simp)) (ri_addL ?_)) ?_⟩) (ri_addL ?_)) zs fun lv2 G2 H2 g2 p2 => hN _ G2 H2 g2.gg g2.gh ⟨lv2, _, rfl, g.trans g2, ?_⟩
      · obtain ⟨h1, h2⟩ := mem_subs.mp hxs
        have := asc_len h1 h2
        rw [List.length_map]
        simp only [List.length_cons, List.length_nil]; omega
      · show PyData.list _ = .list _
        rw [List.map_append]; rfl
      · rw [List.length_map, List.length_map]
        have := List.length_filter_le (fun _ : List Nat => true) (subs i)
        omega
      · have e : (subs (i + 1)).map nums = (subs i).map nums ++ ((subs i).filter fun _ => true).map fun xs => nums (xs ++ [i]) := by
          rw [List.filter_eq_self.mpr fun _ _ => rfl]
          simp only [subs, List.map_append, List.map_map]; rfl
        rw [e]; exact p2
    · rintro σ' G' H' zs zg ⟨lv', p', rfl, g, dl⟩
      have hls := p32 m (Nat.le_refl _)
      dsimp only
      refine ret_is (Is.eqd (is_cb (isa_cons (is_d rfl dl) isa_nil) (rc_sortD (alike_nums _) (sortable_nums _) (fun d hd => ?_) (by rw [List.length_map]; omega))) (congrArg PyData.list (dsort_nums _))) zs fun v G3 H3 g3 pv => k v G3 H3 (g.trans g3) pv
      obtain ⟨xs, _, rfl⟩ := List.mem_map.mp hd
      exact ⟨noDict_nums _, depth_nums _⟩

end
end Yd
set_option Elab.async false
set_option linter.all false
set_option maxRecDepth 100000
set_option maxHeartbeats 4000000
namespace Yd
open PySem PySem.Spec L2

open PySem.W (AllAlike Sortable)
/-- x, y = (e, []): through a tuple -/
theorem asg_pair {K : PySem.W.Frag} {σ : L2.St} {G H : Hp} {ta tb : TE} {p q : Pm} {i j : Nat} {D : Ends} (ha : Is ta σ G p) (hb : Is tb σ G q) (s : Same G H) (k : ∀ v w G2 H2, Gr0 G H G2 H2 → p.P v G2 → q.P w G2 → D.nx ((σ.set i (some v)).set j (some w)) H2) :
    tAsg (tTup (tCons ta (tCons tb tNil))) (gTup K 2 (gCons (gName i) (gCons (gName j) gNil))) D σ H := by
  have key : tCons ta (tCons tb tNil) σ H (fun vs H1 => vs.length ≤ sizeLine ∧ ∀ a, H1 a = none → gTup K 2 (gCons (gName i) (gCons (gName j) gNil)) (.ref a) σ (upd H1 a (.tup vs)) D.nx) := (isa_cons ha (isa_cons hb isa_nil)) G H (Same.refl _) s _ fun vs G2 H2 g2 pv => by
    obtain ⟨v, w, rfl, hv, hw⟩ := allp2 pv
    refine ⟨by show 2 ≤ sizeLine; decide, fun a ha => ?_⟩
    have g3 : Gr0 G2 H2 (upd G2 a (.tup [v, w])) (upd H2 a (.tup [v, w])) := .new g2.gh ha
    exact gt_tup2 (G := upd G2 a (.tup [v, w])) upd_same _ g3.gh _ (k v w _ _ (g2.trans g3) (p.mono _ _ _ g3.gg hv) (q.mono _ _ _ g3.gg hw))
  exact key
theorem ofK_sort (k : Str) (rs : List Road) : rsort (rs.filter fun r => decide (r.1 = k)) = ofK k (rsort rs) := (rsort_filter _ _).symm
section
variable {P : Program} {w : World} {K : PySem.W.Frag} {mg : Str → Option Value} {base : Heap}
theorem sc_lline_web : FnScope ["_law_web", "_law_kind", "_law_lines", "_law_found", "_law_road", "_law_at", "_law_to"] ["_law_web", "_law_kind"] (defScope (top 58)) := ⟨rfl, rfl, rfl, by decide +kernel, rfl, by decide +kernel, by decide +kernel⟩
theorem has_lline_web (T : Tx K mg) : Has P w K mg base CX0 1 "_law_line_web" ["_law_web", "_law_kind"] (PureSp preLineWeb) := by
  refine T.has 43 (fun fd F => F.ok sc_lline_web (fun vs H Q E h => ?_) fun cdv A outer s H vs Q E hr h => ?_) (fun fd F => F.bindsN fun _ _ _ _ _ _ us hl => match us, hl with | [_, _], _ => rfl)
  · obtain ⟨G, p, _, ⟨_, _, _, _, _, _, a, _⟩, _⟩ := h; exact a.len
  · obtain ⟨G, p, z, ⟨n, rs, kd, hk, hrk, hz, a, rfl⟩, k⟩ := h
    obtain ⟨v, u, rfl, hv, hu⟩ := allp2 a
    refine ⟨_, PSs.nox (pss_cons (ps_asg (pe_tup (pa_cons (pe_callB (cr_sortD (un70 hr)) (by rfl) (T.free "sorted") (by decide +kernel) (pa_cons (pe_lc (own := [("_law_road", 4)]) rfl sc_lline_web.nd (pi_listK (K := K) rfl (pe_ix (ix_seqK (K := K) rfl) (pv 0) (pe_int) (fun _ _ => rfl))) (blkOk_by (by rfl)) (fun _ _ _ _ _ => pg_name (i := 4) sc_lline_web.nd rfl (by first | exact Or.inl rfl | exact Or.inr rfl)) (fun _ _ _ _ _ => pts_one (pt_cmpR (op_eqDK (K := K) rfl (un70 hr)) (pe_ix (ix_seqK (K := K) rfl) (pv 4) (pe_int) (fun _ _ => rfl)) (pv 1) (nomark _))) (fun _ _ _ _ _ => pv 4)) (pa_nil))) (pa_cons (pe_lst (pa_nil)) (pa_nil)))) (pg_tupK (K := K) (n := 2) rfl rfl (pgs_cons (pg_name (i := 2) sc_lline_web.nd rfl (by first | exact Or.inl rfl | exact Or.inr rfl)) (pgs_cons (pg_name (i := 3) sc_lline_web.nd rfl (by first | exact Or.inl rfl | exact Or.inr rfl)) (pgs_nil)))))
      (pss_cons (ps_for PassesOwn.never rfl (pi_range1 rfl (T.free "range") (pa_cons (pe_callB (call_lenK (K := K) rfl) (by rfl) (T.free "len") (by decide +kernel) (pa_cons (pv 2) (pa_nil))) (pa_nil))) (pg_name (i := 5) sc_lline_web.nd rfl (by first | exact Or.inl rfl | exact Or.inr rfl)) (pss_one (ps_set (i := 3) sc_lline_web.nd rfl (by first | exact Or.inl rfl | exact Or.inr rfl) (pe_op op_addU (pv 3) (pe_lc (own := [("_law_to", 6)]) rfl sc_lline_web.nd (pi_range1 rfl (T.free "range") (pa_cons (pe_callB (call_lenK (K := K) rfl) (by rfl) (T.free "len") (by decide +kernel) (pa_cons (pv 2) (pa_nil))) (pa_nil))) (blkOk_by (by rfl)) (fun _ _ _ _ _ => pg_name (i := 6) sc_lline_web.nd rfl (by first | exact Or.inl rfl | exact Or.inr rfl)) (fun _ _ _ _ _ => pts_one (pt_cmpR (op_eqDK (K := K) rfl (un70 hr)) (pe_ix (ix_seqK (K := K) rfl) (pe_ix (ix_seqK (K := K) rfl) (pv 2) (pv 5) (fun _ _ => rfl)) (pe_int) (fun _ _ => rfl)) (pe_ix (ix_seqK (K := K) rfl) (pe_ix (ix_seqK (K := K) rfl) (pv 2) (pv 6) (fun _ _ => rfl)) (pe_int) (fun _ _ => rfl)) (nomark _))) (fun _ _ _ _ _ => pe_tup (pa_cons (pv 1) (pa_cons (pv 5) (pa_cons (pv 6) (pa_nil))))))))))
      (pss_one (ps_ret (pe_lst (pa_cons (pe_callB (call_lenK (K := K) rfl) (by rfl) (T.free "len") (by decide +kernel) (pa_cons (pv 2) (pa_nil))) (pa_cons (pv 3) (pa_nil)))))))), ?_⟩
    have hfl := List.length_filter_le (fun r : Road => decide (r.1 = kd)) rs
    have hLl : (ofK kd (rsort rs)).length ≤ 32 := by rw [← ofK_sort, (rsort_perm _).length_eq]; omega
    obtain ⟨L, eL⟩ : ∃ L, L = ofK kd (rsort rs) := ⟨_, rfl⟩
    rw [← eL] at hLl k
    refine asg_pair (p := dat (.list (L.map rd))) (q := dat (.list [])) (Is.eqd (is_cb (isa_cons (is_lcA rd (p := fun r => decide (r.1 = kd)) (q := rd) (is_lw1 (is_d rfl hv)) (by omega) fun x r G1 hr1 s1 hx => ⟨_, gt_name, rfl, IsT.eqb (ist_test (is_op (is_op (is_d rfl hx) (is_int 0) (ri_ixT (j := 0) rfl rfl)) (is_d rfl (hu.mono s1)) (ri_eqD (Sd.sh (n := 1) (sd_str (hrk r hr1).sok)) (Sd.sh (n := 1) (sd_str hk.sok))))) (eqv_str _ _), fun _ => is_d rfl hx⟩) isa_nil)
      (rc_sortD (alike_rds _) (sortable_rds _) (fun d hd => ?_) (by rw [List.length_map]; omega))) ?_) (is_lst (ds := []) isa_nil (Nat.zero_le _)) z fun lv f0 G0 H0 g0 dL pf => ?_
    · obtain ⟨r, _, rfl⟩ := List.mem_map.mp hd
      exact ⟨noDict_rd r, depth_rd r⟩
    · rw [dsort_rds, ofK_sort, ← eL]
    have rl : ∀ i, i ≤ L.length → ((List.range i).flatMap (lineRow L kd)).length ≤ 1024 := fun i hi => Nat.le_trans (rows_len L.length kd _ i) (Nat.le_trans (Nat.mul_le_mul (Nat.le_trans hi hLl) hLl) (by decide))
    refine for_rng (n := L.length) (isa_cons (is_cb (isa_cons (is_d rfl dL) isa_nil) (len_map rd L)) isa_nil) (by omega) g0.gh (fun i σ' G' H' => ∃ b f, σ' = [some v, some u, some lv, some f, none, b, none] ∧ Gr0 G H G' H' ∧ Same G0 G' ∧ DV G' f (.list (((List.range i).flatMap (lineRow L kd)).map rd)))
      (fun G1 H1 g1 => ⟨_, _, rfl, g0.trans g1, g1.gg, pf.mono g1.gg⟩) ?_ ?_
    · rintro i σ' G' H' hi zs zg ⟨b0, f, rfl, g, s0, df⟩
      refine ⟨_, gt_name, fun N hN => ?_⟩
      have dL' := dL.mono s0
      have hu' := hu.mono g.gg
      refine set_is (p := dat (.list (((List.range (i + 1)).flatMap (lineRow L kd)).map rd))) (Is.eqd (is_op (is_d rfl df) (is_lcR (n := L.length) (f := fun j => decide (((L.getD i d0).2.2 : Int) = ((L.getD j d0).2.1 : Int))) (o := fun j => rd (kd, i, j)) (isa_cons (is_cb (isa_cons (is_d rfl dL') isa_nil) (len_map rd L)) isa_nil) (by omega) fun j G1 hj s1 => ?_) (ri_addL ?_)) ?_) zs fun f2 G2 H2 g2 pf2 => hN _ G2 H2 g2.gg g2.gh ⟨_, _, rfl, g.trans g2, s0.trans g2.gg, pf2⟩
      · refine ⟨_, gt_name, rfl, IsT.eqb (ist_test (is_op (is_op (is_op (is_d rfl (dL'.mono s1)) (is_d rfl (.int _)) (ri_ixL (j := i) rfl (rd_get hi))) (is_int 2) (ri_ixT (j := 2) rfl rfl)) (is_op (is_op (is_d rfl (dL'.mono s1)) (is_d rfl (.int _)) (ri_ixL (j := j) rfl (rd_get hj))) (is_int 1) (ri_ixT (j := 1) rfl rfl)) (ri_eqD (Sd.sh (n := 1) (sd_int _)) (Sd.sh (n := 1) (sd_int _))))) (eqv_int _ _), fun _ => is_tup (ds := [.str kd, .int (i : Int), .int (j : Int)]) (isa_cons (is_d rfl (hu'.mono s1)) (isa_cons (is_d rfl (.int _)) (isa_cons (is_d rfl (.int _)) isa_nil))) (by simp)⟩
      · rw [line_rowB, List.length_map, List.length_map]
        have h2 := rl (i + 1) (by omega)
        rw [flat_succ, List.length_append] at h2
        omega
      · rw [line_rowB, flat_succ, List.map_append]
    · rintro σ' G' H' zs zg ⟨b0, f, rfl, g, s0, df⟩
      dsimp only
      refine ret_is (is_lst (ds := [.int (L.length : Int), .list ((lineEdges L kd).map rd)]) (isa_cons (is_cb (isa_cons (is_d rfl (dL.mono s0)) isa_nil) (len_map rd L)) (isa_cons (is_d rfl df) isa_nil)) (by simp)) zs fun v G3 H3 g3 pv => k v G3 H3 (g.trans g3) pv

theorem sc_lpairs_of : FnScope ["_law_dyes", "_law_kind", "_law_found", "_law_lot", "_law_ahead", "_law_end", "_law_at", "_law_behind"] ["_law_dyes", "_law_kind"] (defScope (top 59)) := ⟨rfl, rfl, rfl, by decide +kernel, rfl, by decide +kernel, by decide +kernel⟩
theorem has_lpairs_of (T : Tx K mg) : Has P w K mg base CX0 2 "_law_pairs_of" ["_law_dyes", "_law_kind"] (PureSp prePairsOf) := by
  refine T.has 44 (fun fd F => F.ok sc_lpairs_of (fun vs H Q E h => ?_) fun cdv A outer s H vs Q E hr h => ?_) (fun fd F => F.bindsN fun _ _ _ _ _ _ us hl => match us, hl with | [_, _], _ => rfl)
  · obtain ⟨G, p, _, ⟨_, _, _, _, _, _, a, _⟩, _⟩ := h; exact a.len
  · obtain ⟨G, p, z, ⟨m, ms, kd, hm, hk, hmk, a, rfl⟩, k⟩ := h
    obtain ⟨v, u, rfl, hv, hu⟩ := allp2 a
    refine ⟨_, PSs.nox (pss_cons (ps_set (i := 2) sc_lpairs_of.nd rfl (by first | exact Or.inl rfl | exact Or.inr rfl) (pe_lst (pa_nil)))
      (pss_cons (ps_for PassesOwn.never rfl (pi_listK (K := K) rfl (pe_callH (has_llots T) (hr.mono (by decide)) pass0 (pa_cons (pe_ix (ix_seqK (K := K) rfl) (pv 0) (pe_int) (fun _ _ => rfl)) (pa_nil)))) (pg_name (i := 3) sc_lpairs_of.nd rfl (by first | exact Or.inl rfl | exact Or.inr rfl)) (pss_cons (ps_set (i := 4) sc_lpairs_of.nd rfl (by first | exact Or.inl rfl | exact Or.inr rfl) (pe_lc (own := [("_law_end", 5)]) rfl sc_lpairs_of.nd (pi_range1 rfl (T.free "range") (pa_cons (pe_ix (ix_seqK (K := K) rfl) (pv 0) (pe_int) (fun _ _ => rfl)) (pa_nil))) (blkOk_by (by rfl)) (fun _ _ _ _ _ => pg_name (i := 5) sc_lpairs_of.nd rfl (by first | exact Or.inl rfl | exact Or.inr rfl)) (fun _ _ _ _ _ => pts_one (pt_cmpR (op_eqDK (K := K) rfl (un70 hr)) (pe_lc (own := [("_law_at", 6)]) rfl sc_lpairs_of.nd (pi_listK (K := K) rfl (pv 3)) (blkOk_by (by rfl)) (fun _ _ _ _ _ => pg_name (i := 6) sc_lpairs_of.nd rfl (by first | exact Or.inl rfl | exact Or.inr rfl)) (fun _ _ _ _ _ => pts_one (pt_cmpR (op_notInDK (K := K) rfl (un70 hr)) (pe_tup (pa_cons (pv 1) (pa_cons (pv 6) (pa_cons (pv 5) (pa_nil))))) (pe_ix (ix_seqK (K := K) rfl) (pv 0) (pe_int) (fun _ _ => rfl)) (by rfl))) (fun _ _ _ _ _ => pv 6)) (pe_lst (pa_nil)) (nomark _))) (fun _ _ _ _ _ => pv 5)))
        (pss_cons (ps_setLc (i := 7) (own := [("_law_at", 6)]) rfl sc_lpairs_of.nd rfl rfl (sw_true rfl rfl rfl (by rfl)) (pi_range1 rfl (T.free "range") (pa_cons (pe_ix (ix_seqK (K := K) rfl) (pv 0) (pe_int) (fun _ _ => rfl)) (pa_nil))) (blkOk_by (by rfl)) (fun _ _ _ _ _ => pg_name (i := 6) sc_lpairs_of.nd rfl (by first | exact Or.inl rfl | exact Or.inr rfl)) (fun _ _ _ _ _ => pts_one (pt_cmpR (op_eqDK (K := K) rfl (un70 hr)) (pe_lc (own := [("_law_end", 5)]) rfl sc_lpairs_of.nd (pi_listK (K := K) rfl (pv 4)) (blkOk_by (by rfl)) (fun _ _ _ _ _ => pg_name (i := 5) sc_lpairs_of.nd rfl (by first | exact Or.inl rfl | exact Or.inr rfl)) (fun _ _ _ _ _ => pts_one (pt_cmpR (op_notInDK (K := K) rfl (un70 hr)) (pe_tup (pa_cons (pv 1) (pa_cons (pv 6) (pa_cons (pv 5) (pa_nil))))) (pe_ix (ix_seqK (K := K) rfl) (pv 0) (pe_int) (fun _ _ => rfl)) (by rfl))) (fun _ _ _ _ _ => pv 5)) (pe_lst (pa_nil)) (nomark _))) (fun _ _ _ _ _ => pv 6))
        (pss_one (ps_if (pt_cmpR (op_eqDK (K := K) rfl (un70 hr)) (pv 7) (pv 3) (nomark _)) (pss_one (ps_expr (pe_bm PySem.F.plainAttrs_list PySem.F.slot_list_append PySem.F.type_list_append mt_append (pv 2) (pa_cons (pe_tup (pa_cons (pv 3) (pa_cons (pv 4) (pa_nil)))) (pa_nil))))) (pss_nil))))))
      (pss_one (ps_ret (pv 2))))), ?_⟩
    refine ⟨Nat.zero_le _, fun l hl => ?_⟩
    have O0 := Own.start (.refl z) hl
    have hss : (ssubs m).length ≤ 32 := by rw [ssubs_len]; exact Nat.le_trans (Nat.pow_le_pow_right (by decide) hm) (by decide)
    refine for_dat (ds := (ssubs m).map nums) (is_call (isa_cons (is_lw0 (is_d rfl hv)) isa_nil) fun vs G1 _ a => ⟨m, hm, a, rfl⟩) O0.g.gh
      (fun i σ' G' H' => (∃ x y w, σ' = [some v, some u, some (.ref l), x, y, none, none, w]) ∧ Own G H G' H' l (((((ssubs m).take i).filter fun lot => decide (behindL m kd ms (aheadL m kd ms lot) = lot)).map fun lot => (lot, aheadL m kd ms lot)).map prD))
      (fun G2 H2 g2 => ⟨⟨_, _, _, rfl⟩, O0.grow g2⟩) ?_ ?_
    · rintro i y d σ' G' H' hi hy zs zg ⟨⟨x0, y0, w0, rfl⟩, O⟩
      rw [List.getElem?_map, Option.map_eq_some_iff] at hi
      obtain ⟨lot, hlot, rfl⟩ := hi
      have hmem : lot ∈ subs m := mem_ssubs.mp (List.mem_of_getElem? hlot)
      obtain ⟨hp1, hp2⟩ := mem_subs.mp hmem
      have hll := asc_len hp1 hp2
      have hil : i < (ssubs m).length := (List.getElem?_eq_some_iff.mp hlot).1
      refine ⟨_, gt_name, fun N hN => ?_⟩
      have hv' := hv.mono O.g.gg
      have hu' := hu.mono O.g.gg
      refine set_is (p := dat (nums (aheadL m kd ms lot))) (is_lcR (n := m) (f := fun e => lot.all fun s => decide ((kd, s, e) ∈ ms)) (o := fun e => .int (e : Int)) (isa_cons (is_lw0 (is_d rfl hv')) isa_nil) (by omega) fun e G3 he s3 => ⟨_, gt_name, rfl, IsT.eqb (ist_test (is_op (is_lcA (fun n : Nat => PyData.int (n : Int)) (xs := lot) (p := fun s => !decide ((kd, s, e) ∈ ms)) (q := fun n : Nat => PyData.int (n : Int)) (is_d rfl (hy.mono s3)) (by omega) fun w s G4 hs s4 hw => ⟨_, gt_name, rfl,
        IsT.eqb (ist_test (is_op (is_tup (ds := [.str kd, .int (s : Int), .int (e : Int)]) (isa_cons (is_d rfl (hu'.mono (s3.trans s4))) (isa_cons (is_d rfl hw) (isa_cons (is_d rfl (.int _)) isa_nil))) (by simp)) (is_lw1 (is_d rfl (hv'.mono (s3.trans s4)))) (ri_notInD (Sd.sh (n := 3) (sd_rd (n := 2) (r := (kd, s, e)) hk)) (Sd.sh (n := 5) (sd_rds hmk))))) (congrArg (fun b => !b) (any_rd (kd, s, e) ms)), fun _ => is_d rfl hw⟩)
        (is_lst (ds := []) isa_nil (Nat.zero_le _)) (ri_eqD (Sd.sh (n := 1) (sd_nums _)) (Sd.sh (n := 1) sd_nil)))) (by rw [eqv_nil, List.isEmpty_map, filter_nil_all]), fun _ => is_d rfl (.int _)⟩) zs fun ah G2 H2 g2 pa => ?_
      have hal := ahead_len m kd ms lot
      refine set_is (p := dat (nums (behindL m kd ms (aheadL m kd ms lot)))) (is_lcR (n := m) (f := fun e => (aheadL m kd ms lot).all fun s => decide ((kd, e, s) ∈ ms)) (o := fun e => .int (e : Int)) (isa_cons (is_lw0 (is_d rfl (hv'.mono g2.gg))) isa_nil) (by omega) fun e G3 he s3 => ⟨_, gt_name, rfl, IsT.eqb (ist_test (is_op (is_lcA (fun n : Nat => PyData.int (n : Int)) (xs := aheadL m kd ms lot) (p := fun s => !decide ((kd, e, s) ∈ ms)) (q := fun n : Nat => PyData.int (n : Int)) (is_d rfl (pa.mono s3)) (by omega) fun w s G4 hs s4 hw => ⟨_, gt_name, rfl,
        IsT.eqb (ist_test (is_op (is_tup (ds := [.str kd, .int (e : Int), .int (s : Int)]) (isa_cons (is_d rfl (hu'.mono (g2.gg.trans (s3.trans s4)))) (isa_cons (is_d rfl (.int _)) (isa_cons (is_d rfl hw) isa_nil))) (by simp)) (is_lw1 (is_d rfl (hv'.mono (g2.gg.trans (s3.trans s4))))) (ri_notInD (Sd.sh (n := 3) (sd_rd (n := 2) (r := (kd, e, s)) hk)) (Sd.sh (n := 5) (sd_rds hmk))))) (congrArg (fun b => !b) (any_rd (kd, e, s) ms)), fun _ => is_d rfl hw⟩)
        (is_lst (ds := []) isa_nil (Nat.zero_le _)) (ri_eqD (Sd.sh (n := 1) (sd_nums _)) (Sd.sh (n := 1) sd_nil)))) (by rw [eqv_nil, List.isEmpty_map, filter_nil_all]), fun _ => is_d rfl (.int _)⟩) g2.gh fun bh G3 H3 g3 pb => ?_
      have O3 := O.grow (g2.trans g3)
      refine if_is (b := decide (behindL m kd ms (aheadL m kd ms lot) = lot)) (IsT.eqb (ist_test (is_op (is_d rfl pb) (is_d rfl (hy.mono (g2.trans g3).gg)) (ri_eqD (Sd.sh (n := 1) (sd_nums _)) (Sd.sh (n := 1) (sd_nums _))))) (eqv_nums _ _)) g3.gh (fun hb G5 H5 g5 => ?_) fun hb G5 H5 g5 => ?_
      · refine app_ow (O3.grow g5) rfl (is_tup (ds := [nums lot, nums (aheadL m kd ms lot)]) (isa_cons (is_d rfl (hy.mono ((g2.trans g3).trans g5).gg)) (isa_cons (is_d rfl (pa.mono (g3.trans g5).gg)) isa_nil)) (by simp)) ?_ fun G6 H6 O6 s6 => hN _ G6 H6 (((g2.trans g3).trans g5).gg.trans s6) O6.g.gh ⟨⟨_, _, _, rfl⟩, ?_⟩
        · rw [List.length_map, List.length_map]
          have := List.length_filter_le (fun lot => decide (behindL m kd ms (aheadL m kd ms lot) = lot)) ((ssubs m).take i)
          rw [List.length_take] at this
          omega
        · rw [List.take_succ, hlot, List.filter_append, List.map_append, List.map_append]
          have e : [lot].filter (fun lot => decide (behindL m kd ms (aheadL m kd ms lot) = lot)) = [lot] := by rw [List.filter_cons, if_pos hb]; rfl
          show Own G H G6 H6 l (_ ++ (([lot].filter _).map _).map prD)
          rw [e]
          exact O6
      · refine hN _ G5 H5 ((g2.trans g3).trans g5).gg g5.gh ⟨⟨_, _, _, rfl⟩, ?_⟩
        rw [List.take_succ, hlot, List.filter_append, List.map_append, List.map_append]
        have e : [lot].filter (fun lot => decide (behindL m kd ms (aheadL m kd ms lot) = lot)) = [] := by rw [List.filter_cons, if_neg (by rw [hb]; exact Bool.false_ne_true)]; rfl
        show Own G H _ H5 l (_ ++ (([lot].filter _).map _).map prD)
        rw [e, List.map_nil, List.map_nil, List.append_nil]
        exact O3.grow g5
    · rintro σ' G' H' zs zg ⟨⟨x0, y0, w0, rfl⟩, O⟩
      rw [List.length_map, List.take_length] at O
      obtain ⟨G2, g2, dv, s2⟩ := O.fin
      exact ⟨_, rfl, k _ G2 H' g2 dv⟩

theorem sc_lpair_web : FnScope ["_law_some", "_law_kind", "_law_found", "_law_at", "_law_near", "_law_to", "_law_far", "_law_place"] ["_law_some", "_law_kind"] (defScope (top 60)) := ⟨rfl, rfl, rfl, by decide +kernel, rfl, by decide +kernel, by decide +kernel⟩
theorem has_lpair_web (T : Tx K mg) : Has P w K mg base CX0 1 "_law_pair_web" ["_law_some", "_law_kind"] (PureSp prePairWeb) := by
  refine T.has 45 (fun fd F => F.ok sc_lpair_web (fun vs H Q E h => ?_) fun cdv A outer s H vs Q E hr h => ?_) (fun fd F => F.bindsN fun _ _ _ _ _ _ us hl => match us, hl with | [_, _], _ => rfl)
  · obtain ⟨G, p, _, ⟨_, _, _, _, _, a, _⟩, _⟩ := h; exact a.len
  · obtain ⟨G, p, z, ⟨ps, kd, hk, hL, hps, a, rfl⟩, k⟩ := h
    obtain ⟨v, u, rfl, hv, hu⟩ := allp2 a
    refine ⟨_, PSs.nox (pss_cons (ps_set (i := 2) sc_lpair_web.nd rfl (by first | exact Or.inl rfl | exact Or.inr rfl) (pe_lst (pa_nil)))
      (pss_cons (ps_for PassesOwn.never rfl (pi_enumK (K := K) rfl (by rfl) (T.free "enumerate") (pa_cons (pv 0) (pa_nil))) (pg_tupK (K := K) (n := 2) rfl rfl (pgs_cons (pg_name (i := 3) sc_lpair_web.nd rfl (by first | exact Or.inl rfl | exact Or.inr rfl)) (pgs_cons (pg_name (i := 4) sc_lpair_web.nd rfl (by first | exact Or.inl rfl | exact Or.inr rfl)) (pgs_nil)))) (pss_one (ps_for PassesOwn.never rfl (pi_enumK (K := K) rfl (by rfl) (T.free "enumerate") (pa_cons (pv 0) (pa_nil))) (pg_tupK (K := K) (n := 2) rfl rfl (pgs_cons (pg_name (i := 5) sc_lpair_web.nd rfl (by first | exact Or.inl rfl | exact Or.inr rfl)) (pgs_cons (pg_name (i := 6) sc_lpair_web.nd rfl (by first | exact Or.inl rfl | exact Or.inr rfl)) (pgs_nil)))) (pss_one (ps_if (pt_cmpR (op_neDK (K := K) rfl (un70 hr)) (pe_lc (own := [("_law_place", 7)]) rfl sc_lpair_web.nd (pi_listK (K := K) rfl (pe_ix (ix_seqK (K := K) rfl) (pv 4) (pe_int) (fun _ _ => rfl))) (blkOk_by (by rfl)) (fun _ _ _ _ _ => pg_name (i := 7) sc_lpair_web.nd rfl (by first | exact Or.inl rfl | exact Or.inr rfl)) (fun _ _ _ _ _ => pts_one (pt_cmpR (op_inDK (K := K) rfl (un70 hr)) (pv 7) (pe_ix (ix_seqK (K := K) rfl) (pv 6) (pe_int) (fun _ _ => rfl)) (by rfl))) (fun _ _ _ _ _ => pv 7)) (pe_lst (pa_nil)) (nomark _)) (pss_one (ps_expr (pe_bm PySem.F.plainAttrs_list PySem.F.slot_list_append PySem.F.type_list_append mt_append (pv 2) (pa_cons (pe_tup (pa_cons (pv 1) (pa_cons (pv 3) (pa_cons (pv 5) (pa_nil))))) (pa_nil))))) (pss_nil))))))
      (pss_one (ps_ret (pe_lst (pa_cons (pe_callB (call_lenK (K := K) rfl) (by rfl) (T.free "len") (by decide +kernel) (pa_cons (pv 0) (pa_nil))) (pa_cons (pv 2) (pa_nil)))))))), ?_⟩
    have rl : ∀ i, i ≤ ps.length → ((List.range i).flatMap (pairRow ps kd)).length ≤ 1024 := fun i hi => Nat.le_trans (rows_len ps.length kd _ i) (Nat.le_trans (Nat.mul_le_mul (Nat.le_trans hi hL) hL) (by decide))
    refine ⟨Nat.zero_le _, fun l hl => ?_⟩
    have O0 := Own.start (.refl z) hl
    refine for_enm (ds := ps.map prD) (isa_cons (is_d rfl hv) isa_nil) O0.g.gh (fun i σ' G' H' => (∃ a b c d, σ' = [some v, some u, some (.ref l), a, b, c, d, none]) ∧ Own G H G' H' l (((List.range i).flatMap (pairRow ps kd)).map rd))
      (fun G1 H1 g1 => ⟨⟨_, _, _, _, rfl⟩, O0.grow g1⟩) (fun i σ' G' H' G3 H3 ⟨e, O⟩ g3 => ⟨e, O.grow g3⟩) ?_ ?_
    · rintro i x d T1 σ' G' H' hi hx hT zs zg ⟨⟨a0, b0, c0, d0', rfl⟩, O⟩
      rw [List.getElem?_map, Option.map_eq_some_iff] at hi
      obtain ⟨r, hri, rfl⟩ := hi
      have hil : i < ps.length := (List.getElem?_eq_some_iff.mp hri).1
      have er := getD_get (d := ([], [])) hri
      refine ⟨_, gt_tup2 hT, fun N hN => ?_⟩
      refine for_enm (ds := ps.map prD) (isa_cons (is_d rfl (hv.mono O.g.gg)) isa_nil) zs (fun j σ' G2 H2 => (∃ c d, σ' = [some v, some u, some (.ref l), some (.int (i : Int)), some x, c, d, none]) ∧ Same G' G2 ∧ Own G H G2 H2 l (((List.range i).flatMap (pairRow ps kd) ++ (((List.range j).filter fun j => (ps.getD i ([], [])).2.any fun x => decide (x ∈ (ps.getD j ([], [])).1)).map fun j => ((kd, i, j) : Road))).map rd))
        (fun G1 H1 g1 => ⟨⟨_, _, rfl⟩, g1.gg, by simpa using O.grow g1⟩) (fun j σ' G2 H2 G3 H3 ⟨e, s, O⟩ g3 => ⟨e, s.trans g3.gg, O.grow g3⟩) ?_ ?_
      · rintro j y d T2 σ2 G2 H2 hj hy hT2 zs2 zg2 ⟨⟨c1, d1, rfl⟩, s2, O2⟩
        rw [List.getElem?_map, Option.map_eq_some_iff] at hj
        obtain ⟨q, hqj, rfl⟩ := hj
        have hjl : j < ps.length := (List.getElem?_eq_some_iff.mp hqj).1
        have eq := getD_get (d := ([], [])) hqj
        have hx2 := hx.mono s2
        refine ⟨_, gt_tup2 hT2, fun N2 hN2 => ?_⟩
        refine if_is (b := (ps.getD i ([], [])).2.any fun x => decide (x ∈ (ps.getD j ([], [])).1)) (IsT.eqb (ist_test (is_op (is_lcA (fun n : Nat => PyData.int (n : Int)) (xs := r.2) (p := fun x => decide (x ∈ q.1)) (q := fun n : Nat => PyData.int (n : Int)) (is_op (is_d rfl hx2) (is_int 1) (ri_ixT (j := 1) rfl rfl)) ?_ fun w m G3 hm s3 hw => ⟨_, gt_name, rfl, IsT.eqb (ist_test (is_op (is_d rfl hw) (is_op (is_d rfl (hy.mono s3)) (is_int 0) (ri_ixT (j := 0) rfl rfl)) (ri_inD (Sd.sh (n := 1) (sd_int _)) (Sd.sh (n := 1) (sd_nums _))))) (any_nat _ _), fun _ => is_d rfl hw⟩) (is_lst (ds := []) isa_nil (Nat.zero_le _)) (ri_neD (Sd.sh (n := 1) (sd_nums _)) (Sd.sh (n := 1) sd_nil)))) ?_) zs2 (fun hb G3 H3 g3 => ?_) fun hb G3 H3 g3 => ?_
        · have := hps r (List.mem_of_getElem? hri); omega
        · rw [eqv_nil, List.isEmpty_map, filter_any, er, eq]
        · refine app_ow (O2.grow g3) rfl (is_tup (ds := [.str kd, .int (i : Int), .int (j : Int)]) (isa_cons (is_d rfl (hu.mono (O2.g.gg.trans g3.gg))) (isa_cons (is_d rfl (.int _)) (isa_cons (is_d rfl (.int _)) isa_nil))) (by simp)) ?_ fun G4 H4 O4 s4 => hN2 _ G4 H4 (g3.gg.trans s4) O4.g.gh ⟨⟨_, _, rfl⟩, s2.trans (g3.gg.trans s4), ?_⟩
          · rw [List.length_map, List.length_append, List.length_map]
            have h1 := rl i (by omega)
            have h2 := List.length_filter_le (fun j => (ps.getD i ([], [])).2.any fun x => decide (x ∈ (ps.getD j ([], [])).1)) (List.range j)
            rw [List.length_range] at h2
            omega
          · rw [pair_row_succ, if_pos hb, ← List.append_assoc, List.map_append]
            exact O4
        · refine hN2 _ G3 H3 g3.gg g3.gh ⟨⟨_, _, rfl⟩, s2.trans g3.gg, ?_⟩
          rw [pair_row_succ, if_neg (by rw [hb]; exact Bool.false_ne_true), List.append_nil]
          exact O2.grow g3
      · rintro σ2 G2 H2 zs2 zg2 ⟨⟨c1, d1, rfl⟩, s2, O2⟩
        rw [List.length_map] at O2
        refine hN _ G2 H2 s2 zs2 ⟨⟨_, _, _, _, rfl⟩, ?_⟩
        rw [flat_succ]
        exact O2
    · rintro σ' G' H' zs zg ⟨⟨a0, b0, c0, d0', rfl⟩, O⟩
      rw [List.length_map] at O
      obtain ⟨G2, g2, dv, s2⟩ := O.fin
      dsimp only
      refine ret_is (is_lst (ds := [.int (ps.length : Int), .list ((pairEdges ps kd).map rd)]) (isa_cons (is_cb (isa_cons (is_d rfl (hv.mono g2.gg)) isa_nil) (len_map prD ps)) (isa_cons (is_d rfl dv) isa_nil)) (by simp)) g2.gh fun v G3 H3 g3 pv => k v G3 H3 (g2.trans g3) pv

end
end Yd
set_option Elab.async false
set_option linter.all false
set_option maxRecDepth 100000
set_option maxHeartbeats 4000000
namespace Yd
open PySem PySem.Spec L2

open PySem.W (AllAlike Sortable)
/-! ### new lists in a list of one's own -/
structure Bks (G H G' H' : Hp) (D : Addr) (as : List Addr) (cs : Nat → List PyData) : Prop where
  g : Gr0 G H G' H'
  hd : H D = none
  gd : G' D = none
  od : H' D = some (.lst (as.map V.ref))
  nd : as.Nodup
  nD : D ∉ as
  el : ∀ i a, as[i]? = some a → H a = none ∧ G' a = none ∧ ∃ vs, H' a = some (.lst vs) ∧ DVs G' vs (cs i)
section
variable {G H G' H' G2 H2 : Hp} {D a : Addr} {as : List Addr} {cs : Nat → List PyData} {K : PySem.W.Frag} {σ : L2.St} {te ti : TE} {d : PyData} {i j : Nat} {E : Ends}
theorem nodup_at {l : List Addr} (h : l.Nodup) {a : Addr} {i j : Nat} (hi : l[i]? = some a) (hj : l[j]? = some a) : i = j := by
  obtain ⟨hi1, hi2⟩ := List.getElem?_eq_some_iff.mp hi
  obtain ⟨hj1, hj2⟩ := List.getElem?_eq_some_iff.mp hj
  have := List.pairwise_iff_getElem.mp h
  rcases Nat.lt_trichotomy i j with c | c | c
  · exact absurd (hi2.trans hj2.symm) (this i j hi1 hj1 c)
  · exact c
  · exact absurd (hj2.trans hi2.symm) (this j i hj1 hi1 c)
theorem Bks.grow (B : Bks G H G' H' D as cs) (g : Gr0 G' H' G2 H2) : Bks G H G2 H2 D as cs where
  g := B.g.trans g
  hd := B.hd
  gd := g.out B.gd B.od
  od := g.same _ _ B.od
  nd := B.nd
  nD := B.nD
  el := fun i a h => by
    obtain ⟨h1, h2, vs, h3, h4⟩ := B.el i a h
    exact ⟨h1, g.out h2 h3, vs, g.same _ _ h3, h4.mono g.gg⟩
theorem Bks.start (s : Same G H) (hD : H D = none) : Bks G H G (upd H D (.lst [])) D [] cs where
  g := .hid s hD
  hd := hD
  gd := s.free hD
  od := upd_same
  nd := List.nodup_nil
  nD := List.not_mem_nil
  el := fun i a h => by simp at h
theorem Bks.more (B : Bks G H G' H' D as cs) (ha : H' a = none) (hc : cs as.length = []) : Bks G H G' (upd (upd H' a (.lst [])) D (.lst (as.map V.ref ++ [.ref a]))) D (as ++ [a]) cs := by
  have na : a ∉ as := fun h => by
    obtain ⟨i, hi, e⟩ := List.getElem_of_mem h
    obtain ⟨_, _, vs, h3, _⟩ := B.el i a (by rw [List.getElem?_eq_getElem hi, e])
    rw [h3] at ha; cases ha
  have nDa : D ≠ a := fun e => by subst e; rw [B.od] at ha; cases ha
  have g1 : Gr0 G' H' G' (upd H' a (.lst [])) := .hid B.g.gh ha
  have ga : G' a = none := B.g.gh.free ha
  have hDD : upd H' a (.lst []) D = some (.lst (as.map V.ref)) := by rw [upd_ne nDa]; exact B.od
  refine ⟨(B.g.trans g1).wr (.inl B.hd) B.gd, B.hd, B.gd, by rw [List.map_append]; exact upd_same, ?_, ?_, fun i b h => ?_⟩
  · exact List.nodup_append.mpr ⟨B.nd, List.pairwise_singleton _ _, fun x hx y hy e => by rw [List.mem_singleton.mp hy] at e; exact na (e ▸ hx)⟩
  · intro h
    rcases List.mem_append.mp h with h | h
    · exact B.nD h
    · exact nDa (List.mem_singleton.mp h)
  · by_cases hi : i < as.length
    · rw [List.getElem?_append_left hi] at h
      obtain ⟨h1, h2, vs, h3, h4⟩ := B.el i b h
      have nb : b ≠ D := fun e => B.nD (e ▸ List.mem_of_getElem? h)
      have nb2 : b ≠ a := fun e => na (e ▸ List.mem_of_getElem? h)
      exact ⟨h1, h2, vs, by rw [upd_ne nb, upd_ne nb2]; exact h3, h4⟩
    · rw [List.getElem?_append_right (by omega)] at h
      obtain ⟨e1, e2⟩ := List.getElem?_eq_some_iff.mp h
      simp only [List.length_cons, List.length_nil] at e1
      have e3 : i = as.length := by omega
      subst e3
      simp at e2
      subst e2
      refine ⟨B.g.th _ ha, ga, [], by rw [upd_ne (Ne.symm nDa)]; exact upd_same, by rw [hc]; exact .nil⟩
theorem Bks.put (B : Bks G H G' H' D as cs) {v : V} {vs : List V} (hi : as[i]? = some a) (hv : H' a = some (.lst vs)) (dv : DV G' v d) : Bks G H G' (upd H' a (.lst (vs ++ [v]))) D as (fun j => if j = i then cs i ++ [d] else cs j) := by
  obtain ⟨h1, h2, us, h3, h4⟩ := B.el i a hi
  cases hv.symm.trans h3
  have nDa : D ≠ a := fun e => B.nD (e ▸ List.mem_of_getElem? hi)
  refine ⟨B.g.wr (.inl h1) h2, B.hd, B.gd, by rw [upd_ne nDa]; exact B.od, B.nd, B.nD, fun k b h => ?_⟩
  by_cases hk : k = i
  · subst hk
    cases hi.symm.trans h
    refine ⟨h1, h2, _, upd_same, ?_⟩
    rw [if_pos rfl]
    exact h4.append (.one dv)
  · obtain ⟨k1, k2, ws, k3, k4⟩ := B.el k b h
    have nb : b ≠ a := fun e => hk (nodup_at B.nd h (e ▸ hi))
    exact ⟨k1, k2, ws, by rw [upd_ne nb]; exact k3, by rw [if_neg hk]; exact k4⟩
theorem Bks.fin (B : Bks G H G' H' D as cs) : ∃ G2, Gr0 G H G2 H' ∧ DV G2 (.ref D) (.list ((List.range as.length).map fun i => .list (cs i))) ∧ Same G' G2 := by
  have hS : ∀ b, (b = D ∨ b ∈ as) → H b = none := fun b hb => by
    rcases hb with rfl | hb
    · exact B.hd
    · obtain ⟨i, hi, e⟩ := List.getElem_of_mem hb
      exact (B.el i b (by rw [List.getElem?_eq_getElem hi, e])).1
  have s := showS_same (S := fun b => b = D ∨ b ∈ as) B.g.gh
  refine ⟨showS (fun b => b = D ∨ b ∈ as) G' H', B.g.shos hS, .lst (by rw [showS_in (.inl rfl)]; exact B.od) ?_, s⟩
  have key : ∀ (l : List Addr) (k : Nat), (∀ i a, l[i]? = some a → as[k + i]? = some a) → DVs (showS (fun b => b = D ∨ b ∈ as) G' H') (l.map V.ref) ((List.range' k l.length).map fun i => .list (cs i)) := by
    intro l
    induction l with
    | nil => intro k _; exact .nil
    | cons a l ih =>
      intro k h
      have h0 := h 0 a rfl
      obtain ⟨h1, h2, vs, h3, h4⟩ := B.el k a h0
      refine .cons (.lst (by rw [showS_in (.inr (List.mem_of_getElem? h0))]; exact h3) (h4.mono s)) (ih (k + 1) fun i b hb => ?_)
      have := h (i + 1) b (by simpa using hb)
      rw [show k + 1 + i = k + (i + 1) by omega]; exact this
  have := key as 0 (fun i a h => by rw [Nat.zero_add]; exact h)
  rw [List.range_eq_range']; exact this
/-- one append into the list at i -/
theorem app_at (B : Bks G H G' H' D as cs) (hσ : σ[j]? = some (some (.ref D))) (hx : Is ti σ G' (dat (.int (i : Int)))) (hi : i < as.length) (h : Is te σ G' (dat d)) (hz : (cs i).length < 100000)
    (k : ∀ G2 H2, Bks G H G2 H2 D as (fun j => if j = i then cs i ++ [d] else cs j) → Same G' G2 → E.nx σ H2) : tDrop (tBM K "list" rAppend (tOp (rIx K) (tVar j) ti) (tCons te tNil)) E σ H' := by
  refine ⟨_, hσ, hx G' H' (Same.refl _) B.g.gh _ fun y G2 H2 g2 py => ?_⟩
  obtain ⟨a, ha⟩ : ∃ a, as[i]? = some a := ⟨_, List.getElem?_eq_getElem hi⟩
  obtain ⟨h1, h2, vs, h3, h4⟩ := B.el i a ha
  have h3' := g2.same _ _ h3
  refine .inl ⟨D, _, (i : Int), .ref a, rfl, py.int_inv, SqL.of (g2.same _ _ B.od), at_of rfl (by rw [List.getElem?_map, ha]; rfl), .inl ⟨rfl, _, SqL.of h3'⟩, ?_⟩
  refine h G2 H2 g2.gg g2.gh _ fun v G3 H3 g3 pv => ?_
  have h3'' := g3.same _ _ h3'
  refine ⟨a, vs, v, rfl, rfl, h3'', sz_lt (by rw [h4.length]; exact hz), ?_⟩
  exact k G3 _ ((B.grow (g2.trans g3)).put ha h3'' pv) (g2.trans g3).gg
/-- a list of new lists -/
theorem lc_nils {ta : TA} {tt : TT} {g : TG} {vs : List Nat} {n : Nat} {G1 H1 : Hp} (hl : IsA ta σ G [dat (.int (n : Int))]) (hz : n ≤ 100000)
    (hs : ∀ i G1, i < n → Same G G1 → ∃ σ2, GT g (.int (i : Int)) (wipe σ vs) G1 σ2 ∧ wipe σ2 vs = wipe σ vs ∧ IsT tt σ2 G1 true) (s1 : Same G G1) (s2 : Same G1 H1) (Q : VK)
    (k : ∀ D as G2 H2, Bks G1 H1 G2 H2 D as (fun _ => []) → as.length = n → Q (.ref D) H2) :
    tLc (iRng1 ta) g tt (tLst tNil) vs σ H1 Q :=
  hl G1 H1 s1 s2 _ fun us G2 H2 g2 px => by
    obtain ⟨v, r, rfl, hv, e⟩ := px
    cases (show r = [] from e)
    obtain rfl := (show DV G2 v (.int n) from hv).int_inv
    refine ⟨n, rfl, by omega, by omega, ?_⟩
    rw [Int.toNat_natCast]
    intro D hD
    refine lc_range (lo := 0) (n := n) (fun i H' => ∃ G' as, Bks G2 H2 G' H' D as (fun _ => []) ∧ as.length = i) ⟨G2, [], .start g2.gh hD, rfl⟩ (fun i H' hi w => ?_) (fun H' w => ?_)
    · obtain ⟨G', as, B, hl⟩ := w
      obtain ⟨σ2, hgt, hw, ht⟩ := hs i G' hi ((s1.trans g2.gg).trans B.g.gg)
      rw [Int.zero_add]
      refine hgt H' B.g.gh _ ⟨hw, ht G' H' (Same.refl _) B.g.gh _ fun G3 H3 g3 => ?_⟩
      have B3 := B.grow g3
      rw [if_pos rfl]
      refine ⟨Nat.zero_le _, fun a ha => ⟨_, by rw [upd_ne (fun e => by subst e; rw [B3.od] at ha; cases ha)]; exact B3.od, by rw [List.length_map, hl]; exact sz_lt (Nat.lt_of_lt_of_le hi hz), G3, as ++ [a], B3.more ha rfl, by rw [List.length_append, hl]; rfl⟩⟩
    · obtain ⟨G', as, B, hl⟩ := w
      refine k D as G' H' ⟨g2.trans B.g, g2.th _ B.hd, B.gd, B.od, B.nd, B.nD, fun i a h => ?_⟩ hl
      obtain ⟨h1, h2⟩ := B.el i a h
      exact ⟨g2.th _ h1, h2⟩
theorem Bks.upG {G1 H1 : Hp} (g : Gr0 G H G1 H1) (B : Bks G1 H1 G' H' D as cs) : Bks G H G' H' D as cs := ⟨g.trans B.g, g.th _ B.hd, B.gd, B.od, B.nd, B.nD, fun i a h => ⟨g.th _ (B.el i a h).1, (B.el i a h).2⟩⟩
theorem par_nils {ta : TA} {tt : TT} {g : TG} {vs : List Nat} {n : Nat} {p : Pm} (h : Is te σ G p) (hl : IsA ta σ G [dat (.int (n : Int))]) (hz : n ≤ 100000)
    (hs : ∀ i G1, i < n → Same G G1 → ∃ σ2, GT g (.int (i : Int)) (wipe σ vs) G1 σ2 ∧ wipe σ2 vs = wipe σ vs ∧ IsT tt σ2 G1 true) (s : Same G H)
    (k : ∀ v D as G2 H2, p.P v G2 → Bks G H G2 H2 D as (fun _ => []) → as.length = n → E.nx ((σ.set i (some v)).set j (some (.ref D))) H2) :
    tPar i j (tCons te (tCons (tLc (iRng1 ta) g tt (tLst tNil) vs) tNil)) E σ H :=
  h G H (Same.refl _) s _ fun v G2 H2 g2 pv => lc_nils hl hz hs g2.gg g2.gh _ fun D as G3 H3 B hlen => ⟨v, .ref D, rfl, k v D as G3 H3 (p.mono _ _ _ B.g.gg pv) (B.upG g2) hlen⟩
end
/-! ### leadings -/
def Upto (rs : List Road) (m : Nat) (qs : List Road) (i : Nat) (g : List Nat) : Prop := g.length = i ∧ (∀ x ∈ g, x < m) ∧ ∀ r ∈ rs, max r.2.1 r.2.2 < i → (r.1, g.getD r.2.1 0, g.getD r.2.2 0) ∈ qs
def apartL (rs : List Road) (i : Nat) : List Road := rs.filter fun r => decide (max r.2.1 r.2.2 = i)
theorem getD_left {g h : List Nat} {i : Nat} (hi : i < g.length) : (g ++ h).getD i 0 = g.getD i 0 := by
  rw [List.getD_eq_getElem?_getD, List.getD_eq_getElem?_getD, List.getElem?_append_left hi]
theorem upto_zero (rs : List Road) (m : Nat) (qs : List Road) : Upto rs m qs 0 [] := ⟨rfl, fun x h => absurd h List.not_mem_nil, fun r _ h => absurd h (Nat.not_lt_zero _)⟩
theorem upto_succ {rs : List Road} {m : Nat} {qs : List Road} {i p : Nat} {g : List Nat} (h : Upto rs m qs i g) (hp : p < m) (hl : ledB (g ++ [p]) (apartL rs i) qs = true) : Upto rs m qs (i + 1) (g ++ [p]) := by
  obtain ⟨h1, h2, h3⟩ := h
  refine ⟨by rw [List.length_append, h1]; rfl, fun x hx => ?_, fun r hr hm => ?_⟩
  · rcases List.mem_append.mp hx with hx | hx
    · exact h2 x hx
    · rw [List.mem_singleton.mp hx]; exact hp
  · by_cases c : max r.2.1 r.2.2 = i
    · exact ledB_iff.mp hl r (List.mem_filter.mpr ⟨hr, decide_eq_true c⟩)
    · have := h3 r hr (by omega)
      rwa [getD_left (by omega), getD_left (by omega)]
theorem upto_leads {rs : List Road} {m : Nat} {qs : List Road} {n : Nat} {g : List Nat} (hr : ∀ r ∈ rs, r.2.1 < n ∧ r.2.2 < n) (h : Upto rs m qs n g) : Leads n rs m qs g :=
  ⟨h.1, h.2.1, fun r hm => h.2.2 r hm (by have := hr r hm; omega)⟩
/-- a list of leadings, not too long -/
def ledsP (n : Nat) (rs : List Road) (m : Nat) (qs : List Road) : Pm := ⟨fun v G => ∃ gs : List (List Nat), gs.length ≤ 46656 ∧ (∀ g ∈ gs, Leads n rs m qs g) ∧ DV G v (.list (gs.map nums)), fun _ _ _ s ⟨gs, h1, h2, h3⟩ => ⟨gs, h1, h2, h3.mono s⟩⟩
def preLeadings : List V → Hp → Pm → Prop := fun vs G p => ∃ (n : Nat) (rs : List Road) (m : Nat) (qs : List Road), n ≤ 6 ∧ m ≤ 6 ∧ rs.length ≤ 1024 ∧ (∀ r ∈ rs, KindOk r.1 ∧ r.2.1 < n ∧ r.2.2 < n) ∧ (∀ r ∈ qs, KindOk r.1) ∧ AllP [dat (.int (n : Int)), dat (.list (rs.map rd)), dat (.int (m : Int)), dat (.list (qs.map rd))] vs G ∧ p = ledsP n rs m qs
theorem rc_max {G : Hp} {i j : Int} : RC (fun xs H Q => ∃ i j, xs = [.int i, .int j] ∧ Q (.int (if j > i then j else i)) H) [dat (.int i), dat (.int j)] G (dat (.int (if j > i then j else i))) := fun vs G1 H1 s1 s2 pv Q k => by
  obtain ⟨x, y, rfl, hx, hy⟩ := allp2 pv
  obtain rfl := (show DV G1 x (.int i) from hx).int_inv
  obtain rfl := (show DV G1 y (.int j) from hy).int_inv
  exact ⟨i, j, rfl, k _ G1 H1 (.refl s2) (.int _)⟩
theorem max_if (a b : Nat) : (if ((b : Int) > (a : Int)) then (b : Int) else (a : Int)) = ((max a b : Nat) : Int) := by
  by_cases h : b > a
  · rw [if_pos (by omega)]; congr 1; omega
  · rw [if_neg (by omega)]; congr 1; omega
theorem pow6 {m i : Nat} (hm : m ≤ 6) (hi : i ≤ 6) : m ^ i ≤ 46656 := Nat.le_trans (Nat.pow_le_pow_left hm i) (Nat.le_trans (Nat.pow_le_pow_right (by decide) hi) (by decide))
section
variable {P : Program} {w : World} {K : PySem.W.Frag} {mg : Str → Option Value} {base : Heap}
theorem sc_lleadings : FnScope ["_law_size", "_law_roads_here", "_law_many", "_law_others", "_law_found", "_law_apart", "_law_turn", "_law_road", "_law_at", "_law_longer", "_law_given", "_law_place"] ["_law_size", "_law_roads_here", "_law_many", "_law_others"] (defScope (top 50)) := ⟨rfl, rfl, rfl, by decide +kernel, rfl, by decide +kernel, by decide +kernel⟩
theorem has_lleadings (T : Tx K mg) : Has P w K mg base CX0 2 "_law_leadings" ["_law_size", "_law_roads_here", "_law_many", "_law_others"] (PureSp preLeadings) := by
  refine T.has 35 (fun fd F => F.ok sc_lleadings (fun vs H Q E h => ?_) fun cdv A outer s H vs Q E hr h => ?_) (fun fd F => F.bindsN fun _ _ _ _ _ _ us hl => match us, hl with | [_, _, _, _], _ => rfl)
  · obtain ⟨G, p, _, ⟨_, _, _, _, _, _, _, _, _, a, _⟩, _⟩ := h; exact a.len
  · obtain ⟨G, p, z, ⟨n, rs, m, qs, hn, hm, hz, hr1, hq1, a, rfl⟩, k⟩ := h
    obtain ⟨v0, v1, v2, v3, rfl, d0', d1, d2, d3⟩ := allp4 a
    refine ⟨_, PSs.nox (pss_cons (ps_par (i := 4) (j := 5) rfl sc_lleadings.nd rfl rfl (by decide) rfl rfl (pa_cons (pe_lst (pa_cons (pe_lst (pa_nil)) (pa_nil))) (pa_cons (pe_lc (own := [("_law_turn", 6)]) rfl sc_lleadings.nd (pi_range1 rfl (T.free "range") (pa_cons (pv 0) (pa_nil))) (blkOk_by (by rfl)) (fun _ _ _ _ _ => pg_name (i := 6) sc_lleadings.nd rfl (by first | exact Or.inl rfl | exact Or.inr rfl)) (fun _ _ _ _ _ => pts_nil) (fun _ _ _ _ _ => pe_lst (pa_nil))) (pa_nil))) (by rfl))
      (pss_cons (ps_for PassesOwn.never rfl (pi_listK (K := K) rfl (pv 1)) (pg_name (i := 7) sc_lleadings.nd rfl (by first | exact Or.inl rfl | exact Or.inr rfl)) (pss_one (ps_expr (pe_bm PySem.F.plainAttrs_list PySem.F.slot_list_append PySem.F.type_list_append mt_append (pe_ix (ix_seqK (K := K) rfl) (pv 5) (pe_callB (call_max2 rfl) (by rfl) (T.free "max") (by decide +kernel) (pa_cons (pe_ix (ix_seqK (K := K) rfl) (pv 7) (pe_int) (fun _ _ => rfl)) (pa_cons (pe_ix (ix_seqK (K := K) rfl) (pv 7) (pe_int) (fun _ _ => rfl)) (pa_nil)))) (fun _ _ => rfl)) (pa_cons (pv 7) (pa_nil))))))
      (pss_cons (ps_for PassesOwn.never rfl (pi_range1 rfl (T.free "range") (pa_cons (pv 0) (pa_nil))) (pg_name (i := 8) sc_lleadings.nd rfl (by first | exact Or.inl rfl | exact Or.inr rfl)) (pss_cons (ps_set (i := 9) sc_lleadings.nd rfl (by first | exact Or.inl rfl | exact Or.inr rfl) (pe_lst (pa_nil)))
        (pss_cons (ps_for PassesOwn.never rfl (pi_listK (K := K) rfl (pv 4)) (pg_name (i := 10) sc_lleadings.nd rfl (by first | exact Or.inl rfl | exact Or.inr rfl)) (pss_one (ps_for PassesOwn.never rfl (pi_range1 rfl (T.free "range") (pa_cons (pv 2) (pa_nil))) (pg_name (i := 11) sc_lleadings.nd rfl (by first | exact Or.inl rfl | exact Or.inr rfl)) (pss_one (ps_if (pt_val (pe_callH (has_lleads T) (hr.mono (by decide)) pass0 (pa_cons (pe_ix (ix_seqK (K := K) rfl) (pv 5) (pv 8) (fun _ _ => rfl)) (pa_cons (pv 3) (pa_cons (pe_op op_addU (pv 10) (pe_lst (pa_cons (pv 11) (pa_nil)))) (pa_nil)))))) (pss_one (ps_expr (pe_bm PySem.F.plainAttrs_list PySem.F.slot_list_append PySem.F.type_list_append mt_append (pv 9) (pa_cons (pe_op op_addU (pv 10) (pe_lst (pa_cons (pv 11) (pa_nil)))) (pa_nil))))) (pss_nil))))))
        (pss_one (ps_set (i := 4) sc_lleadings.nd rfl (by first | exact Or.inl rfl | exact Or.inr rfl) (pv 9))))))
      (pss_one (ps_ret (pv 4)))))), ?_⟩
    refine par_nils (p := dat (.list [.list []])) (n := n) (is_lst (ds := [.list []]) (isa_cons (is_lst (ds := []) isa_nil (Nat.zero_le _)) isa_nil) (by simp)) (isa_cons (is_d rfl d0') isa_nil) (by omega) (fun i G1 hi s1 => ⟨_, gt_name, rfl, fun G2 H2 _ s4 Q q => q G2 H2 (.refl s4)⟩) z fun f0 D as G1 H1 pf B0' hlen => ?_
    refine for_dat (ds := rs.map rd) (G := G1) (is_d rfl (d1.mono B0'.g.gg)) B0'.g.gh (fun t σ' G' H' => (∃ x7, σ' = [some v0, some v1, some v2, some v3, some f0, some (.ref D), none, x7, none, none, none, none]) ∧ Same G1 G' ∧ Bks G H G' H' D as (fun i => (apartL (rs.take t) i).map rd))
      (fun G2 H2 g2 => ⟨⟨_, rfl⟩, g2.gg, B0'.grow g2⟩) ?_ ?_
    · rintro t x d σ' G' H' ht hx zs zg ⟨⟨x7, rfl⟩, s', B⟩
      rw [List.getElem?_map, Option.map_eq_some_iff] at ht
      obtain ⟨r, hrt, rfl⟩ := ht
      have hmem := List.mem_of_getElem? hrt
      have htl : t < rs.length := (List.getElem?_eq_some_iff.mp hrt).1
      obtain ⟨_, hr2, hr3⟩ := hr1 r hmem
      refine ⟨_, gt_name, fun N hN => ?_⟩
      refine app_at (i := max r.2.1 r.2.2) (d := rd r) B rfl (Is.eqd (is_cb (isa_cons (is_op (is_d rfl hx) (is_int 1) (ri_ixT (j := 1) rfl rfl)) (isa_cons (is_op (is_d rfl hx) (is_int 2) (ri_ixT (j := 2) rfl rfl)) isa_nil)) rc_max) (congrArg PyData.int (max_if _ _))) (by rw [hlen]; omega) (is_d rfl hx) ?_ fun G2 H2 B2 s2 => hN _ G2 H2 s2 B2.g.gh ⟨⟨_, rfl⟩, s'.trans s2, ?_⟩
      · have := List.length_filter_le (fun q : Road => decide (max q.2.1 q.2.2 = max r.2.1 r.2.2)) (rs.take t)
        rw [List.length_take] at this
        show ((apartL (rs.take t) _).map rd).length < _
        rw [List.length_map]
        show ((rs.take t).filter _).length < _
        omega
      · refine (show (fun j => if j = max r.2.1 r.2.2 then (apartL (rs.take t) (max r.2.1 r.2.2)).map rd ++ [rd r] else (apartL (rs.take t) j).map rd) = fun i => (apartL (rs.take (t + 1)) i).map rd from ?_) ▸ B2
        funext j
        unfold apartL
        rw [List.take_succ, hrt]
        show _ = ((rs.take t ++ [r]).filter _).map rd
        rw [List.filter_append, List.map_append]
        by_cases c : j = max r.2.1 r.2.2
        · subst c
          rw [if_pos rfl, List.filter_cons, if_pos (decide_eq_true rfl)]; rfl
        · rw [if_neg c, List.filter_cons, if_neg (by simpa using fun e => c e.symm)]; simp
    · rintro σ' G' H' zs zg ⟨⟨x7, rfl⟩, s', B⟩
      rw [List.length_map, List.take_length] at B
      obtain ⟨G2, g2, dA, s2⟩ := B.fin
      rw [hlen] at dA
      have sG : Same G1 G2 := s'.trans s2
      refine for_rng (n := n) (G := G2) (isa_cons (is_d rfl (d0'.mono g2.gg)) isa_nil) (by omega) g2.gh (fun i σ' G' H' => (∃ f gs x8 x9 x10 x11, σ' = [some v0, some v1, some v2, some v3, some f, some (.ref D), none, x7, x8, x9, x10, x11] ∧ DV G' f (.list (gs.map nums)) ∧ gs.length ≤ m ^ i ∧ ∀ g ∈ gs, Upto rs m qs i g) ∧ Same G2 G' ∧ Gr0 G H G' H')
        (fun G3 H3 g3 => ⟨⟨f0, [[]], _, _, _, _, rfl, pf.mono (sG.trans g3.gg), Nat.le_refl _, fun g hg => by rw [List.mem_singleton.mp hg]; exact upto_zero _ _ _⟩, g3.gg, g2.trans g3⟩) ?_ ?_
      · rintro i σ' G' H' hi zs zg ⟨⟨f, gs, x8, x9, x10, x11, rfl, df, hgl, hgs⟩, s3, g⟩
        refine ⟨_, gt_name, fun N hN => ?_⟩
        refine ⟨Nat.zero_le _, fun l hl => ?_⟩
        have O0 := Own.start g hl
        have p6 := pow6 hm (Nat.le_of_lt (Nat.lt_of_lt_of_le hi hn))
        have p7 : m ^ (i + 1) ≤ 46656 := pow6 hm (by omega)
        refine for_dat (ds := gs.map nums) (G := G') (is_d rfl df) O0.g.gh (fun j σ' G3 H3 => (∃ y10 y11 ls, σ' = [some v0, some v1, some v2, some v3, some f, some (.ref D), none, x7, some (.int (i : Int)), some (.ref l), y10, y11] ∧ Own G H G3 H3 l (ls.map nums) ∧ ls.length ≤ j * m ∧ ∀ g ∈ ls, Upto rs m qs (i + 1) g) ∧ Same G' G3)
          (fun G3 H3 g3 => ⟨⟨_, _, [], rfl, O0.grow g3, Nat.zero_le _, fun g h => nomatch h⟩, g3.gg⟩) ?_ ?_
        · rintro j y d σ' G3 H3 hj hy zs3 zg3 ⟨⟨y10, y11, ls, rfl, O, hll, hls⟩, s4⟩
          rw [List.getElem?_map, Option.map_eq_some_iff] at hj
          obtain ⟨gv, hgv, rfl⟩ := hj
          have hgm := List.mem_of_getElem? hgv
          have hjl : j < gs.length := (List.getElem?_eq_some_iff.mp hgv).1
          have hlen2 := (hgs gv hgm).1
          refine ⟨_, gt_name, fun N2 hN2 => ?_⟩
          have sA : Same G2 G3 := s3.trans s4
          refine for_rng (n := m) (G := G3) (isa_cons (is_d rfl (d2.mono (g2.gg.trans sA))) isa_nil) (by omega) O.g.gh (fun t σ' G4 H4 => (∃ z11 ls, σ' = [some v0, some v1, some v2, some v3, some f, some (.ref D), none, x7, some (.int (i : Int)), some (.ref l), some y, z11] ∧ Own G H G4 H4 l (ls.map nums) ∧ ls.length ≤ j * m + t ∧ ∀ g ∈ ls, Upto rs m qs (i + 1) g) ∧ Same G3 G4)
            (fun G4 H4 g4 => ⟨⟨_, ls, rfl, O.grow g4, hll, hls⟩, g4.gg⟩) ?_ ?_
          · rintro t σ' G4 H4 ht zs4 zg4 ⟨⟨z11, ks, rfl, O4, hkl, hks⟩, s5⟩
            refine ⟨_, gt_name, fun N3 hN3 => ?_⟩
            have hy4 := hy.mono s5
            have hadd : ∀ G5, Same G4 G5 → Is (tOp rAddU (tVar 10) (tLst (tCons (tVar 11) tNil))) [some v0, some v1, some v2, some v3, some f, some (.ref D), none, x7, some (.int (i : Int)), some (.ref l), some y, some (.int (t : Int))] G5 (dat (nums (gv ++ [t]))) := fun G5 s6 =>
              Is.eqd (is_op (is_d rfl (hy4.mono s6)) (is_lst (ds := [.int (t : Int)]) (isa_cons (is_d rfl (.int _)) isa_nil) (by simp)) (ri_addL (by rw [List.length_map]; simp only [List.length_cons, List.length_nil]; omega))) (by show PyData.list _ = .list _; rw [List.map_append]; rfl)
            refine if_is (b := ledB (gv ++ [t]) (apartL rs i) qs) (ist_B (is_call (s := dat (.bool (ledB (gv ++ [t]) (apartL rs i) qs))) (isa_cons (is_op (is_d rfl (dA.mono (sA.trans s5))) (is_d rfl (.int _)) (ri_ixL (j := i) (d := .list ((apartL rs i).map rd)) rfl (by rw [List.getElem?_map, List.getElem?_range hi]; rfl))) (isa_cons (is_d rfl (d3.mono (g2.gg.trans (sA.trans s5)))) (isa_cons (hadd _ (Same.refl _)) isa_nil))) fun vs G5 _ a => ⟨apartL rs i, qs, gv ++ [t], ?_, fun r hr => ?_, hq1, a, rfl⟩)) zs4 (fun hb G5 H5 g5 => ?_) fun hb G5 H5 g5 => ?_
            · have := List.length_filter_le (fun q : Road => decide (max q.2.1 q.2.2 = i)) rs
              show (rs.filter _).length ≤ _
              omega
            · obtain ⟨h1, h2⟩ := List.mem_filter.mp hr
              have h3 := of_decide_eq_true h2
              rw [List.length_append, hlen2]
              simp only [List.length_cons, List.length_nil]
              exact ⟨(hr1 r h1).1, by omega, by omega⟩
            · have hbnd : ks.length < 100000 := by
                have e1 : j * m + t < m ^ (i + 1) := by
                  rw [Nat.pow_succ]
                  have : (j + 1) * m ≤ m ^ i * m := Nat.mul_le_mul_right _ (by omega)
                  rw [Nat.succ_mul] at this
                  omega
                omega
              refine app_ow (d := nums (gv ++ [t])) (O4.grow g5) rfl (hadd _ g5.gg) (by rw [List.length_map]; exact hbnd) fun G6 H6 O6 s6 => hN3 _ G6 H6 (g5.gg.trans s6) O6.g.gh ⟨⟨_, ks ++ [gv ++ [t]], rfl, by rw [List.map_append]; exact O6, by rw [List.length_append]; simp only [List.length_cons, List.length_nil]; omega, fun g hg => ?_⟩, s5.trans (g5.gg.trans s6)⟩
              rcases List.mem_append.mp hg with hg | hg
              · exact hks g hg
              · rw [List.mem_singleton.mp hg]
                exact upto_succ (hgs gv hgm) ht hb
            · exact hN3 _ G5 H5 g5.gg g5.gh ⟨⟨_, ks, rfl, O4.grow g5, by omega, hks⟩, s5.trans g5.gg⟩
          · rintro σ' G4 H4 zs4 zg4 ⟨⟨z11, ks, rfl, O4, hkl, hks⟩, s5⟩
            exact hN2 _ G4 H4 s5 zs4 ⟨⟨_, _, ks, rfl, O4, by rw [Nat.succ_mul]; exact hkl, hks⟩, s4.trans s5⟩
        · rintro σ' G3 H3 zs3 zg3 ⟨⟨y10, y11, ls, rfl, O, hll, hls⟩, s4⟩
          obtain ⟨G4, g4, dv, s5⟩ := O.fin
          refine set_is (p := dat (.list (ls.map nums))) (G := G4) (is_d rfl dv) g4.gh fun v5 G5 H5 g5 p5 => hN _ G5 H5 ((s4.trans s5).trans g5.gg) g5.gh ⟨⟨v5, ls, _, _, _, _, rfl, p5, ?_, hls⟩, s3.trans ((s4.trans s5).trans g5.gg), g4.trans g5⟩
          rw [List.length_map] at hll
          rw [Nat.pow_succ]
          exact Nat.le_trans hll (Nat.mul_le_mul_right _ hgl)
      · rintro σ' G' H' zs zg ⟨⟨f, gs, x8, x9, x10, x11, rfl, df, hgl, hgs⟩, s3, g⟩
        exact ⟨_, rfl, k _ G' H' g ⟨gs, Nat.le_trans hgl (pow6 hm hn), fun gv h => upto_leads (fun r hr => (hr1 r hr).2) (hgs gv h), df⟩⟩

end
end Yd
set_option Elab.async false
set_option linter.all false
set_option maxRecDepth 100000
set_option maxHeartbeats 4000000
namespace Yd
open PySem PySem.Spec L2

open PySem.W (AllAlike Sortable)
/-! ### at one heap; a list of one's own that is read -/
def At (te : TE) (σ : L2.St) (G H : Hp) (p : Pm) : Prop := ∀ Q : VK, (∀ v G2 H2, Gr0 G H G2 H2 → p.P v G2 → Q v H2) → te σ H Q
def AtT (tt : TT) (σ : L2.St) (G H : Hp) (b : Bool) : Prop := ∀ Q : Bool → Hp → Prop, (∀ G2 H2, Gr0 G H G2 H2 → Q b H2) → tt σ H Q
def Flat (d : PyData) : Prop := ∀ v G G', DV G v d → DV G' v d
theorem flat_int (i : Int) : Flat (.int i) := fun v G G' h => by rw [h.int_inv]; exact .int i
theorem flat_bool (b : Bool) : Flat (.bool b) := fun v G G' h => by rw [h.bl_inv]; exact .bl b
theorem flat_str (x : Str) : Flat (.str x) := fun v G G' h => by rw [h.str_inv]; exact .str x
theorem ixNat {n j : Nat} (hj : j < n) : ixN n (j : Int) = some j := by
  unfold ixN
  rw [if_pos (by omega), if_pos (by omega)]
  simp
section
variable {G H G' H' G2 H2 : Hp} {l : Addr} {ds : List PyData} {K : PySem.W.Frag} {σ : L2.St} {te ta tb : TE} {tt : TT} {i j : Nat} {d e : PyData} {p q : Pm} {b : Bool} {D : Ends} {t1 t2 : TS} {g : TG}
theorem Is.at (h : Is te σ G p) (s : Same G H) : At te σ G H p := fun Q k => h G H (Same.refl _) s Q k
theorem IsT.at (h : IsT tt σ G b) (s : Same G H) : AtT tt σ G H b := fun Q k => h G H (Same.refl _) s Q k
theorem At.eqd (h : At te σ G H (dat d)) (z : d = e) : At te σ G H (dat e) := z ▸ h
theorem set_at (h : At te σ G H p) (k : ∀ v G2 H2, Gr0 G H G2 H2 → p.P v G2 → D.nx (σ.set i (some v)) H2) : tAsg te (gName i) D σ H := h _ k
theorem ret_at (h : At te σ G H p) (k : ∀ v G2 H2, Gr0 G H G2 H2 → p.P v G2 → D.rt v H2) : tRet te D σ H := h _ k
theorem if_at (h : AtT tt σ G H b) (k1 : b = true → ∀ G2 H2, Gr0 G H G2 H2 → t1 D σ H2) (k2 : b = false → ∀ G2 H2, Gr0 G H G2 H2 → t2 D σ H2) : tIfS tt t1 t2 D σ H :=
  h _ fun G2 H2 g => by
    cases b with
    | true => exact k1 rfl G2 H2 g
    | false => exact k2 rfl G2 H2 g
theorem Own.show (O : Own G H G' H' l ds) : ∃ G1, Same G' G1 ∧ Same G1 H' ∧ DV G1 (.ref l) (.list ds) := by
  obtain ⟨vs, h1, h2⟩ := O.ex
  exact ⟨upd G' l (.lst vs), same_upd O.gn, same_sho O.g.gh h1 O.gn, .lst upd_same (h2.mono (same_upd O.gn))⟩
theorem own_flat (O : Own G H G' H' l ds) (hf : Flat d) (h : ∀ G1, Same G' G1 → DV G1 (.ref l) (.list ds) → Is te σ G1 (dat d)) : At te σ G' H' (dat d) := fun Q k => by
  obtain ⟨G1, s1, s2, dv⟩ := O.show
  exact h G1 s1 dv G1 H' (Same.refl _) s2 _ fun v G3 H3 g3 pv => k v G' H3 (g3.hidE O.g.gh) (hf v _ _ pv)
theorem own_test (O : Own G H G' H' l ds) (h : ∀ G1, Same G' G1 → DV G1 (.ref l) (.list ds) → IsT tt σ G1 b) : AtT tt σ G' H' b := fun Q k => by
  obtain ⟨G1, s1, s2, dv⟩ := O.show
  exact h G1 s1 dv G1 H' (Same.refl _) s2 _ fun G3 H3 g3 => k G' H3 (g3.hidE O.g.gh)
theorem Own.put (O : Own G H G' H' l ds) {v : V} {vs : List V} (hv : H' l = some (.lst vs)) (dv : DV G' v d) : Own G H G' (upd H' l (.lst (vs.set i v))) l (ds.set i d) := by
  obtain ⟨us, h1, h2⟩ := O.ex
  cases hv.symm.trans h1
  exact ⟨O.g.wr (.inl O.h0) O.gn, O.h0, O.gn, _, upd_same, h2.set i dv⟩
theorem own_get (O : Own G H G' H' l ds) (hσ : σ[j]? = some (some (.ref l))) (hx : Is ta σ G' (dat (.int (i : Int)))) (hi : ds[i]? = some d) : At (tOp (rIx K) (tVar j) ta) σ G' H' (dat d) := fun Q k => by
  refine ⟨_, hσ, hx G' H' (Same.refl _) O.g.gh _ fun y G3 H3 g3 py => ?_⟩
  obtain ⟨vs, h1, h2⟩ := (O.grow g3).ex
  obtain ⟨v, hv, dv⟩ := h2.get hi
  exact .inl ⟨l, vs, (i : Int), v, rfl, py.int_inv, SqL.of h1, at_of rfl hv, k v G3 H3 g3 dv⟩
theorem for_datR (hl : At tb σ G H (dat (.list ds))) (Pv : Nat → L2.St → Hp → Hp → Prop) (h0 : ∀ G1 H1, Gr0 G H G1 H1 → Pv 0 σ G1 H1)
    (hs : ∀ i x d σ' G' H', ds[i]? = some d → DV G' x d → Same G' H' → Same G G' → Pv i σ' G' H' → ∃ σ2, GT g x σ' G' σ2 ∧
      ∀ N : L2.St → Hp → Prop, (∀ σ3 G3 H3, Same G' G3 → Same G3 H3 → Pv (i + 1) σ3 G3 H3 → N σ3 H3) → t1 { D with nx := N, ct := N, bk := D.nx } σ2 H')
    (hd : ∀ σ' G' H', Same G' H' → Same G G' → Pv ds.length σ' G' H' → D.nx σ' H') : tFor (iList K tb) g t1 D σ H :=
  hl _ fun x G1 H1 g1 px => by
    obtain ⟨a, xs, rfl, ha, dv⟩ := px.lst_inv
    refine ⟨a, rfl, ⟨xs, SqL.of (g1.gh _ _ ha)⟩, ?_⟩
    refine for_list (K := K) (a := a) (xs := xs) (fun i σ' H' => ∃ G', Same G1 G' ∧ Same G' H' ∧ Pv i σ' G' H') ⟨G1, Same.refl _, g1.gh, h0 G1 H1 g1⟩ ?_ ?_ ?_
    · rintro i σ' H' _ ⟨G', z1, z2, _⟩
      exact SqL.of (z2 _ _ (z1 _ _ ha))
    · rintro i x σ' H' hi ⟨G', z1, z2, pv⟩
      obtain ⟨d, hd', hv⟩ := dv.getV hi
      obtain ⟨σ2, hgt, hN⟩ := hs i x d σ' G' H' hd' (hv.mono z1) z2 (g1.gg.trans z1) pv
      exact hgt H' z2 _ (hN _ fun σ3 G3 H3 y1 y2 pv3 => ⟨G3, z1.trans y1, y2, pv3⟩)
    · rintro σ' H' ⟨G', z1, z2, pv⟩
      rw [dv.length] at pv
      exact hd σ' G' H' z2 (g1.gg.trans z1) pv
/-- x[i] = e -/
theorem set_own (O : Own G H G' H' l ds) {ti : TE} {k : Nat} (hD : σ[j]? = some (some (.ref l))) (he : At te σ G' H' (dat d)) (hi : ∀ G1, Same G' G1 → Is ti σ G1 (dat (.int (k : Int)))) (hk : k < ds.length)
    (kk : ∀ G2 H2, Same G' G2 → Own G H G2 H2 l (ds.set k d) → D.nx σ H2) : tAsg te (gSub (tVar j) ti rSetL) D σ H' :=
  he _ fun v G3 H3 g3 pv => by
    refine ⟨_, hD, hi G3 g3.gg G3 H3 (Same.refl _) g3.gh _ fun y G4 H4 g4 py => ?_⟩
    have O4 := (O.grow g3).grow g4
    obtain ⟨vs, h1, h2⟩ := O4.ex
    exact ⟨l, vs, (k : Int), k, rfl, py.int_inv, h1, ixNat (by rw [h2.length]; exact hk), kk G4 _ (g3.trans g4).gg (O4.put h1 (pv.mono g4.gg))⟩
/-- x[i], x[j] = u, u -/
theorem set2_own (O : Own G H G' H' l ds) {iD ia ib il a c : Nat} {u : V} (hD : σ[iD]? = some (some (.ref l))) (ha : σ[ia]? = some (some (.int (a : Int)))) (hb : σ[ib]? = some (some (.int (c : Int)))) (hu : σ[il]? = some (some u)) (du : DV G' u d) (la : a < ds.length) (lb : c < ds.length)
    (k : ∀ G2 H2, Same G' G2 → Own G H G2 H2 l ((ds.set a d).set c d) → D.nx σ H2) : tAsg (tTup (tCons (tVar il) (tCons (tVar il) tNil))) (gTup K 2 (gCons (gSub (tVar iD) (tVar ia) rSetL) (gCons (gSub (tVar iD) (tVar ib) rSetL) gNil))) D σ H' := by
  refine ⟨u, hu, u, hu, by show 2 ≤ sizeLine; decide, fun p hp => ?_⟩
  have O1 := O.grow (.new (o := .tup [u, u]) O.g.gh hp)
  obtain ⟨vs, h1, h2⟩ := O1.ex
  refine ⟨p, [u, u], rfl, SqT.of upd_same, rfl, u, [u], rfl, ⟨_, hD, _, ha, l, vs, (a : Int), a, rfl, rfl, h1, ixNat (by rw [h2.length]; exact la), ?_⟩⟩
  have du1 : DV (upd G' p (.tup [u, u])) u d := du.mono (Gr.new (M := No) (o := .tup [u, u]) O.g.gh hp).gg
  have O2 := O1.put (i := a) h1 du1
  obtain ⟨ws, h3, h4⟩ := O2.ex
  refine ⟨u, [], rfl, ⟨_, hD, _, hb, l, ws, (c : Int), c, rfl, rfl, h3, ixNat (by rw [h4.length, List.length_set]; exact lb), rfl, ?_⟩⟩
  exact k _ _ (Gr.new (M := No) (o := .tup [u, u]) O.g.gh hp).gg (O2.put (i := c) h3 du1)
/-- x[i], y = u, w : the list's own, and a name -/
theorem set1n_own (O : Own G H G' H' l ds) {iD ia il jn a : Nat} {u : V} {t2 : TE} {w : V} (hD : σ[iD]? = some (some (.ref l))) (ha : σ[ia]? = some (some (.int (a : Int)))) (hu : σ[il]? = some (some u)) (du : DV G' u d) (la : a < ds.length) (ht : ∀ H Q, Q w H → t2 σ H Q)
    (k : ∀ G2 H2, Same G' G2 → Own G H G2 H2 l (ds.set a d) → D.nx (σ.set jn (some w)) H2) : tAsg (tTup (tCons (tVar il) (tCons t2 tNil))) (gTup K 2 (gCons (gSub (tVar iD) (tVar ia) rSetL) (gCons (gName jn) gNil))) D σ H' := by
  refine ⟨u, hu, ht _ _ ⟨by show 2 ≤ sizeLine; decide, fun p hp => ?_⟩⟩
  have O1 := O.grow (.new (o := .tup [u, w]) O.g.gh hp)
  obtain ⟨vs, h1, h2⟩ := O1.ex
  refine ⟨p, [u, w], rfl, SqT.of upd_same, rfl, u, [w], rfl, ⟨_, hD, _, ha, l, vs, (a : Int), a, rfl, rfl, h1, ixNat (by rw [h2.length]; exact la), w, [], rfl, rfl, ?_⟩⟩
  exact k _ _ (Gr.new (M := No) (o := .tup [u, w]) O.g.gh hp).gg (O1.put (i := a) h1 (du.mono (Gr.new (M := No) (o := .tup [u, w]) O.g.gh hp).gg))
theorem rc_min {i j : Int} : RC (fun xs H Q => ∃ i j, xs = [.int i, .int j] ∧ Q (.int (if j < i then j else i)) H) [dat (.int i), dat (.int j)] G (dat (.int (if j < i then j else i))) := fun vs G1 H1 s1 s2 pv Q k => by
  obtain ⟨x, y, rfl, hx, hy⟩ := allp2 pv
  obtain rfl := (show DV G1 x (.int i) from hx).int_inv
  obtain rfl := (show DV G1 y (.int j) from hy).int_inv
  exact ⟨i, j, rfl, k _ G1 H1 (.refl s2) (.int _)⟩
theorem min_if (a b : Nat) : (if ((b : Int) < (a : Int)) then (b : Int) else (a : Int)) = ((min a b : Nat) : Int) := by
  by_cases h : b < a
  · rw [if_pos (by omega)]; congr 1; omega
  · rw [if_neg (by omega)]; congr 1; omega
theorem rg_nums {n : Nat} (hn : n ≤ 100000) : RgOk 0 (n : Int) := ⟨by omega, by omega, by omega, by omega, by omega⟩
theorem rg_eq (n : Nat) : rgV 0 (n : Int) = (List.range n).map vN := by
  unfold rgV
  rw [show ((n : Int) - 0).toNat = n by omega]
  exact List.map_congr_left fun i _ => by show V.int _ = V.int _; rw [Int.zero_add]
/-- list(range(n)), shown -/
theorem is_listRg {n : Nat} (h : Is te σ G (dat (.int (n : Int)))) (hn : n ≤ 100000) : Is (tLstRg (tRg1 te)) σ G (dat (nums (List.range n))) := fun G1 H1 s1 s2 Q k =>
  h G1 H1 s1 s2 _ fun x G2 H2 g2 px => by
    refine ⟨(n : Int), px.int_inv, rg_nums hn, fun q hq => ?_⟩
    rw [rg_eq]
    exact k _ _ _ (g2.trans (.new g2.gh hq)) (.lst upd_same (dvs_nums _))
/-- x = list(range(n)), one's own -/
theorem own_listRg {n : Nat} (h : Is te σ G (dat (.int (n : Int)))) (hn : n ≤ 100000) (s : Same G H) (k : ∀ l G2 H2, Own G H G2 H2 l ((List.range n).map fun n : Nat => PyData.int (n : Int)) → D.nx (σ.set i (some (.ref l))) H2) : tAsg (tLstRg (tRg1 te)) (gName i) D σ H :=
  h G H (Same.refl _) s _ fun x G2 H2 g2 px => by
    refine ⟨(n : Int), px.int_inv, rg_nums hn, fun q hq => ?_⟩
    rw [rg_eq]
    exact k q G2 _ ⟨g2.trans (.hid g2.gh hq), g2.th _ hq, g2.gh.free hq, _, upd_same, dvs_nums _⟩
end
end Yd
set_option Elab.async false
set_option linter.all false
set_option maxRecDepth 100000
set_option maxHeartbeats 4000000
namespace Yd
open PySem PySem.Spec L2

open PySem.W (AllAlike Sortable)
/-! ### the marks of pieces, plain -/
def upm (m : Nat → Nat) (a c l : Nat) : Nat → Nat := fun v => if v = c then l else if v = a then l else m v
def Closed (rs : List Road) (m : Nat → Nat) (c : Nat) : Prop := ∀ r ∈ rs, m r.2.1 ≤ c ↔ m r.2.2 ≤ c
def cnt (n : Nat) (m : Nat → Nat) (c : Nat) : Nat := ((List.range n).filter fun v => decide (m v ≤ c)).length
structure Rnd (all rs : List Road) (m0 m : Nat → Nat) : Prop where
  le : ∀ v, m v ≤ m0 v
  near : ∀ r ∈ rs, m r.2.1 ≤ m0 r.2.2 ∧ m r.2.2 ≤ m0 r.2.1
  keep : ∀ c, Closed all m0 c → ∀ v, m v ≤ c → m0 v ≤ c
theorem rnd_zero (all : List Road) (m : Nat → Nat) : Rnd all [] m m := ⟨fun v => Nat.le_refl _, fun r h => absurd h List.not_mem_nil, fun c _ v h => h⟩
theorem upm_le {m : Nat → Nat} {a c v : Nat} : upm m a c (min (m a) (m c)) v ≤ m v := by
  unfold upm
  by_cases h1 : v = c
  · rw [if_pos h1, h1]; exact Nat.min_le_right _ _
  · rw [if_neg h1]
    by_cases h2 : v = a
    · rw [if_pos h2, h2]; exact Nat.min_le_left _ _
    · rw [if_neg h2]; exact Nat.le_refl _
theorem rnd_step {all rs : List Road} {m0 m : Nat → Nat} (h : Rnd all rs m0 m) {r : Road} (hr : r ∈ all) : Rnd all (rs ++ [r]) m0 (upm m r.2.1 r.2.2 (min (m r.2.1) (m r.2.2))) where
  le := fun v => Nat.le_trans upm_le (h.le v)
  near := fun q hq => by
    rcases List.mem_append.mp hq with hq | hq
    · exact ⟨Nat.le_trans upm_le (h.near q hq).1, Nat.le_trans upm_le (h.near q hq).2⟩
    · rw [List.mem_singleton.mp hq]
      have e1 : upm m r.2.1 r.2.2 (min (m r.2.1) (m r.2.2)) r.2.2 = min (m r.2.1) (m r.2.2) := by unfold upm; rw [if_pos rfl]
      have e2 : upm m r.2.1 r.2.2 (min (m r.2.1) (m r.2.2)) r.2.1 = min (m r.2.1) (m r.2.2) := by
        unfold upm
        by_cases c : r.2.1 = r.2.2
        · rw [if_pos c]
        · rw [if_neg c, if_pos rfl]
      rw [e1, e2]
      have := h.le r.2.1
      have := h.le r.2.2
      omega
  keep := fun c hc v hv => by
    have hk := hc r hr
    unfold upm at hv
    by_cases h1 : v = r.2.2
    · rw [if_pos h1] at hv
      subst h1
      have k1 := h.keep c hc r.2.1
      have k2 := h.keep c hc r.2.2
      by_cases g : m r.2.2 ≤ c
      · exact k2 g
      · exact hk.mp (k1 (by omega))
    · rw [if_neg h1] at hv
      by_cases h2 : v = r.2.1
      · rw [if_pos h2] at hv
        subst h2
        have k1 := h.keep c hc r.2.1
        have k2 := h.keep c hc r.2.2
        by_cases g : m r.2.1 ≤ c
        · exact k1 g
        · exact hk.mpr (k2 (by omega))
      · rw [if_neg h2] at hv
        exact h.keep c hc v hv
structure Turn (n : Nat) (rs : List Road) (t : Nat) (m : Nat → Nat) : Prop where
  le : ∀ v, m v ≤ v
  ok : ∀ c, Closed rs m c ∨ t ≤ cnt n m c
theorem turn_zero (n : Nat) (rs : List Road) : Turn n rs 0 id := ⟨fun v => Nat.le_refl _, fun c => .inr (Nat.zero_le _)⟩
theorem cnt_more {n c w : Nat} {m0 m : Nat → Nat} (h : ∀ v, m v ≤ m0 v) (hw : w < n) (h1 : m w ≤ c) (h2 : ¬ m0 w ≤ c) : cnt n m0 c + 1 ≤ cnt n m c := by
  have := L2.nat_nodup_len (w :: (List.range n).filter fun v => decide (m0 v ≤ c)) ((List.range n).filter fun v => decide (m v ≤ c)) (List.nodup_cons.mpr ⟨fun hm => h2 (of_decide_eq_true (List.mem_filter.mp hm).2), List.Pairwise.sublist List.filter_sublist List.nodup_range⟩) fun x hx => by
    rcases List.mem_cons.mp hx with rfl | hx
    · exact List.mem_filter.mpr ⟨List.mem_range.mpr hw, decide_eq_true h1⟩
    · obtain ⟨k1, k2⟩ := List.mem_filter.mp hx
      exact List.mem_filter.mpr ⟨k1, decide_eq_true (Nat.le_trans (h x) (of_decide_eq_true k2))⟩
  exact this
theorem turn_step {n t : Nat} {rs : List Road} {m0 m : Nat → Nat} (hr : ∀ r ∈ rs, r.2.1 < n ∧ r.2.2 < n) (T : Turn n rs t m0) (R : Rnd rs rs m0 m) : Turn n rs (t + 1) m where
  le := fun v => Nat.le_trans (R.le v) (T.le v)
  ok := fun c => by
    by_cases hc : Closed rs m0 c
    · refine .inl fun r h => ⟨fun k => ?_, fun k => ?_⟩
      · exact Nat.le_trans (R.le _) ((hc r h).mp (R.keep c hc _ k))
      · exact Nat.le_trans (R.le _) ((hc r h).mpr (R.keep c hc _ k))
    · right
      have ht : t ≤ cnt n m0 c := by
        rcases T.ok c with h | h
        · exact absurd h hc
        · exact h
      obtain ⟨r, h, hn⟩ : ∃ r, r ∈ rs ∧ ¬ (m0 r.2.1 ≤ c ↔ m0 r.2.2 ≤ c) := Classical.byContradiction fun z => hc fun r h => Classical.byContradiction fun q => z ⟨r, h, q⟩
      obtain ⟨n1, n2⟩ := R.near r h
      obtain ⟨l1, l2⟩ := hr r h
      by_cases c1 : m0 r.2.1 ≤ c
      · have c2 : ¬ m0 r.2.2 ≤ c := fun k => hn ⟨fun _ => k, fun _ => c1⟩
        have := cnt_more R.le l2 (Nat.le_trans n2 c1) c2
        omega
      · have c2 : m0 r.2.2 ≤ c := Classical.byContradiction fun k => hn ⟨fun z => absurd z c1, fun z => absurd z k⟩
        have := cnt_more R.le l1 (Nat.le_trans n1 c2) c1
        omega
theorem turn_end {n : Nat} {rs : List Road} {m : Nat → Nat} (hr : ∀ r ∈ rs, r.2.1 < n ∧ r.2.2 < n) (T : Turn n rs n m) : ∀ r ∈ rs, m r.2.1 = m r.2.2 := by
  have hc : ∀ c, Closed rs m c := fun c => by
    rcases T.ok c with h | h
    · exact h
    · have all : ∀ v, v < n → m v ≤ c := fun v hv => Classical.byContradiction fun z => by
        have := L2.nat_nodup_len (v :: (List.range n).filter fun v => decide (m v ≤ c)) (List.range n) (List.nodup_cons.mpr ⟨fun hm => z (of_decide_eq_true (List.mem_filter.mp hm).2), List.Pairwise.sublist List.filter_sublist List.nodup_range⟩) fun x hx => by
          rcases List.mem_cons.mp hx with rfl | hx
          · exact List.mem_range.mpr hv
          · exact (List.mem_filter.mp hx).1
        rw [List.length_cons, List.length_range] at this
        have h' : n ≤ ((List.range n).filter fun v => decide (m v ≤ c)).length := h
        omega
      exact fun r h => ⟨fun _ => all _ (hr r h).2, fun _ => all _ (hr r h).1⟩
  intro r h
  have h1 := (hc (m r.2.1) r h).mp (Nat.le_refl _)
  have h2 := (hc (m r.2.2) r h).mpr (Nat.le_refl _)
  omega
def mkL (n : Nat) (m : Nat → Nat) : List PyData := (List.range n).map fun v => PyData.int ((m v : Nat) : Int)
theorem mk_set {n a l : Nat} {m : Nat → Nat} : (mkL n m).set a (.int (l : Int)) = mkL n fun v => if v = a then l else m v := by
  unfold mkL
  refine List.ext_getElem (by simp) fun i h1 h2 => ?_
  rw [List.getElem_set]
  simp only [List.getElem_map, List.getElem_range]
  by_cases c : a = i
  · subst c; rw [if_pos rfl, if_pos rfl]
  · rw [if_neg c, if_neg (fun e => c e.symm)]
theorem mk_get {n i : Nat} {m : Nat → Nat} (h : i < n) : (mkL n m)[i]? = some (.int ((m i : Nat) : Int)) := by
  unfold mkL
  rw [List.getElem?_map, List.getElem?_range h]; rfl
theorem mk_len (n : Nat) (m : Nat → Nat) : (mkL n m).length = n := by unfold mkL; rw [List.length_map, List.length_range]
structure Pieces (n : Nat) (rs : List Road) (m : Nat → Nat) : Prop where
  le : ∀ v, m v ≤ v
  same : ∀ r ∈ rs, m r.2.1 = m r.2.2
def pieceL (n : Nat) (m : Nat → Nat) : List (List Nat) := (sset ((List.range n).map m)).map fun c => (List.range n).filter fun p => decide (m p = c)
def piecesP (n : Nat) (rs : List Road) : Pm := ⟨fun v G => ∃ m, Pieces n rs m ∧ DV G v (.list ((pieceL n m).map nums)), fun _ _ _ s ⟨m, h1, h2⟩ => ⟨m, h1, h2.mono s⟩⟩
def prePieces : List V → Hp → Pm → Prop := fun vs G p => ∃ (n : Nat) (rs : List Road), n ≤ 32 ∧ (∀ r ∈ rs, r.2.1 < n ∧ r.2.2 < n) ∧ AllP [dat (.int (n : Int)), dat (.list (rs.map rd))] vs G ∧ p = piecesP n rs
section
variable {P : Program} {w : World} {K : PySem.W.Frag} {mg : Str → Option Value} {base : Heap}
theorem sc_lpieces_of : FnScope ["_law_size", "_law_roads_here", "_law_marks", "_law_turn", "_law_kind", "_law_one", "_law_other", "_law_least", "_law_place", "_law_mark"] ["_law_size", "_law_roads_here"] (defScope (top 51)) := ⟨rfl, rfl, rfl, by decide +kernel, rfl, by decide +kernel, by decide +kernel⟩
theorem has_lpieces_of (T : Tx K mg) : Has P w K mg base CX0 1 "_law_pieces_of" ["_law_size", "_law_roads_here"] (PureSp prePieces) := by
  refine T.has 36 (fun fd F => F.ok sc_lpieces_of (fun vs H Q E h => ?_) fun cdv A outer s H vs Q E hr h => ?_) (fun fd F => F.bindsN fun _ _ _ _ _ _ us hl => match us, hl with | [_, _], _ => rfl)
  · obtain ⟨G, p, _, ⟨_, _, _, _, a, _⟩, _⟩ := h; exact a.len
  · obtain ⟨G, p, z, ⟨n, rs, hn, hr1, a, rfl⟩, k⟩ := h
    obtain ⟨v0, v1, rfl, d0', d1⟩ := allp2 a
    refine ⟨_, PSs.nox (pss_cons (ps_set (i := 2) sc_lpieces_of.nd rfl (by first | exact Or.inl rfl | exact Or.inr rfl) (pe_listRg rfl rfl (T.free "list") (prg_1 rfl (T.free "range") (pv 0))))
      (pss_cons (ps_for PassesOwn.never rfl (pi_range1 rfl (T.free "range") (pa_cons (pv 0) (pa_nil))) (pg_name (i := 3) sc_lpieces_of.nd rfl (by first | exact Or.inl rfl | exact Or.inr rfl)) (pss_one (ps_for PassesOwn.never rfl (pi_listK (K := K) rfl (pv 1)) (pg_tupK (K := K) (n := 3) rfl rfl (pgs_cons (pg_name (i := 4) sc_lpieces_of.nd rfl (by first | exact Or.inl rfl | exact Or.inr rfl)) (pgs_cons (pg_name (i := 5) sc_lpieces_of.nd rfl (by first | exact Or.inl rfl | exact Or.inr rfl)) (pgs_cons (pg_name (i := 6) sc_lpieces_of.nd rfl (by first | exact Or.inl rfl | exact Or.inr rfl)) (pgs_nil))))) (pss_cons (ps_set (i := 7) sc_lpieces_of.nd rfl (by first | exact Or.inl rfl | exact Or.inr rfl) (pe_callB (call_min2 rfl) (by rfl) (T.free "min") (by decide +kernel) (pa_cons (pe_ix (ix_seqK (K := K) rfl) (pv 2) (pv 5) (fun _ _ => rfl)) (pa_cons (pe_ix (ix_seqK (K := K) rfl) (pv 2) (pv 6) (fun _ _ => rfl)) (pa_nil)))))
          (pss_one (ps_asg (pe_tup (pa_cons (pv 7) (pa_cons (pv 7) (pa_nil)))) (pg_tupK (K := K) (n := 2) rfl rfl (pgs_cons (pg_sub (pv 2) (pv 5) set_list) (pgs_cons (pg_sub (pv 2) (pv 6) set_list) (pgs_nil))))))))))
      (pss_one (ps_ret (pe_lc (own := [("_law_mark", 9)]) rfl sc_lpieces_of.nd (pi_listK (K := K) rfl (pe_sortSet rfl rfl (T.free "sorted") rfl (T.free "set") (pv 2))) (blkOk_by (by rfl)) (fun _ _ _ _ _ => pg_name (i := 9) sc_lpieces_of.nd rfl (by first | exact Or.inl rfl | exact Or.inr rfl)) (fun _ _ _ _ _ => pts_nil) (fun _ _ _ _ _ => pe_lc (own := [("_law_place", 8)]) rfl sc_lpieces_of.nd (pi_range1 rfl (T.free "range") (pa_cons (pv 0) (pa_nil))) (blkOk_by (by rfl)) (fun _ _ _ _ _ => pg_name (i := 8) sc_lpieces_of.nd rfl (by first | exact Or.inl rfl | exact Or.inr rfl)) (fun _ _ _ _ _ => pts_one (pt_cmpR (op_eqDK (K := K) rfl (un70 hr)) (pe_ix (ix_seqK (K := K) rfl) (pv 2) (pv 8) (fun _ _ => rfl)) (pv 9) (nomark _))) (fun _ _ _ _ _ => pv 8))))))), ?_⟩
    refine own_listRg (n := n) (is_d rfl d0') (by omega) z fun l G0 H0 O0 => ?_
    have O0' : Own G H G0 H0 l (mkL n id) := O0
    refine for_rng (n := n) (G := G0) (isa_cons (is_d rfl (d0'.mono O0.g.gg)) isa_nil) (by omega) O0.g.gh (fun t σ' G' H' => (∃ x3 x4 x5 x6 x7 m, σ' = [some v0, some v1, some (.ref l), x3, x4, x5, x6, x7, none, none] ∧ Own G H G' H' l (mkL n m) ∧ Turn n rs t m) ∧ Same G0 G')
      (fun G1 H1 g1 => ⟨⟨_, _, _, _, _, id, rfl, O0'.grow g1, turn_zero _ _⟩, g1.gg⟩) ?_ ?_
    · rintro t σ' G' H' ht zs zg ⟨⟨x3, x4, x5, x6, x7, m0, rfl, O, T0⟩, s0⟩
      refine ⟨_, gt_name, fun N hN => ?_⟩
      refine for_dat (ds := rs.map rd) (G := G') (is_d rfl (d1.mono O.g.gg)) O.g.gh (fun j σ' G3 H3 => (∃ y4 y5 y6 y7 m, σ' = [some v0, some v1, some (.ref l), some (.int (t : Int)), y4, y5, y6, y7, none, none] ∧ Own G H G3 H3 l (mkL n m) ∧ Rnd rs (rs.take j) m0 m) ∧ Same G' G3)
        (fun G3 H3 g3 => ⟨⟨_, _, _, _, m0, rfl, O.grow g3, rnd_zero _ _⟩, g3.gg⟩) ?_ ?_
      · rintro j x d σ' G3 H3 hj hx zs3 zg3 ⟨⟨y4, y5, y6, y7, m, rfl, O3, R⟩, s3⟩
        rw [List.getElem?_map, Option.map_eq_some_iff] at hj
        obtain ⟨r, hrj, rfl⟩ := hj
        obtain ⟨l1, l2⟩ := hr1 r (List.mem_of_getElem? hrj)
        obtain ⟨tp, rfl, htp⟩ := road_tup hx
        refine ⟨_, gt_tup3 htp, fun N2 hN2 => ?_⟩
        refine set_at (p := dat (.int ((min (m r.2.1) (m r.2.2) : Nat) : Int))) (own_flat O3 (flat_int _) fun G4 s4 dl => Is.eqd (is_cb (isa_cons (is_op (is_d rfl dl) (is_d rfl (.int _)) (ri_ixL (j := r.2.1) rfl (mk_get l1))) (isa_cons (is_op (is_d rfl dl) (is_d rfl (.int _)) (ri_ixL (j := r.2.2) rfl (mk_get l2))) isa_nil)) rc_min) (congrArg PyData.int (min_if _ _))) fun v7 G4 H4 g4 p7 => ?_
        obtain rfl := (show DV G4 v7 (.int _) from p7).int_inv
        refine set2_own (a := r.2.1) (c := r.2.2) (d := .int ((min (m r.2.1) (m r.2.2) : Nat) : Int)) (O3.grow g4) rfl rfl rfl rfl (.int _) (by rw [mk_len]; exact l1) (by rw [mk_len]; exact l2) fun G5 H5 s5 O5 => hN2 _ G5 H5 (g4.gg.trans s5) O5.g.gh ⟨⟨_, _, _, _, upm m r.2.1 r.2.2 (min (m r.2.1) (m r.2.2)), rfl, ?_, ?_⟩, s3.trans (g4.gg.trans s5)⟩
        · rw [mk_set, mk_set] at O5
          exact O5
        · rw [List.take_succ, hrj]
          exact rnd_step R (List.mem_of_getElem? hrj)
      · rintro σ' G3 H3 zs3 zg3 ⟨⟨y4, y5, y6, y7, m, rfl, O3, R⟩, s3⟩
        rw [List.length_map, List.take_length] at R
        exact hN _ G3 H3 s3 zs3 ⟨⟨_, _, _, _, _, m, rfl, O3, turn_step hr1 T0 R⟩, s0.trans s3⟩
    · rintro σ' G' H' zs zg ⟨⟨x3, x4, x5, x6, x7, m, rfl, O, T0⟩, s0⟩
      obtain ⟨G2, g2, dM, s2⟩ := O.fin
      have dM' : DV G2 (.ref l) (nums ((List.range n).map m)) := by
        show DV G2 _ (.list (((List.range n).map m).map _))
        rw [List.map_map]; exact dM
      have hsl : (sset ((List.range n).map m)).length ≤ 63 := by
        have := List.length_filter_le (fun k => decide (k ∈ (List.range n).map m)) (List.range 63)
        rwa [List.length_range] at this
      refine ret_is (p := dat (.list ((pieceL n m).map nums))) (G := G2) (Is.eqd (is_lcA (fun n : Nat => PyData.int (n : Int)) (xs := sset ((List.range n).map m)) (p := fun _ => true) (q := fun c => nums ((List.range n).filter fun p => decide (m p = c))) (is_sortSet (is_d rfl dM') (by rw [List.length_map, List.length_range]; omega) fun x hx => ?_) (by omega) fun x c G3 hc s3 hx => ⟨_, gt_name, rfl, fun G4 H4 _ s4 Q q => q G4 H4 (.refl s4), fun _ => Is.eqd (is_lcR (n := n) (f := fun i => decide ((m i : Int) = (c : Int))) (o := fun i => .int (i : Int)) (isa_cons (is_d rfl (d0'.mono (g2.gg.trans s3))) isa_nil) (by omega) fun i G4 hi s4 => ⟨_, gt_name, rfl, IsT.eqb (ist_test (is_op (is_op (is_d rfl (dM.mono (s3.trans s4))) (is_d rfl (.int _)) (ri_ixL (j := i) rfl (mk_get hi))) (is_d rfl (hx.mono s4)) (ri_eqD (Sd.sh (n := 1) (sd_int _)) (Sd.sh (n := 1) (sd_int _))))) (eqv_int _ _), fun _ => is_d rfl (.int _)⟩) ?_⟩) ?_) g2.gh fun v G3 H3 g3 pv => k v G3 H3 (g2.trans g3) ⟨m, ⟨T0.le, turn_end hr1 T0⟩, pv⟩
      · obtain ⟨i, hi, rfl⟩ := List.mem_map.mp hx
        have := T0.le i
        have := List.mem_range.mp hi
        omega
      · show PyData.list (List.map _ _) = .list (List.map _ _)
        congr 2
        refine List.filter_congr fun i _ => decide_eq_decide.mpr ⟨fun h => by omega, fun h => by omega⟩
      · rw [List.filter_eq_self.mpr fun _ _ => rfl]
        show PyData.list _ = .list ((List.map _ _).map nums)
        rw [List.map_map]; rfl

end
end Yd
set_option Elab.async false
set_option linter.all false
set_option maxRecDepth 100000
set_option maxHeartbeats 4000000
namespace Yd
open PySem PySem.Spec L2

open PySem.W (AllAlike Sortable)
/-! ### what is known: a dict of roads -/
def rk (r : Road) : List Key := [.inr r.1, .inl (r.2.1 : Int), .inl (r.2.2 : Int)]
def knownP (qs : List Road) : Pm := ⟨fun v G => ∃ a kvs, v = .ref a ∧ G a = some (.dT kvs) ∧ ∀ r : Road, (valV kvs (rk r)).isSome = decide (r ∈ qs), fun _ _ _ s ⟨a, kvs, h1, h2, h3⟩ => ⟨a, kvs, h1, s _ _ h2, h3⟩⟩
section
variable {K : PySem.W.Frag} {σ : L2.St} {G H : Hp} {te ty td : TE} {d : PyData}
theorem is_din {r : Road} {qs : List Road} (hy : Is ty σ G (dat (rd r))) (hd : Is td σ G (knownP qs)) : Is (tDIn ty td) σ G (dat (.bool (decide (r ∈ qs)))) := fun G1 H1 s1 s2 Q k =>
  hy G1 H1 s1 s2 _ fun y G2 H2 g2 py => hd G2 H2 (s1.trans g2.gg) g2.gh _ fun x G3 H3 g3 px => by
    obtain ⟨t, rfl, ht⟩ := road_tup py
    obtain ⟨a, kvs, rfl, ha, hk⟩ := px
    refine ⟨a, _, rfl, DGet.t (k := rk r) (g3.gh _ _ ha) (g3.gh _ _ (g3.gg _ _ ht)), ?_⟩
    rw [hk r]
    exact k _ G3 H3 (g2.trans g3) (.bl _)
/-- a comprehension over a list: the new list is one's own -/
theorem lcA_own {tl : TE} {tt : TT} {g : TG} {vs : List Nat} {α : Type} (enc : α → PyData) {xs : List α} {p : α → Bool} {q : α → PyData} {G1 H1 : Hp} (hl : At tl σ G1 H1 (dat (.list (xs.map enc)))) (hz : xs.length ≤ 100000)
    (hs : ∀ x a G2, a ∈ xs → Same G1 G2 → DV G2 x (enc a) → ∃ σ2, GT g x (wipe σ vs) G2 σ2 ∧ wipe σ2 vs = wipe σ vs ∧ IsT tt σ2 G2 (p a) ∧ (p a = true → Is te σ2 G2 (dat (q a)))) (Q : VK)
    (k : ∀ D G2 H2, Own G1 H1 G2 H2 D ((xs.filter p).map q) → Q (.ref D) H2) : tLc (iList K tl) g tt te vs σ H1 Q :=
  hl _ fun x G2 H2 g2 px => by
    obtain ⟨a, us, rfl, ha, dv⟩ := px.lst_inv
    refine ⟨a, rfl, ⟨us, SqL.of (g2.gh _ _ ha)⟩, fun D hD => ?_⟩
    have e : outI xs.length (fun i => (xs[i]?.map p).getD false) (fun i => (xs[i]?.map q).getD .none) = (xs.filter p).map q := outI_any p q xs _ _ fun i a h => by rw [h]; exact ⟨rfl, rfl⟩
    refine lc_list (K := K) (a := a) (xs := us) (LcW G2 H2 D (fun i => (xs[i]?.map p).getD false) (fun i => (xs[i]?.map q).getD .none)) (lcw_start g2.gh hD) (fun i H' _ w => ?_) (fun i x H' hi w => ?_) (fun H' w => ?_)
    · obtain ⟨G', acc, g, _⟩ := w
      exact SqL.of (g.gh _ _ (g.gg _ _ ha))
    · obtain ⟨G', acc, g, hh, hn, dva⟩ := w
      obtain ⟨d, hd, hv⟩ := dv.getV hi
      rw [List.getElem?_map, Option.map_eq_some_iff] at hd
      obtain ⟨b, hb, rfl⟩ := hd
      obtain ⟨σ2, hgt, hw, ht, he⟩ := hs x b G' (List.mem_of_getElem? hb) (g2.gg.trans g.gg) (hv.mono g.gg)
      have hlt : i < xs.length := (List.getElem?_eq_some_iff.mp hb).1
      exact hgt H' g.gh _ ⟨hw, lcw_turn hD g hh hn dva (Nat.lt_of_lt_of_le hlt hz) (by simp only [hb, Option.map_some, Option.getD_some]; exact ht) (by simp only [hb, Option.map_some, Option.getD_some]; exact he)⟩
    · rw [dv.length, List.length_map] at w
      obtain ⟨G', acc, g, hh, hn, dva⟩ := w
      rw [e] at dva
      exact k D G' H' ⟨g2.trans g, g2.th _ hD, hn, acc, hh, dva⟩
theorem lcA_at {tl : TE} {tt : TT} {g : TG} {vs : List Nat} {α : Type} (enc : α → PyData) {xs : List α} {p : α → Bool} {q : α → PyData} {G1 H1 : Hp} (hl : At tl σ G1 H1 (dat (.list (xs.map enc)))) (hz : xs.length ≤ 100000)
    (hs : ∀ x a G2, a ∈ xs → Same G1 G2 → DV G2 x (enc a) → ∃ σ2, GT g x (wipe σ vs) G2 σ2 ∧ wipe σ2 vs = wipe σ vs ∧ IsT tt σ2 G2 (p a) ∧ (p a = true → Is te σ2 G2 (dat (q a)))) : At (tLc (iList K tl) g tt te vs) σ G1 H1 (dat (.list ((xs.filter p).map q))) := fun Q k =>
  lcA_own enc hl hz hs Q fun D G2 H2 O => by
    obtain ⟨G3, g3, dv, _⟩ := O.fin
    exact k _ G3 H2 g3 dv
theorem par_lcA {tl t2 : TE} {tt : TT} {g : TG} {vs : List Nat} {α : Type} (enc : α → PyData) {xs : List α} {p : α → Bool} {q : α → PyData} {i j : Nat} {w : V} {E : Ends} (hl : At tl σ G H (dat (.list (xs.map enc)))) (hz : xs.length ≤ 100000)
    (hs : ∀ x a G2, a ∈ xs → Same G G2 → DV G2 x (enc a) → ∃ σ2, GT g x (wipe σ vs) G2 σ2 ∧ wipe σ2 vs = wipe σ vs ∧ IsT tt σ2 G2 (p a) ∧ (p a = true → Is te σ2 G2 (dat (q a)))) (ht : ∀ H Q, Q w H → t2 σ H Q)
    (k : ∀ D G2 H2, Own G H G2 H2 D ((xs.filter p).map q) → E.nx ((σ.set i (some (.ref D))).set j (some w)) H2) : tPar i j (tCons (tLc (iList K tl) g tt te vs) (tCons t2 tNil)) E σ H :=
  lcA_own (K := K) enc hl hz hs (fun x H1 => t2 σ H1 fun y H2 => ∃ a c, [x, y] = [a, c] ∧ E.nx ((σ.set i (some a)).set j (some c)) H2) fun D G2 H2 O => ht _ _ ⟨_, _, rfl, k D G2 H2 O⟩
/-- an if that may set one name -/
theorem if_join {tt : TT} {t1 : TS} {D : Ends} {b : Bool} {i : Nat} {u0 : V} (Pv : V → Hp → Prop) (h : IsT tt σ G b) (s : Same G H) (hσ : σ.set i (some u0) = σ) (k1 : b = true → ∀ G2 H2, Gr0 G H G2 H2 → ∀ E : Ends, (∀ u G3 H3, Gr0 G2 H2 G3 H3 → Pv u G3 → E.nx (σ.set i (some u)) H3) → t1 E σ H2)
    (h0 : b = false → ∀ G2, Same G G2 → Pv u0 G2) (k : ∀ u G3 H3, Gr0 G H G3 H3 → Pv u G3 → D.nx (σ.set i (some u)) H3) : tIfS tt t1 tNext D σ H :=
  if_is h s (fun hb G2 H2 g2 => k1 hb G2 H2 g2 D fun u G3 H3 g3 p => k u G3 H3 (g2.trans g3) p) fun hb G2 H2 g2 => by
    have := k u0 G2 H2 g2 (h0 hb G2 g2.gg)
    rw [hσ] at this
    exact this
theorem op_at {r : R2} {ta tb : TE} {p q s : Pm} (ha : Is ta σ G p) (z : Same G H) (hb : ∀ G1 H1, Gr0 G H G1 H1 → At tb σ G1 H1 q) (hr : ∀ G1, RI r p q G1 s) : At (tOp r ta tb) σ G H s := fun Q k =>
  ha G H (Same.refl _) z _ fun x G2 H2 g2 px => hb G2 H2 g2 _ fun y G3 H3 g3 py =>
    hr G3 x y G3 H3 (Same.refl _) g3.gh (p.mono _ _ _ g3.gg px) py Q fun v G4 H4 g4 pv => k v G4 H4 (g2.trans (g3.trans g4)) pv
end
/-! ### domains, plain -/
def total (D : List (List Nat)) : Nat := (D.map List.length).sum
def domAt (D : List (List Nat)) (p : Nat) : List Nat := D.getD p []
theorem total_set : ∀ {D : List (List Nat)} {p : Nat} {xs : List Nat}, p < D.length → total (D.set p xs) + (domAt D p).length = total D + xs.length
  | d :: D, 0, xs, _ => by simp [total, domAt]; omega
  | d :: D, p + 1, xs, h => by
    have := total_set (D := D) (p := p) (xs := xs) (by simpa using h)
    simp [total, domAt] at this ⊢
    omega
theorem dom_set {D : List (List Nat)} {p q : Nat} {xs : List Nat} (h : p < D.length) : domAt (D.set p xs) q = if q = p then xs else domAt D q := by
  unfold domAt
  rw [List.getD_eq_getElem?_getD, List.getElem?_set]
  by_cases c : p = q
  · subst c; rw [if_pos rfl, if_pos rfl, if_pos h]; rfl
  · rw [if_neg c, if_neg (fun e => c e.symm), List.getD_eq_getElem?_getD]
structure Doms (n many : Nat) (D : List (List Nat)) : Prop where
  len : D.length = n
  lt : ∀ xs ∈ D, ∀ x ∈ xs, x < many
  few : ∀ xs ∈ D, xs.length ≤ 32
theorem Doms.mem {n many : Nat} {D : List (List Nat)} (h : Doms n many D) {p : Nat} (hp : p < n) : domAt D p ∈ D := by
  unfold domAt
  rw [List.getD_eq_getElem?_getD, List.getElem?_eq_getElem (by rw [h.len]; exact hp)]
  exact List.getElem_mem _
theorem Doms.get {n many : Nat} {D : List (List Nat)} (h : Doms n many D) {p : Nat} (hp : p < n) : (D.map nums)[p]? = some (nums (domAt D p)) := by
  unfold domAt
  rw [List.getElem?_map, List.getD_eq_getElem?_getD, List.getElem?_eq_getElem (by rw [h.len]; exact hp)]; rfl
theorem Doms.set {n many : Nat} {D : List (List Nat)} (h : Doms n many D) {p : Nat} {xs : List Nat} (h1 : ∀ x ∈ xs, x < many) (h2 : xs.length ≤ 32) : Doms n many (D.set p xs) where
  len := by rw [List.length_set]; exact h.len
  lt := fun ys hy => by
    rcases List.mem_or_eq_of_mem_set hy with hy | rfl
    · exact h.lt ys hy
    · exact h1
  few := fun ys hy => by
    rcases List.mem_or_eq_of_mem_set hy with hy | rfl
    · exact h.few ys hy
    · exact h2
def InD (n : Nat) (D : List (List Nat)) (f : Nat → Nat) : Prop := ∀ p, p < n → f p ∈ domAt D p
def Sol (rs qs : List Road) (f : Nat → Nat) : Prop := ∀ r ∈ rs, (r.1, f r.2.1, f r.2.2) ∈ qs
def Supp (qs : List Road) (D : List (List Nat)) (r : Road) : Prop := domAt D r.2.1 ≠ [] → ∃ a ∈ domAt D r.2.1, ∃ c ∈ domAt D r.2.2, (r.1, a, c) ∈ qs
def Kept (n : Nat) (rs qs : List Road) (D D' : List (List Nat)) : Prop := ∀ f, Sol rs qs f → InD n D f → InD n D' f
def duos1 (qs : List Road) (k : Str) (A B : List Nat) : List (Nat × Nat) := A.flatMap fun a => (B.filter fun c => decide ((k, a, c) ∈ qs)).map fun c => (a, c)
def duosL (qs : List Road) (k : Str) (A B : List Nat) (same : Bool) : List (Nat × Nat) := if same = true then (duos1 qs k A B).filter fun p => decide (p.1 = p.2) else duos1 qs k A B
def duoD (p : Nat × Nat) : PyData := .tuple [.int (p.1 : Int), .int (p.2 : Int)]
theorem mem_duos1 {qs : List Road} {k : Str} {A B : List Nat} {p : Nat × Nat} : p ∈ duos1 qs k A B ↔ p.1 ∈ A ∧ p.2 ∈ B ∧ (k, p.1, p.2) ∈ qs := by
  unfold duos1
  rw [List.mem_flatMap]
  constructor
  · rintro ⟨a, ha, h⟩
    obtain ⟨c, hc, rfl⟩ := List.mem_map.mp h
    obtain ⟨h1, h2⟩ := List.mem_filter.mp hc
    exact ⟨ha, h1, of_decide_eq_true h2⟩
  · obtain ⟨a, c⟩ := p
    rintro ⟨h1, h2, h3⟩
    exact ⟨a, h1, List.mem_map.mpr ⟨c, List.mem_filter.mpr ⟨h2, decide_eq_true h3⟩, rfl⟩⟩
theorem duos1_len (qs : List Road) (k : Str) (B : List Nat) : ∀ A : List Nat, (duos1 qs k A B).length ≤ A.length * B.length
  | [] => by simp [duos1]
  | a :: A => by
    have ih := duos1_len qs k B A
    unfold duos1 at ih ⊢
    rw [List.flatMap_cons, List.length_append, List.length_map, List.length_cons, Nat.succ_mul]
    have := List.length_filter_le (fun c => decide ((k, a, c) ∈ qs)) B
    omega
theorem duosL_sub {qs : List Road} {k : Str} {A B : List Nat} {same : Bool} {p : Nat × Nat} (h : p ∈ duosL qs k A B same) : p.1 ∈ A ∧ p.2 ∈ B ∧ (k, p.1, p.2) ∈ qs := by
  unfold duosL at h
  by_cases c : same = true
  · rw [if_pos c] at h; exact mem_duos1.mp (List.mem_filter.mp h).1
  · rw [if_neg c] at h; exact mem_duos1.mp h
theorem duosL_len (qs : List Road) (k : Str) (A B : List Nat) (same : Bool) : (duosL qs k A B same).length ≤ A.length * B.length := by
  unfold duosL
  by_cases c : same = true
  · rw [if_pos c]; exact Nat.le_trans (List.length_filter_le _ _) (duos1_len _ _ _ _)
  · rw [if_neg c]; exact duos1_len _ _ _ _
theorem duosL_sol {n : Nat} {rs qs : List Road} {D : List (List Nat)} {f : Nat → Nat} {r : Road} (hs : Sol rs qs f) (hd : InD n D f) (hr : r ∈ rs) (h1 : r.2.1 < n) (h2 : r.2.2 < n) : (f r.2.1, f r.2.2) ∈ duosL qs r.1 (domAt D r.2.1) (domAt D r.2.2) (decide ((r.2.1 : Int) = (r.2.2 : Int))) := by
  have hm : (f r.2.1, f r.2.2) ∈ duos1 qs r.1 (domAt D r.2.1) (domAt D r.2.2) := mem_duos1.mpr ⟨hd _ h1, hd _ h2, hs r hr⟩
  unfold duosL
  by_cases c : (r.2.1 : Int) = (r.2.2 : Int)
  · rw [if_pos (decide_eq_true c)]
    refine List.mem_filter.mpr ⟨hm, decide_eq_true ?_⟩
    have : r.2.1 = r.2.2 := by omega
    show f r.2.1 = f r.2.2
    rw [this]
  · rw [if_neg (by simpa using c)]; exact hm
def sel (e : Nat) (p : Nat × Nat) : Nat := if e = 0 then p.1 else p.2
def endAt (r : Road) (e : Nat) : Nat := if e = 0 then r.2.1 else r.2.2
theorem sset_len (ns : List Nat) : (sset ns).length ≤ 63 := by
  have := List.length_filter_le (fun k => decide (k ∈ ns)) (List.range 63)
  rwa [List.length_range] at this
/-- what stands within a pass: D0 at the call, D at the pass's start, D2 now -/
structure Thin (n many : Nat) (rs qs : List Road) (D0 D D2 : List (List Nat)) (fl : Bool) : Prop where
  doms : Doms n many D2
  kept : Kept n rs qs D0 D2
  le : total D2 ≤ total D
  lt : fl = true → total D2 < total D
theorem Thin.put {n many : Nat} {rs qs : List Road} {D0 D D1 D2 : List (List Nat)} {fl : Bool} (T : Thin n many rs qs D0 D D2 fl) (K1 : Kept n rs qs D0 D1) {r : Road} (hr : r ∈ rs) (h1 : r.2.1 < n) (h2 : r.2.2 < n) {e : Nat} {xs : List Nat}
    (hx : ∀ k, k ∈ xs ↔ k ∈ (duosL qs r.1 (domAt D1 r.2.1) (domAt D1 r.2.2) (decide ((r.2.1 : Int) = (r.2.2 : Int)))).map (sel e)) (hlt : ∀ x ∈ xs, x < many) (hl : xs.length < (domAt D2 (endAt r e)).length) (h32 : xs.length ≤ 32) : Thin n many rs qs D0 D (D2.set (endAt r e) xs) true := by
  have hp : endAt r e < D2.length := by
    rw [T.doms.len]; unfold endAt
    by_cases c : e = 0
    · rw [if_pos c]; exact h1
    · rw [if_neg c]; exact h2
  have ht := total_set (xs := xs) hp
  have hle := T.le
  refine ⟨T.doms.set hlt h32, fun f hs hd p hpn => ?_, by omega, fun _ => by omega⟩
  rw [dom_set hp]
  by_cases c : p = endAt r e
  · rw [if_pos c, hx]
    refine List.mem_map.mpr ⟨_, duosL_sol hs (K1 f hs hd) hr h1 h2, ?_⟩
    rw [c]; unfold sel endAt
    by_cases c0 : e = 0
    · rw [if_pos c0, if_pos c0]
    · rw [if_neg c0, if_neg c0]
  · rw [if_neg c]; exact T.kept f hs hd p hpn
theorem supp_of {qs : List Road} {D : List (List Nat)} {r : Road} (hl : (domAt D r.2.1).length ≤ (sset ((duosL qs r.1 (domAt D r.2.1) (domAt D r.2.2) (decide ((r.2.1 : Int) = (r.2.2 : Int)))).map (sel 0))).length) : Supp qs D r := fun hne => by
  have h0 : 0 < (domAt D r.2.1).length := List.length_pos_iff.mpr hne
  obtain ⟨x, hx⟩ := List.exists_mem_of_length_pos (Nat.lt_of_lt_of_le h0 hl)
  have hx2 := of_decide_eq_true (List.mem_filter.mp hx).2
  obtain ⟨p, hp, _⟩ := List.mem_map.mp hx2
  obtain ⟨k1, k2, k3⟩ := duosL_sub hp
  exact ⟨p.1, k1, p.2, k2, k3⟩
def thinP (n many : Nat) (rs qs : List Road) (D : List (List Nat)) : Pm := ⟨fun v G => ∃ D', Doms n many D' ∧ total D' ≤ total D ∧ Kept n rs qs D D' ∧ (∀ r ∈ rs, Supp qs D' r) ∧ DV G v (.list (D'.map nums)), fun _ _ _ s ⟨D', h1, h2, h3, h4, h5⟩ => ⟨D', h1, h2, h3, h4, h5.mono s⟩⟩
def preThin : List V → Hp → Pm → Prop := fun vs G p => ∃ (n many : Nat) (rs qs : List Road) (D : List (List Nat)), n ≤ 32 ∧ many ≤ 32 ∧ Doms n many D ∧ (∀ r ∈ rs, KindOk r.1 ∧ r.2.1 < n ∧ r.2.2 < n) ∧ AllP [dat (.list (D.map nums)), dat (.list (rs.map rd)), knownP qs] vs G ∧ p = thinP n many rs qs D
theorem duo_tup {G : Hp} {v : V} {p : Nat × Nat} (h : DV G v (duoD p)) : ∃ a, v = .ref a ∧ G a = some (.tup [.int (p.1 : Int), .int (p.2 : Int)]) := by
  obtain ⟨a, xs, rfl, ha, dv⟩ := h.tup_inv
  cases dv with
  | cons h1 t1 =>
    cases t1 with
    | cons h2 t2 =>
      cases t2
      obtain rfl := h1.int_inv
      obtain rfl := h2.int_inv
      exact ⟨a, rfl, ha⟩
theorem duos1_snoc (qs : List Road) (k : Str) (A B : List Nat) (a : Nat) : duos1 qs k (A ++ [a]) B = duos1 qs k A B ++ (B.filter fun c => decide ((k, a, c) ∈ qs)).map fun c => (a, c) := by
  unfold duos1; rw [List.flatMap_append, List.flatMap_singleton]
section
variable {P : Program} {w : World} {K : PySem.W.Frag} {mg : Str → Option Value} {base : Heap}
theorem sc_lthinned : FnScope ["_law_now_left", "_law_roads_here", "_law_known", "_law_is_new", "_law_lot", "_law_kind", "_law_one", "_law_other", "_law_duos", "_law_near", "_law_far", "_law_duo", "_law_place", "_law_end", "_law_left"] ["_law_now_left", "_law_roads_here", "_law_known"] (defScope (top 52)) := ⟨rfl, rfl, rfl, by decide +kernel, rfl, by decide +kernel, by decide +kernel⟩
theorem has_lthinned (T : Tx K mg) : Has P w K mg base CX0 1 "_law_thinned" ["_law_now_left", "_law_roads_here", "_law_known"] (PureSp preThin) := by
  refine T.has 37 (fun fd F => F.ok sc_lthinned (fun vs H Q E h => ?_) fun cdv A outer s H vs Q E hr h => ?_) (fun fd F => F.bindsN fun _ _ _ _ _ _ us hl => match us, hl with | [_, _, _], _ => rfl)
  · obtain ⟨G, p, _, ⟨_, _, _, _, _, _, _, _, _, a, _⟩, _⟩ := h; exact a.len
  · obtain ⟨G, p, z, ⟨n, many, rs, qs, D0, hn, hm, hD0, hr1, a, rfl⟩, k⟩ := h
    obtain ⟨v0, v1, v2, rfl, d0', d1, d2⟩ := allp3 a
    refine ⟨_, PSs.nox (pss_cons (ps_par (i := 0) (j := 3) rfl sc_lthinned.nd rfl rfl (by decide) rfl rfl (pa_cons (pe_lc (own := [("_law_lot", 4)]) rfl sc_lthinned.nd (pi_listK (K := K) rfl (pv 0)) (blkOk_by (by rfl)) (fun _ _ _ _ _ => pg_name (i := 4) sc_lthinned.nd rfl (by first | exact Or.inl rfl | exact Or.inr rfl)) (fun _ _ _ _ _ => pts_nil) (fun _ _ _ _ _ => pe_callTy (call_list_ofK (K := K) rfl) (by rfl) (T.free "list") (by decide +kernel) (pa_cons (pv 4) (pa_nil)))) (pa_cons (pe_bl) (pa_nil))) (by rfl))
      (pss_cons (ps_while PassesOwn.never (pt_val (pv 3)) (pss_cons (ps_set (i := 3) sc_lthinned.nd rfl (by first | exact Or.inl rfl | exact Or.inr rfl) (pe_bl))
        (pss_one (ps_for PassesOwn.never rfl (pi_listK (K := K) rfl (pv 1)) (pg_tupK (K := K) (n := 3) rfl rfl (pgs_cons (pg_name (i := 5) sc_lthinned.nd rfl (by first | exact Or.inl rfl | exact Or.inr rfl)) (pgs_cons (pg_name (i := 6) sc_lthinned.nd rfl (by first | exact Or.inl rfl | exact Or.inr rfl)) (pgs_cons (pg_name (i := 7) sc_lthinned.nd rfl (by first | exact Or.inl rfl | exact Or.inr rfl)) (pgs_nil))))) (pss_cons (ps_set (i := 8) sc_lthinned.nd rfl (by first | exact Or.inl rfl | exact Or.inr rfl) (pe_lst (pa_nil)))
          (pss_cons (ps_for PassesOwn.never rfl (pi_listK (K := K) rfl (pe_ix (ix_seqK (K := K) rfl) (pv 0) (pv 6) (fun _ _ => rfl))) (pg_name (i := 9) sc_lthinned.nd rfl (by first | exact Or.inl rfl | exact Or.inr rfl)) (pss_one (ps_set (i := 8) sc_lthinned.nd rfl (by first | exact Or.inl rfl | exact Or.inr rfl) (pe_op op_addU (pv 8) (pe_lc (own := [("_law_far", 10)]) rfl sc_lthinned.nd (pi_listK (K := K) rfl (pe_ix (ix_seqK (K := K) rfl) (pv 0) (pv 7) (fun _ _ => rfl))) (blkOk_by (by rfl)) (fun _ _ _ _ _ => pg_name (i := 10) sc_lthinned.nd rfl (by first | exact Or.inl rfl | exact Or.inr rfl)) (fun _ _ _ _ _ => pts_one (pt_cmp (pc_din (hu_of hr) (pe_tup (pa_cons (pv 5) (pa_cons (pv 9) (pa_cons (pv 10) (pa_nil))))) (pv 2)) rfl)) (fun _ _ _ _ _ => pe_tup (pa_cons (pv 9) (pa_cons (pv 10) (pa_nil)))))))))
          (pss_cons (ps_if (pt_cmpR (op_eqDK (K := K) rfl (un70 hr)) (pv 6) (pv 7) (nomark _)) (pss_one (ps_setLc (i := 8) (own := [("_law_duo", 11)]) rfl sc_lthinned.nd rfl rfl (sw_true rfl rfl rfl (by rfl)) (pi_listK (K := K) rfl (pv 8)) (blkOk_by (by rfl)) (fun _ _ _ _ _ => pg_name (i := 11) sc_lthinned.nd rfl (by first | exact Or.inl rfl | exact Or.inr rfl)) (fun _ _ _ _ _ => pts_one (pt_cmpR (op_eqDK (K := K) rfl (un70 hr)) (pe_ix (ix_seqK (K := K) rfl) (pv 11) (pe_int) (fun _ _ => rfl)) (pe_ix (ix_seqK (K := K) rfl) (pv 11) (pe_int) (fun _ _ => rfl)) (nomark _))) (fun _ _ _ _ _ => pv 11))) (pss_nil))
          (pss_one (ps_for PassesOwn.never rfl (pi_tupK (K := K) rfl (pe_tup (pa_cons (pe_tup (pa_cons (pv 6) (pa_cons (pe_int) (pa_nil)))) (pa_cons (pe_tup (pa_cons (pv 7) (pa_cons (pe_int) (pa_nil)))) (pa_nil))))) (pg_tupK (K := K) (n := 2) rfl rfl (pgs_cons (pg_name (i := 12) sc_lthinned.nd rfl (by first | exact Or.inl rfl | exact Or.inr rfl)) (pgs_cons (pg_name (i := 13) sc_lthinned.nd rfl (by first | exact Or.inl rfl | exact Or.inr rfl)) (pgs_nil)))) (pss_cons (ps_set (i := 14) sc_lthinned.nd rfl (by first | exact Or.inl rfl | exact Or.inr rfl) (pe_sortSet rfl rfl (T.free "sorted") rfl (T.free "set") (pe_lc (own := [("_law_duo", 11)]) rfl sc_lthinned.nd (pi_listK (K := K) rfl (pv 8)) (blkOk_by (by rfl)) (fun _ _ _ _ _ => pg_name (i := 11) sc_lthinned.nd rfl (by first | exact Or.inl rfl | exact Or.inr rfl)) (fun _ _ _ _ _ => pts_nil) (fun _ _ _ _ _ => pe_ix (ix_seqK (K := K) rfl) (pv 11) (pv 13) (fun _ _ => rfl)))))
            (pss_one (ps_if (pt_cmpR op_lt (pe_callB (call_lenK (K := K) rfl) (by rfl) (T.free "len") (by decide +kernel) (pa_cons (pv 14) (pa_nil))) (pe_callB (call_lenK (K := K) rfl) (by rfl) (T.free "len") (by decide +kernel) (pa_cons (pe_ix (ix_seqK (K := K) rfl) (pv 0) (pv 12) (fun _ _ => rfl)) (pa_nil))) (nomark _)) (pss_one (ps_asg (pe_tup (pa_cons (pv 14) (pa_cons (pe_bl) (pa_nil)))) (pg_tupK (K := K) (n := 2) rfl rfl (pgs_cons (pg_sub (pv 0) (pv 12) set_list) (pgs_cons (pg_name (i := 3) sc_lthinned.nd rfl (by first | exact Or.inl rfl | exact Or.inr rfl)) (pgs_nil)))))) (pss_nil)))))))))))))
      (pss_one (ps_ret (pv 0))))), ?_⟩
    refine par_lcA nums (xs := D0) (p := fun _ => true) (q := nums) ((is_d rfl d0').at z) (by rw [hD0.len]; omega) (fun x a G2 ha s2 hx => ⟨_, gt_name, rfl, fun G4 H4 _ s4 Q q => q G4 H4 (.refl s4), fun _ => is_cb (isa_cons (is_d rfl hx) isa_nil) rc_listL⟩) (fun _ _ h => h) fun l G0 H0 O0 => ?_
    rw [List.filter_eq_self.mpr fun _ _ => rfl] at O0
    refine ⟨fun m σ' H' => ∃ fl : Bool, ∃ x5 x6 x7 x8 x9 x12 x13 x14 D G', σ' = [some (.ref l), some v1, some v2, some (.bl fl), none, x5, x6, x7, x8, x9, none, none, x12, x13, x14] ∧ Own G H G' H' l (D.map nums) ∧ Same G0 G' ∧ Doms n many D ∧ Kept n rs qs D0 D ∧ total D ≤ total D0 ∧ (fl = false → ∀ r ∈ rs, Supp qs D r) ∧ m = 2 * total D + (if fl = true then 1 else 0), ⟨_, true, _, _, _, _, _, _, _, _, D0, G0, rfl, O0, Same.refl _, hD0, fun f _ h => h, Nat.le_refl _, (by intro h; cases h), rfl⟩, ?_⟩
    rintro m σ' H' ⟨fl, x5, x6, x7, x8, x9, x12, x13, x14, D, G', rfl, O, s0, hD, hK, hT, hS, rfl⟩
    refine IsT.use (b := fl) (ist_B (is_d (i := 3) rfl (.bl fl))) O.g.gh fun G1 H1 g1 => ?_
    cases fl with
    | false =>
      rw [if_neg Bool.false_ne_true]
      obtain ⟨G2, g2, dv, _⟩ := (O.grow g1).fin
      exact ⟨_, rfl, k _ G2 H1 g2 ⟨D, hD, hT, hK, hS rfl, dv⟩⟩
    | true =>
      rw [if_pos rfl]
      refine ⟨fun σ' H' => ∃ fl : Bool, ∃ x5 x6 x7 x8 x9 x12 x13 x14 D2 G', σ' = [some (.ref l), some v1, some v2, some (.bl fl), none, x5, x6, x7, x8, x9, none, none, x12, x13, x14] ∧ Own G H G' H' l (D2.map nums) ∧ Same G0 G' ∧ Thin n many rs qs D0 D D2 fl ∧ (fl = false → ∀ r ∈ rs, Supp qs D2 r), ?_, ?_⟩
      · rintro σ' H' ⟨fl, x5, x6, x7, x8, x9, x12, x13, x14, D2, G', rfl, O, s0, T2, hS⟩
        refine ⟨2 * total D2 + (if fl = true then 1 else 0), ?_, fl, x5, x6, x7, x8, x9, x12, x13, x14, D2, G', rfl, O, s0, T2.doms, T2.kept, Nat.le_trans T2.le hT, hS, rfl⟩
        have h1 := T2.le
        have h2 := T2.lt
        cases fl with
        | true =>
          have := h2 rfl
          show 2 * total D2 + 1 < 2 * total D + 1
          omega
        | false =>
          show 2 * total D2 + 0 < 2 * total D + 1
          omega
      refine set_is (is_bl false) (O.grow g1).g.gh fun vf G2 H2 g2 pf => ?_
      obtain rfl := (show DV G2 vf (.bool false) from pf).bl_inv
      have O2 := (O.grow g1).grow g2
      have sA := s0.trans (g1.trans g2).gg
      refine for_dat (ds := rs.map rd) (G := G2) (is_d rfl (d1.mono (O0.g.gg.trans sA))) O2.g.gh (fun j σ' G' H' => (∃ fl : Bool, ∃ x5 x6 x7 x8 x9 x12 x13 x14 D2, σ' = [some (.ref l), some v1, some v2, some (.bl fl), none, x5, x6, x7, x8, x9, none, none, x12, x13, x14] ∧ Own G H G' H' l (D2.map nums) ∧ Thin n many rs qs D0 D D2 fl ∧ (fl = false → ∀ r ∈ rs.take j, Supp qs D2 r)) ∧ Same G2 G')
        (fun G3 H3 g3 => ⟨⟨false, _, _, _, _, _, _, _, _, D, rfl, O2.grow g3, ⟨hD, hK, Nat.le_refl _, fun h => nomatch h⟩, fun _ r h => absurd h List.not_mem_nil⟩, g3.gg⟩) ?_ ?_
      · rintro j x d σ' G3 H3 hj hx zs zg ⟨⟨fl, x5, x6, x7, x8, x9, x12, x13, x14, D1, rfl, O3, T1, hS1⟩, s3⟩
        rw [List.getElem?_map, Option.map_eq_some_iff] at hj
        obtain ⟨r, hrj, rfl⟩ := hj
        have hrm := List.mem_of_getElem? hrj
        obtain ⟨hk, l1, l2⟩ := hr1 r hrm
        obtain ⟨tp, rfl, htp⟩ := road_tup hx
        refine ⟨_, gt_tup3 htp, fun N hN => ?_⟩
        refine set_is (is_lst (ds := []) isa_nil (Nat.zero_le _)) O3.g.gh fun u8 G4 H4 g4 p8 => ?_
        have O4 := O3.grow g4
        have f1 := T1.doms.few _ (T1.doms.mem l1)
        have f2 := T1.doms.few _ (T1.doms.mem l2)
        have d2' := (knownP qs).mono _ _ _ (O0.g.gg.trans (sA.trans s3)) d2
        have hdl : ∀ A : List Nat, A.length ≤ 32 → (duos1 qs r.1 A (domAt D1 r.2.2)).length ≤ 1024 := fun A hA => Nat.le_trans (duos1_len _ _ _ _) (Nat.le_trans (Nat.mul_le_mul hA f2) (by decide))
        refine for_datR (ds := (domAt D1 r.2.1).map fun n : Nat => PyData.int (n : Int)) (own_get O4 (i := r.2.1) rfl (is_d rfl (.int _)) (T1.doms.get l1)) (fun i σ' G' H' => (∃ u8 y9, σ' = [some (.ref l), some v1, some v2, some (.bl fl), none, some (.str r.1), some (.int (r.2.1 : Int)), some (.int (r.2.2 : Int)), some u8, y9, none, none, x12, x13, x14] ∧ DV G' u8 (.list ((duos1 qs r.1 ((domAt D1 r.2.1).take i) (domAt D1 r.2.2)).map duoD)) ∧ Own G H G' H' l (D1.map nums)) ∧ Same G4 G')
          (fun G5 H5 g5 => ⟨⟨u8, _, rfl, p8.mono g5.gg, O4.grow g5⟩, g5.gg⟩) ?_ ?_
        · rintro i y d σ' G5 H5 hi hy zs5 zg5 ⟨⟨u9, y9, rfl, p9, O5⟩, s5⟩
          rw [List.getElem?_map, Option.map_eq_some_iff] at hi
          obtain ⟨na, hna, rfl⟩ := hi
          obtain rfl := hy.int_inv
          refine ⟨_, gt_name, fun N2 hN2 => ?_⟩
          have d2'' := (knownP qs).mono _ _ _ (g4.gg.trans s5) d2'
          have hs1 := duos1_snoc qs r.1 ((domAt D1 r.2.1).take i) (domAt D1 r.2.2) na
          have htk : (domAt D1 r.2.1).take (i + 1) = (domAt D1 r.2.1).take i ++ [na] := by rw [List.take_succ, hna]; rfl
          rw [← htk] at hs1
          refine set_at (p := dat (.list ((duos1 qs r.1 ((domAt D1 r.2.1).take (i + 1)) (domAt D1 r.2.2)).map duoD))) (op_at (p := dat (.list ((duos1 qs r.1 ((domAt D1 r.2.1).take i) (domAt D1 r.2.2)).map duoD))) (q := dat (.list (((domAt D1 r.2.2).filter fun c => decide ((r.1, na, c) ∈ qs)).map fun c => duoD (na, c)))) (is_d rfl p9) O5.g.gh (fun G6 H6 g6 => lcA_at (fun n : Nat => PyData.int (n : Int)) (xs := domAt D1 r.2.2) (p := fun c => decide ((r.1, na, c) ∈ qs)) (q := fun c => duoD (na, c)) (own_get (O5.grow g6) (i := r.2.2) rfl (is_d rfl (.int _)) (T1.doms.get l2)) (by omega) fun w c G7 hc s7 hw => ⟨_, gt_name, rfl, ?_, fun _ => is_tup (ds := [.int (na : Int), .int (c : Int)]) (isa_cons (is_d rfl (.int _)) (isa_cons (is_d rfl hw) isa_nil)) (by simp)⟩) fun G6 => ?_) fun v8 G6 H6 g6 p6 => hN2 _ G6 H6 g6.gg g6.gh ⟨⟨v8, _, rfl, p6, O5.grow g6⟩, s5.trans g6.gg⟩
          · exact ist_test (is_din (r := (r.1, na, c)) (is_tup (ds := [.str r.1, .int (na : Int), .int (c : Int)]) (isa_cons (is_d rfl (.str _)) (isa_cons (is_d rfl (.int _)) (isa_cons (is_d rfl hw) isa_nil))) (by simp)) (is_var rfl ((knownP qs).mono _ _ _ (g6.gg.trans s7) d2'')))
          · rw [hs1, List.map_append, List.map_map]
            refine ri_addL ?_
            have := hdl ((domAt D1 r.2.1).take i) (by rw [List.length_take]; omega)
            have := List.length_filter_le (fun c => decide ((r.1, na, c) ∈ qs)) (domAt D1 r.2.2)
            rw [List.length_map, List.length_map]
            omega
        · rintro σ' G5 H5 zs5 zg5 ⟨⟨u9, y9, rfl, p9, O5⟩, s5⟩
          rw [List.length_map, List.take_length] at p9
          have hd1 := hdl _ f1
          obtain ⟨sm, esm⟩ : ∃ sm, sm = decide ((r.2.1 : Int) = (r.2.2 : Int)) := ⟨_, rfl⟩
          obtain ⟨dl, edl⟩ : ∃ dl, dl = duosL qs r.1 (domAt D1 r.2.1) (domAt D1 r.2.2) sm := ⟨_, rfl⟩
          have hdl2 : dl.length ≤ 1024 := by rw [edl]; exact Nat.le_trans (duosL_len _ _ _ _ _) (Nat.le_trans (Nat.mul_le_mul f1 f2) (by decide))
          refine if_join (b := sm) (i := 8) (u0 := u9) (fun u G => DV G u (.list (dl.map duoD))) (IsT.eqb (ist_test (is_op (is_d rfl (.int _)) (is_d rfl (.int _)) (ri_eqD (Sd.sh (n := 1) (sd_int _)) (Sd.sh (n := 1) (sd_int _))))) ((eqv_int _ _).trans esm.symm)) zs5 rfl (fun hb G6 H6 g6 E hE => ?_) (fun hb G6 s6 => ?_) fun u8 G6 H6 g6 p8 => ?_
          · refine set_is (p := dat (.list (dl.map duoD))) (Is.eqd (is_lcA duoD (xs := duos1 qs r.1 (domAt D1 r.2.1) (domAt D1 r.2.2)) (p := fun p => decide (p.1 = p.2)) (q := duoD) (is_d rfl (p9.mono g6.gg)) (by omega) fun w p G7 hp s7 hw => ⟨_, gt_name, rfl, IsT.eqb (ist_test (is_op (is_op (is_d rfl hw) (is_int 0) (ri_ixT (j := 0) rfl rfl)) (is_op (is_d rfl hw) (is_int 1) (ri_ixT (j := 1) rfl rfl)) (ri_eqD (Sd.sh (n := 1) (sd_int _)) (Sd.sh (n := 1) (sd_int _))))) ((eqv_int _ _).trans (decide_eq_decide.mpr ⟨fun h => by omega, fun h => by omega⟩)), fun _ => is_d rfl hw⟩) ?_) g6.gh fun u G7 H7 g7 p7 => hE u G7 H7 g7 p7
            rw [edl, hb]; unfold duosL; rw [if_pos rfl]
          · have e : dl = duos1 qs r.1 (domAt D1 r.2.1) (domAt D1 r.2.2) := by rw [edl, hb]; unfold duosL; rw [if_neg Bool.false_ne_true]
            rw [e]; exact p9.mono s6
          · have O6 := O5.grow g6
            refine for_tdat (ds := [.tuple [.int (r.2.1 : Int), .int 0], .tuple [.int (r.2.2 : Int), .int 1]]) (G := G6) (is_tup (ds := [.tuple [.int (r.2.1 : Int), .int 0], .tuple [.int (r.2.2 : Int), .int 1]]) (isa_cons (is_tup (ds := [.int (r.2.1 : Int), .int 0]) (isa_cons (is_d rfl (.int _)) (isa_cons (is_int 0) isa_nil)) (by simp)) (isa_cons (is_tup (ds := [.int (r.2.2 : Int), .int 1]) (isa_cons (is_d rfl (.int _)) (isa_cons (is_int 1) isa_nil)) (by simp)) isa_nil)) (by simp)) g6.gh
              (fun t σ' G' H' => (∃ fl2 : Bool, ∃ x12 x13 x14 D2, σ' = [some (.ref l), some v1, some v2, some (.bl fl2), none, some (.str r.1), some (.int (r.2.1 : Int)), some (.int (r.2.2 : Int)), some u8, y9, none, none, x12, x13, x14] ∧ Own G H G' H' l (D2.map nums) ∧ Thin n many rs qs D0 D D2 fl2 ∧ (fl2 = false → fl = false ∧ D2 = D1 ∧ (1 ≤ t → (domAt D1 r.2.1).length ≤ (sset (dl.map (sel 0))).length))) ∧ Same G6 G')
              (fun G7 H7 g7 => ⟨⟨fl, _, _, _, D1, rfl, O6.grow g7, T1, fun h => ⟨h, rfl, fun h => absurd h (by omega)⟩⟩, g7.gg⟩) ?_ ?_
            · rintro t y d σ' G7 H7 ht hy zs7 zg7 ⟨⟨fl2, x12, x13, x14, D2, rfl, O7, T2, hF⟩, s7⟩
              obtain ⟨te, hte⟩ : ∃ te : t < 2, d = .tuple [.int ((endAt r t : Nat) : Int), .int (t : Int)] := by
                match t, ht with
                | 0, ht => exact ⟨by decide, (Option.some.inj ht).symm⟩
                | 1, ht => exact ⟨by decide, (Option.some.inj ht).symm⟩
              subst hte
              obtain ⟨tq, rfl, htq⟩ := duo_tup (p := (endAt r t, t)) hy
              have le2 : endAt r t < n := by
                unfold endAt
                by_cases c : t = 0
                · rw [if_pos c]; exact l1
                · rw [if_neg c]; exact l2
              have f3 := T2.doms.few _ (T2.doms.mem le2)
              have hmany : ∀ p ∈ dl, p.1 < many ∧ p.2 < many := fun p hp => by
                rw [edl] at hp
                obtain ⟨k1, k2, _⟩ := duosL_sub hp
                exact ⟨T1.doms.lt _ (T1.doms.mem l1) _ k1, T1.doms.lt _ (T1.doms.mem l2) _ k2⟩
              have hsel : ∀ x ∈ dl.map (sel t), x < many := fun x hx => by
                obtain ⟨p, hp, rfl⟩ := List.mem_map.mp hx
                obtain ⟨k1, k2⟩ := hmany p hp
                unfold sel
                by_cases c : t = 0
                · rw [if_pos c]; exact k1
                · rw [if_neg c]; exact k2
              have hms : ∀ x, x ∈ sset (dl.map (sel t)) ↔ x ∈ dl.map (sel t) := fun x => mem_sset fun y hy => by have := hsel y hy; omega
              refine ⟨_, gt_tup2 htq, fun N2 hN2 => ?_⟩
              refine set_is (p := dat (nums (sset (dl.map (sel t))))) (is_sortSet (Is.eqd (is_lcA duoD (xs := dl) (p := fun _ => true) (q := fun p => PyData.int ((sel t p : Nat) : Int)) (is_d rfl (p8.mono s7)) (by omega) fun w p G8 hp s8 hw => ⟨_, gt_name, rfl, fun G4 H4 _ s4 Q q => q G4 H4 (.refl s4), fun _ => is_op (is_d rfl hw) (is_d rfl (.int _)) (ri_ixT (j := t) rfl ?_)⟩) ?_) (by rw [List.length_map]; omega) fun x hx => by have := hsel x hx; omega) O7.g.gh fun u14 G8 H8 g8 p14 => ?_
              · match t, te with
                | 0, _ => rfl
                | 1, _ => rfl
              · rw [List.filter_eq_self.mpr fun _ _ => rfl]
                show PyData.list _ = .list ((dl.map (sel t)).map _)
                rw [List.map_map]; rfl
              have O8 := O7.grow g8
              have hs63 := sset_len (dl.map (sel t))
              dsimp only
              refine if_at (b := decide (((sset (dl.map (sel t))).length : Int) < ((domAt D2 (endAt r t)).length : Int))) (own_test O8 fun G9 s9 dvl => ?_) (fun hb G9 H9 g9 => ?_) fun hb G9 H9 g9 => ?_
              · exact ist_test (is_op (is_cb (isa_cons (is_d rfl (p14.mono s9)) isa_nil) (by have := rc_lenL (K := K) (G := G9) (ds := (sset (dl.map (sel t))).map fun n : Nat => PyData.int (n : Int)); rw [List.length_map] at this; exact this)) (is_cb (isa_cons (is_op (is_d rfl dvl) (is_d rfl (.int _)) (ri_ixL (j := endAt r t) rfl (T2.doms.get le2))) isa_nil) (by have := rc_lenL (K := K) (G := G9) (ds := (domAt D2 (endAt r t)).map fun n : Nat => PyData.int (n : Int)); rw [List.length_map] at this; exact this)) (ri_B (g := fun i j => decide (i < j))))
              · have hlt : (sset (dl.map (sel t))).length < (domAt D2 (endAt r t)).length := by have := of_decide_eq_true hb; omega
                refine set1n_own (d := nums (sset (dl.map (sel t)))) (w := .bl true) (a := endAt r t) (O8.grow g9) rfl rfl rfl (p14.mono g9.gg) (by rw [List.length_map, T2.doms.len]; exact le2) (fun _ _ h => h) fun G10 H10 s10 O10 => hN2 _ G10 H10 (g8.gg.trans (g9.gg.trans s10)) O10.g.gh ⟨⟨true, _, _, _, D2.set (endAt r t) (sset (dl.map (sel t))), rfl, ?_, ?_, fun h => nomatch h⟩, s7.trans (g8.gg.trans (g9.gg.trans s10))⟩
                · rw [List.map_set]; exact O10
                · exact T2.put (D1 := D1) T1.kept hrm l1 l2 (e := t) (fun x => by rw [hms, edl, esm]) (fun x hx => hsel x ((hms x).mp hx)) hlt (by omega)
              · refine hN2 _ G9 H9 (g8.gg.trans g9.gg) g9.gh ⟨⟨fl2, _, _, _, D2, rfl, O8.grow g9, T2, fun h => ?_⟩, s7.trans (g8.gg.trans g9.gg)⟩
                obtain ⟨h1, h2, h3⟩ := hF h
                refine ⟨h1, h2, fun _ => ?_⟩
                have hle : (domAt D2 (endAt r t)).length ≤ (sset (dl.map (sel t))).length := by have := of_decide_eq_false hb; omega
                match t, te with
                | 0, _ => rw [h2] at hle; exact hle
                | 1, _ => exact h3 (Nat.le_refl _)
            · rintro σ' G7 H7 zs7 zg7 ⟨⟨fl2, x12, x13, x14, D2, rfl, O7, T2, hF⟩, s7⟩
              refine hN _ G7 H7 (g4.gg.trans (s5.trans (g6.gg.trans s7))) zs7 ⟨⟨fl2, _, _, _, _, _, _, _, _, D2, rfl, O7, T2, fun h q hq => ?_⟩, s3.trans (g4.gg.trans (s5.trans (g6.gg.trans s7)))⟩
              obtain ⟨h1, h2, h3⟩ := hF h
              subst h2
              rw [List.take_succ, hrj] at hq
              rcases List.mem_append.mp hq with hq | hq
              · exact hS1 h1 q hq
              · obtain rfl : q = r := by simpa using hq
                refine supp_of ?_
                rw [← esm, ← edl]
                exact h3 (by simp)
      · rintro σ' G3 H3 zs zg ⟨⟨fl, x5, x6, x7, x8, x9, x12, x13, x14, D2, rfl, O3, T2, hS2⟩, s3⟩
        rw [List.length_map, List.take_length] at hS2
        exact ⟨fl, _, _, _, _, _, _, _, _, D2, G3, rfl, O3, sA.trans s3, T2, hS2⟩

end
end Yd
set_option Elab.async false
set_option linter.all false
set_option maxRecDepth 100000
set_option maxHeartbeats 4000000
namespace Yd
open PySem PySem.Spec L2

open PySem.W (AllAlike Sortable)
section
variable {K : PySem.W.Frag} {σ : L2.St} {G H G' H' : Hp} {te : TE} {ta : TA} {d : PyData} {ds : List PyData} {l : Addr} {i j : Nat} {D : Ends} {E : XK}
theorem Own.one {v : V} (g : Gr0 G H G' H') (h : H' l = none) (dv : DV G' v d) : Own G H G' (upd H' l (.lst [v])) l [d] := ⟨g.wr (.inl (g.th _ h)) (g.gh.free h), g.th _ h, g.gh.free h, [v], upd_same, .one dv⟩
theorem dvs_last {G : Hp} : ∀ {ds : List PyData} {vs : List V}, DVs G vs (ds ++ [d]) → ∃ y, vs[vs.length - 1]? = some y ∧ DV G y d ∧ DVs G vs.dropLast ds := fun {ds vs} h => by
  have hl := h.length
  rw [List.length_append] at hl
  simp only [List.length_cons, List.length_nil] at hl
  obtain ⟨y, hy, dy⟩ := h.get (i := ds.length) (d := d) (by rw [List.getElem?_append_right (Nat.le_refl _)]; simp)
  refine ⟨y, by rw [hl]; exact hy, dy, ?_⟩
  have := h.take ds.length
  rw [List.take_left] at this
  rw [List.dropLast_eq_take, hl]
  exact this
theorem Own.pop (O : Own G H G' H' l (ds ++ [d])) : ∃ vs y, H' l = some (.lst vs) ∧ vs[vs.length - 1]? = some y ∧ DV G' y d ∧ Own G H G' (upd H' l (.lst vs.dropLast)) l ds := by
  obtain ⟨vs, h1, h2⟩ := O.ex
  obtain ⟨y, hy, dy, dr⟩ := dvs_last h2
  exact ⟨vs, y, h1, hy, dy, O.g.wr (.inl O.h0) O.gn, O.h0, O.gn, _, upd_same, dr⟩
/-- v = f(x.pop(), ...) -/
theorem set_pop_call {pre : List V → Hp → Pm → Prop} {ps : List Pm} {s : Pm} (O : Own G H G' H' l (ds ++ [d])) (hσ : σ[j]? = some (some (.ref l))) (h : IsA ta σ G' ps) (hp : ∀ vs G1, Same G' G1 → AllP (dat d :: ps) vs G1 → pre vs G1 s)
    (k : ∀ v G2 H2, Own G H G2 H2 l ds → Same G' G2 → s.P v G2 → D.nx (σ.set i (some v)) H2) : tAsg (tCall (PureSp pre) [] E (tCons (tBM0 K "list" rPop (tVar j)) ta)) (gName i) D σ H' := by
  obtain ⟨vs, y, h1, hy, dy, O'⟩ := O.pop
  refine ⟨_, hσ, .inl ⟨rfl, _, SqL.of h1⟩, l, vs, y, rfl, rfl, h1, hy, ?_⟩
  refine h G' _ (Same.refl _) O'.g.gh _ fun us G2 H2 g2 pu => ?_
  show PureSp pre ((y :: us) ++ []) H2 _ E
  rw [List.append_nil]
  exact ⟨G2, s, g2.gh, hp (y :: us) G2 g2.gg ⟨y, us, rfl, dy.mono g2.gg, pu⟩, fun v G3 H3 g3 p3 => k v G3 H3 ((O'.grow g2).grow g3) (g2.trans g3).gg p3⟩
end
/-! ### the search, plain -/
def domD (D : List (List Nat)) : PyData := .list (D.map nums)
def meas (stk : List (List (List Nat))) : Nat := (stk.map fun D => 3 ^ total D).sum
theorem three_pow : ∀ d, d + 2 < 3 ^ (d + 1)
  | 0 => by decide
  | d + 1 => by have := three_pow d; rw [Nat.pow_succ]; omega
theorem meas_app (a b : List (List (List Nat))) : meas (a ++ b) = meas a + meas b := by unfold meas; rw [List.map_append, List.sum_append]
theorem meas_same {t : Nat} : ∀ {l : List (List (List Nat))}, (∀ D ∈ l, total D = t) → meas l = l.length * 3 ^ t
  | [], _ => by simp [meas]
  | D :: l, h => by
    have ih := meas_same (l := l) fun D hD => h D (List.mem_cons_of_mem _ hD)
    show 3 ^ total D + meas l = _
    rw [ih, h D List.mem_cons_self, List.length_cons, Nat.succ_mul]; omega
theorem dom_le_total {D : List (List Nat)} {p : Nat} (hp : p < D.length) : (domAt D p).length ≤ total D := by
  have := total_set (xs := []) hp
  simp at this
  omega
theorem split_meas {D : List (List Nat)} {p : Nat} (hp : p < D.length) (h2 : 1 < (domAt D p).length) (xs : List Nat) (hx : xs.length = (domAt D p).length) : meas (xs.map fun x => D.set p [x]) < 3 ^ total D := by
  have ht : ∀ x : Nat, total (D.set p [x]) + (domAt D p).length = total D + 1 := fun x => total_set (xs := [x]) hp
  have hle := dom_le_total hp
  obtain ⟨d, hd⟩ : ∃ d, (domAt D p).length = d + 2 := ⟨(domAt D p).length - 2, by omega⟩
  rw [meas_same (t := total D - (d + 1)) fun E hE => by
    obtain ⟨x, _, rfl⟩ := List.mem_map.mp hE
    have := ht x
    omega]
  rw [List.length_map, hx, hd]
  have e : total D = (d + 1) + (total D - (d + 1)) := by omega
  conv => rhs; rw [e, Nat.pow_add]
  exact Nat.mul_lt_mul_of_pos_right (three_pow d) (Nat.pos_of_ne_zero (by simp))
structure Stack (n many : Nat) (rs qs : List Road) (stk : List (List (List Nat))) : Prop where
  doms : ∀ D ∈ stk, Doms n many D
  few : ∀ i D, stk[i]? = some D → i + total D ≤ 32 * n
  cover : ∀ f, Sol rs qs f → (∀ p, p < n → f p < many) → ∃ D ∈ stk, InD n D f
theorem Stack.drop {n many : Nat} {rs qs : List Road} {stk : List (List (List Nat))} {D D' : List (List Nat)} (S : Stack n many rs qs (stk ++ [D])) (K1 : Kept n rs qs D D') (hn : ∀ f, InD n D' f → False) : Stack n many rs qs stk where
  doms := fun E h => S.doms E (List.mem_append_left _ h)
  few := fun i E h => S.few i E (by rw [List.getElem?_append_left (List.getElem?_eq_some_iff.mp h).1]; exact h)
  cover := fun f h1 h2 => by
    obtain ⟨E, hE, hi⟩ := S.cover f h1 h2
    rcases List.mem_append.mp hE with hE | hE
    · exact ⟨E, hE, hi⟩
    · rw [List.mem_singleton.mp hE] at hi
      exact (hn f (K1 f h1 hi)).elim
theorem Stack.split {n many : Nat} {rs qs : List Road} {stk : List (List (List Nat))} {D D' : List (List Nat)} (S : Stack n many rs qs (stk ++ [D])) (K1 : Kept n rs qs D D') (hD : Doms n many D') (hle : total D' ≤ total D) {p : Nat} (hp : p < n) (h2 : 1 < (domAt D' p).length) : Stack n many rs qs (stk ++ (domAt D' p).reverse.map fun x => D'.set p [x]) where
  doms := fun E h => by
    rcases List.mem_append.mp h with h | h
    · exact S.doms E (List.mem_append_left _ h)
    · obtain ⟨x, hx, rfl⟩ := List.mem_map.mp h
      exact hD.set (fun y hy => by rw [List.mem_singleton.mp hy]; exact hD.lt _ (hD.mem hp) x (List.mem_reverse.mp hx)) (by simp)
  few := fun i E h => by
    by_cases c : i < stk.length
    · rw [List.getElem?_append_left c] at h
      exact S.few i E (by rw [List.getElem?_append_left c]; exact h)
    · rw [List.getElem?_append_right (by omega), List.getElem?_map, Option.map_eq_some_iff] at h
      obtain ⟨x, hx, rfl⟩ := h
      have hl := (List.getElem?_eq_some_iff.mp hx).1
      rw [List.length_reverse] at hl
      have h3 := S.few stk.length D (by rw [List.getElem?_append_right (Nat.le_refl _)]; simp)
      have h4 := total_set (D := D') (p := p) (xs := [x]) (by rw [hD.len]; exact hp)
      simp only [List.length_cons, List.length_nil] at h4
      omega
  cover := fun f h1 h3 => by
    obtain ⟨E, hE, hi⟩ := S.cover f h1 h3
    rcases List.mem_append.mp hE with hE | hE
    · exact ⟨E, List.mem_append_left _ hE, hi⟩
    · rw [List.mem_singleton.mp hE] at hi
      have hd := K1 f h1 hi
      refine ⟨_, List.mem_append_right _ (List.mem_map.mpr ⟨f p, List.mem_reverse.mpr (hd p hp), rfl⟩), fun q hq => ?_⟩
      rw [dom_set (by rw [hD.len]; exact hp)]
      by_cases c : q = p
      · rw [if_pos c, c]; exact List.mem_singleton.mpr rfl
      · rw [if_neg c]; exact hd q hq
theorem full_doms (n many : Nat) (hm : many ≤ 32) : Doms n many (List.replicate n (List.range many)) where
  len := List.length_replicate
  lt := fun xs h x hx => by rw [(List.mem_replicate.mp h).2] at hx; exact List.mem_range.mp hx
  few := fun xs h => by rw [(List.mem_replicate.mp h).2, List.length_range]; exact hm
theorem full_at {n many p : Nat} (hp : p < n) : domAt (List.replicate n (List.range many)) p = List.range many := by
  unfold domAt
  rw [List.getD_eq_getElem?_getD, List.getElem?_replicate, if_pos hp]; rfl
theorem full_total (n many : Nat) (hm : many ≤ 32) : total (List.replicate n (List.range many)) ≤ 32 * n := by
  unfold total
  rw [List.map_replicate, List.sum_replicate_nat, List.length_range, Nat.mul_comm]
  exact Nat.mul_le_mul_right _ hm
theorem full_stack (n many : Nat) (rs qs : List Road) (hm : many ≤ 32) : Stack n many rs qs [List.replicate n (List.range many)] where
  doms := fun D h => by rw [List.mem_singleton.mp h]; exact full_doms n many hm
  few := fun i D h => by
    match i, h with
    | 0, h => cases h; have := full_total n many hm; omega
  cover := fun f _ h => ⟨_, List.mem_singleton.mpr rfl, fun p hp => by rw [full_at hp]; exact List.mem_range.mpr (h p hp)⟩
def headN (D : List (List Nat)) (p : Nat) : Nat := (domAt D p).headD 0
theorem one_head {xs : List Nat} (h1 : xs ≠ []) (h2 : ¬ 1 < xs.length) : xs = [xs.headD 0] := by
  match xs, h1, h2 with
  | [x], _, _ => rfl
  | _ :: _ :: _, _, h2 => exact absurd (by simp) h2
theorem found_sol {rs qs : List Road} {D : List (List Nat)} (hS : ∀ r ∈ rs, Supp qs D r) (h1 : ∀ r ∈ rs, domAt D r.2.1 = [headN D r.2.1] ∧ domAt D r.2.2 = [headN D r.2.2]) : Sol rs qs (headN D) := fun r hr => by
  obtain ⟨e1, e2⟩ := h1 r hr
  obtain ⟨a, ha, c, hc, hq⟩ := hS r hr (by rw [e1]; simp)
  rw [e1, List.mem_singleton] at ha
  rw [e2, List.mem_singleton] at hc
  rw [← ha, ← hc]; exact hq
def pieceLedP (n many : Nat) (places : List Nat) (rs qs : List Road) : Pm := ⟨fun v G => (DV G v .none ∧ ∀ f, Sol rs qs f → (∀ p, p < n → f p < many) → False) ∨ ∃ f : Nat → Nat, (∀ p ∈ places, f p < many) ∧ Sol rs qs f ∧ DV G v (nums (places.map f)), fun _ _ _ s h => by
  rcases h with ⟨h1, h2⟩ | ⟨f, h1, h2, h3⟩
  · exact .inl ⟨h1.mono s, h2⟩
  · exact .inr ⟨f, h1, h2, h3.mono s⟩⟩
def prePieceLed : List V → Hp → Pm → Prop := fun vs G p => ∃ (n many : Nat) (places : List Nat) (rs qs : List Road), n ≤ 32 ∧ many ≤ 32 ∧ places.length ≤ 32 ∧ (∀ q ∈ places, q < n) ∧ (∀ r ∈ rs, KindOk r.1 ∧ r.2.1 ∈ places ∧ r.2.2 ∈ places) ∧
  AllP [dat (.int (n : Int)), dat (nums places), dat (.list (rs.map rd)), dat (.int (many : Int)), knownP qs] vs G ∧ p = pieceLedP n many places rs qs
theorem allp5 {p q s t u : Pm} {vs : List V} {G : Hp} (h : AllP [p, q, s, t, u] vs G) : ∃ a b c d e, vs = [a, b, c, d, e] ∧ p.P a G ∧ q.P b G ∧ s.P c G ∧ t.P d G ∧ u.P e G := by
  obtain ⟨a, r, rfl, ha, h⟩ := h
  obtain ⟨b, c, d, e, rfl, h1, h2, h3, h4⟩ := allp4 h
  exact ⟨a, b, c, d, e, rfl, ha, h1, h2, h3, h4⟩
theorem split_out {n : Nat} {D : List (List Nat)} (hD : D.length = n) {p x : Nat} : outI n (fun _ => true) (fun i => if i = p then nums [x] else nums (domAt D i)) = (D.set p [x]).map nums := by
  unfold outI
  rw [List.filter_eq_self.mpr fun _ _ => rfl]
  refine List.ext_getElem (by simp [hD]) fun i h1 h2 => ?_
  simp only [List.getElem_map, List.getElem_range, List.getElem_set]
  have hi : i < D.length := by simpa using h2
  by_cases c : p = i
  · subst c; rw [if_pos rfl, if_pos rfl]
  · rw [if_neg c, if_neg (fun e => c e.symm)]
    unfold domAt
    rw [List.getD_eq_getElem?_getD, List.getElem?_eq_getElem hi]; rfl
theorem full_out (n many : Nat) : outI n (fun _ => true) (fun _ => nums (List.range many)) = (List.replicate n (List.range many)).map nums := by
  unfold outI
  rw [List.filter_eq_self.mpr fun _ _ => rfl, List.map_replicate]
  refine List.ext_getElem (by simp) fun i h1 h2 => ?_
  simp
theorem sd_doms {n : Nat} (D : List (List Nat)) : Sd (n + 2) (domD D) := sd_list fun d hd => by
  obtain ⟨x, _, rfl⟩ := List.mem_map.mp hd
  exact sd_nums _
section
variable {P : Program} {w : World} {K : PySem.W.Frag} {mg : Str → Option Value} {base : Heap}
theorem sc_lpiece_led : FnScope ["_law_size", "_law_places", "_law_roads_here", "_law_many", "_law_known", "_law_whole", "_law_place", "_law_left", "_law_now_left", "_law_open_ones", "_law_dye"] ["_law_size", "_law_places", "_law_roads_here", "_law_many", "_law_known"] (defScope (top 53)) := ⟨rfl, rfl, rfl, by decide +kernel, rfl, by decide +kernel, by decide +kernel⟩
theorem has_lpiece_led (T : Tx K mg) : Has P w K mg base CX0 2 "_law_piece_led" ["_law_size", "_law_places", "_law_roads_here", "_law_many", "_law_known"] (PureSp prePieceLed) := by
  refine T.has 38 (fun fd F => F.ok sc_lpiece_led (fun vs H Q E h => ?_) fun cdv A outer s H vs Q E hr h => ?_) (fun fd F => F.bindsN fun _ _ _ _ _ _ us hl => match us, hl with | [_, _, _, _, _], _ => rfl)
  · obtain ⟨G, p, _, ⟨_, _, _, _, _, _, _, _, _, _, a, _⟩, _⟩ := h; exact a.len
  · obtain ⟨G, p, z, ⟨n, many, places, rs, qs, hn, hm, hpl, hpn, hr1, a, rfl⟩, k⟩ := h
    obtain ⟨v0, v1, v2, v3, v4, rfl, d0', d1, d2, d3, d4⟩ := allp5 a
    refine ⟨_, PSs.nox (pss_cons (ps_setLc (i := 5) (own := [("_law_place", 6)]) rfl sc_lpiece_led.nd rfl rfl (sw_true rfl rfl rfl (by rfl)) (pi_range1 rfl (T.free "range") (pa_cons (pv 0) (pa_nil))) (blkOk_by (by rfl)) (fun _ _ _ _ _ => pg_name (i := 6) sc_lpiece_led.nd rfl (by first | exact Or.inl rfl | exact Or.inr rfl)) (fun _ _ _ _ _ => pts_nil) (fun _ _ _ _ _ => pe_listRg rfl rfl (T.free "list") (prg_1 rfl (T.free "range") (pv 3))))
      (pss_cons (ps_set (i := 7) sc_lpiece_led.nd rfl (by first | exact Or.inl rfl | exact Or.inr rfl) (pe_lst (pa_cons (pv 5) (pa_nil))))
      (pss_cons (ps_while PassesOwn.never (pt_cmpR (op_neDK (K := K) rfl (un70 hr)) (pv 7) (pe_lst (pa_nil)) (nomark _)) (pss_cons (ps_set (i := 8) sc_lpiece_led.nd rfl (by first | exact Or.inl rfl | exact Or.inr rfl) (pe_callH (has_lthinned T) (hr.mono (by decide)) pass0 (pa_cons (pe_bm0 PySem.F.plainAttrs_list PySem.F.slot_list_pop PySem.F.type_list_pop mt_pop (pv 7)) (pa_cons (pv 2) (pa_cons (pv 4) (pa_nil))))))
        (pss_one (ps_if (pt_cmpR (op_eqDK (K := K) rfl (un70 hr)) (pe_lc (own := [("_law_place", 6)]) rfl sc_lpiece_led.nd (pi_listK (K := K) rfl (pv 1)) (blkOk_by (by rfl)) (fun _ _ _ _ _ => pg_name (i := 6) sc_lpiece_led.nd rfl (by first | exact Or.inl rfl | exact Or.inr rfl)) (fun _ _ _ _ _ => pts_one (pt_cmpR (op_eqDK (K := K) rfl (un70 hr)) (pe_ix (ix_seqK (K := K) rfl) (pv 8) (pv 6) (fun _ _ => rfl)) (pe_lst (pa_nil)) (nomark _))) (fun _ _ _ _ _ => pv 6)) (pe_lst (pa_nil)) (nomark _)) (pss_cons (ps_set (i := 9) sc_lpiece_led.nd rfl (by first | exact Or.inl rfl | exact Or.inr rfl) (pe_lc (own := [("_law_place", 6)]) rfl sc_lpiece_led.nd (pi_listK (K := K) rfl (pv 1)) (blkOk_by (by rfl)) (fun _ _ _ _ _ => pg_name (i := 6) sc_lpiece_led.nd rfl (by first | exact Or.inl rfl | exact Or.inr rfl)) (fun _ _ _ _ _ => pts_one (pt_cmpR op_gt (pe_callB (call_lenK (K := K) rfl) (by rfl) (T.free "len") (by decide +kernel) (pa_cons (pe_ix (ix_seqK (K := K) rfl) (pv 8) (pv 6) (fun _ _ => rfl)) (pa_nil))) (pe_int) (nomark _))) (fun _ _ _ _ _ => pv 6)))
          (pss_cons (ps_if (pt_cmpR (op_eqDK (K := K) rfl (un70 hr)) (pv 9) (pe_lst (pa_nil)) (nomark _)) (pss_one (ps_ret (pe_lc (own := [("_law_place", 6)]) rfl sc_lpiece_led.nd (pi_listK (K := K) rfl (pv 1)) (blkOk_by (by rfl)) (fun _ _ _ _ _ => pg_name (i := 6) sc_lpiece_led.nd rfl (by first | exact Or.inl rfl | exact Or.inr rfl)) (fun _ _ _ _ _ => pts_nil) (fun _ _ _ _ _ => pe_ix (ix_seqK (K := K) rfl) (pe_ix (ix_seqK (K := K) rfl) (pv 8) (pv 6) (fun _ _ => rfl)) (pe_int) (fun _ _ => rfl))))) (pss_nil))
          (pss_one (ps_for PassesOwn.never rfl (pi_listK (K := K) rfl (pe_revK (K := K) rfl (pe_ix (ix_seqK (K := K) rfl) (pv 8) (pe_ix (ix_seqK (K := K) rfl) (pv 9) (pe_int) (fun _ _ => rfl)) (fun _ _ => rfl)))) (pg_name (i := 10) sc_lpiece_led.nd rfl (by first | exact Or.inl rfl | exact Or.inr rfl)) (pss_one (ps_expr (pe_bm PySem.F.plainAttrs_list PySem.F.slot_list_append PySem.F.type_list_append mt_append (pv 7) (pa_cons (pe_lc (own := [("_law_place", 6)]) rfl sc_lpiece_led.nd (pi_range1 rfl (T.free "range") (pa_cons (pv 0) (pa_nil))) (blkOk_by (by rfl)) (fun _ _ _ _ _ => pg_name (i := 6) sc_lpiece_led.nd rfl (by first | exact Or.inl rfl | exact Or.inr rfl)) (fun _ _ _ _ _ => pts_nil) (fun _ _ _ _ _ => pe_ifExp (pt_cmpR (op_eqDK (K := K) rfl (un70 hr)) (pv 6) (pe_ix (ix_seqK (K := K) rfl) (pv 9) (pe_int) (fun _ _ => rfl)) (nomark _)) (pe_lst (pa_cons (pv 10) (pa_nil))) (pe_ix (ix_seqK (K := K) rfl) (pv 8) (pv 6) (fun _ _ => rfl)))) (pa_nil))))))))) (pss_nil)))))
      (pss_one (ps_ret (pe_non)))))), ?_⟩
    refine set_is (p := dat (domD (List.replicate n (List.range many)))) (Is.eqd (is_lcR (n := n) (f := fun _ => true) (o := fun _ => nums (List.range many)) (isa_cons (is_d rfl d0') isa_nil) (by omega) fun i G1 hi s1 => ⟨_, gt_name, rfl, fun G4 H4 _ s4 Q q => q G4 H4 (.refl s4), fun _ => is_listRg (is_d rfl (d3.mono s1)) (by omega)⟩) (congrArg PyData.list (full_out n many))) z fun v5 G0 H0 g0 p5 => ?_
    refine ⟨v5, rfl, by show 1 ≤ sizeLine; decide, fun l hl => ?_⟩
    have O0 : Own G H G0 (upd H0 l (.lst [v5])) l ([List.replicate n (List.range many)].map domD) := Own.one g0 hl p5
    refine ⟨fun m σ' H' => ∃ x8 x9 x10 stk G', σ' = [some v0, some v1, some v2, some v3, some v4, some v5, none, some (.ref l), x8, x9, x10] ∧ Own G H G' H' l (stk.map domD) ∧ Same G0 G' ∧ Stack n many rs qs stk ∧ m = meas stk, ⟨_, _, _, _, _, G0, rfl, O0, Same.refl _, full_stack n many rs qs hm, rfl⟩, ?_⟩
    rintro m σ' H' ⟨x8, x9, x10, stk, G', rfl, O, s0, S, rfl⟩
    refine own_test (b := !stk.isEmpty) O (fun G1 s1 dvl => ?_) _ fun G1 H1 g1 => ?_
    · refine IsT.eqb (ist_test (is_op (is_d rfl dvl) (is_lst (ds := []) isa_nil (Nat.zero_le _)) (ri_neD (Sd.sh (n := 3) (sd_list fun d hd => ?_)) (Sd.sh (n := 1) sd_nil)))) ?_
      · obtain ⟨D, _, rfl⟩ := List.mem_map.mp hd
        exact sd_doms D
      · rw [eqv_nil, List.isEmpty_map]
    have O1 := O.grow g1
    rcases List.eq_nil_or_concat stk with rfl | ⟨stk, D, rfl⟩
    · have e : (!([] : List (List (List Nat))).isEmpty) = false := rfl
      rw [if_neg (by rw [e]; exact Bool.false_ne_true)]
      dsimp only
      refine ret_is is_non O1.g.gh fun v G2 H2 g2 pv => k v G2 H2 (O1.g.trans g2) (.inl ⟨pv, fun f h1 h2 => ?_⟩)
      obtain ⟨D, hD, _⟩ := S.cover f h1 h2
      cases hD
    · rw [List.concat_eq_append] at S O1 O ⊢
      have hne : (!(stk ++ [D]).isEmpty) = true := by cases stk <;> rfl
      rw [hne, if_pos rfl]
      refine ⟨fun σ' H' => ∃ x8 x9 x10 stk2 G', σ' = [some v0, some v1, some v2, some v3, some v4, some v5, none, some (.ref l), x8, x9, x10] ∧ Own G H G' H' l (stk2.map domD) ∧ Same G0 G' ∧ Stack n many rs qs stk2 ∧ meas stk2 < meas (stk ++ [D]), fun σ' H' ⟨x8, x9, x10, stk2, G', e, O, s0, S, hm⟩ => ⟨meas stk2, hm, x8, x9, x10, stk2, G', e, O, s0, S, rfl⟩, ?_⟩
      rw [List.map_append] at O1
      have sA := s0.trans g1.gg
      have sB := g0.gg.trans sA
      refine set_pop_call (s := thinP n many rs qs D) O1 rfl (isa_cons (is_d rfl (d2.mono sB)) (isa_cons (is_var rfl ((knownP qs).mono _ _ _ sB d4)) isa_nil)) (fun vs G2 s2 pv => ⟨n, many, rs, qs, D, hn, hm, S.doms D (by simp), fun r hr => ⟨(hr1 r hr).1, hpn _ (hr1 r hr).2.1, hpn _ (hr1 r hr).2.2⟩, pv, rfl⟩) fun v8 G2 H2 O2 s2 p8 => ?_
      obtain ⟨D', hD', hle, hK, hS, dv8⟩ := p8
      have hfew := S.few stk.length D (by rw [List.getElem?_append_right (Nat.le_refl _)]; simp)
      have hlt3 : meas stk < meas (stk ++ [D]) := by
        rw [meas_app]
        have : 0 < 3 ^ total D := Nat.pos_of_ne_zero (by simp)
        have e : meas [D] = 3 ^ total D + 0 := rfl
        omega
      refine if_is (b := (places.filter fun p => (domAt D' p).isEmpty).isEmpty) (IsT.eqb (ist_test (is_op (is_lcA (fun n : Nat => PyData.int (n : Int)) (xs := places) (p := fun p => (domAt D' p).isEmpty) (q := fun n : Nat => PyData.int (n : Int)) (is_d rfl (d1.mono (sB.trans s2))) (by omega) fun w c G3 hc s3 hw => ⟨_, gt_name, rfl, IsT.eqb (ist_test (is_op (is_op (is_d rfl (dv8.mono s3)) (is_d rfl hw) (ri_ixL (j := c) rfl (hD'.get (hpn c hc)))) (is_lst (ds := []) isa_nil (Nat.zero_le _)) (ri_eqD (Sd.sh (n := 1) (sd_nums _)) (Sd.sh (n := 1) sd_nil)))) ((eqv_nil _).trans (List.isEmpty_map)), fun _ => is_d rfl hw⟩) (is_lst (ds := []) isa_nil (Nat.zero_le _)) (ri_eqD (Sd.sh (n := 1) (sd_nums _)) (Sd.sh (n := 1) sd_nil)))) ((eqv_nil _).trans (List.isEmpty_map))) O2.g.gh (fun hb G3 H3 g3 => ?_) fun hb G3 H3 g3 => ?_
      · have hne : ∀ p ∈ places, domAt D' p ≠ [] := fun p hp e => by
          have h1 : p ∈ places.filter fun p => (domAt D' p).isEmpty := List.mem_filter.mpr ⟨hp, by rw [e]; rfl⟩
          rw [List.isEmpty_iff.mp hb] at h1
          cases h1
        have O3 := O2.grow g3
        have s23 := s2.trans g3.gg
        have hol := List.length_filter_le (fun p => decide (1 < (domAt D' p).length)) places
        obtain ⟨op, eop⟩ : ∃ op, op = places.filter fun p => decide (1 < (domAt D' p).length) := ⟨_, rfl⟩
        rw [← eop] at hol
        refine set_is (p := dat (nums op)) (Is.eqd (is_lcA (fun n : Nat => PyData.int (n : Int)) (xs := places) (p := fun p => decide (1 < (domAt D' p).length)) (q := fun n : Nat => PyData.int (n : Int)) (is_d rfl (d1.mono (sB.trans s23))) (by omega) fun w c G4 hc s4 hw => ⟨_, gt_name, rfl, ?_, fun _ => is_d rfl hw⟩) (by rw [eop]; rfl)) O3.g.gh fun v9 G4 H4 g4 p9 => ?_
        · refine IsT.eqb (ist_test (is_op (is_cb (isa_cons (is_op (is_d rfl (dv8.mono (g3.gg.trans s4))) (is_d rfl hw) (ri_ixL (j := c) rfl (hD'.get (hpn c hc)))) isa_nil) (by have := rc_lenL (K := K) (G := G4) (ds := (domAt D' c).map fun n : Nat => PyData.int (n : Int)); rw [List.length_map] at this; exact this)) (is_int 1) (ri_B (g := fun i j => decide (i > j))))) (decide_eq_decide.mpr ⟨fun h => by omega, fun h => by omega⟩)
        have O4 := O3.grow g4
        have s24 := s23.trans g4.gg
        have dv84 := dv8.mono (g3.gg.trans g4.gg)
        refine if_is (b := op.isEmpty) (IsT.eqb (ist_test (is_op (is_d rfl p9) (is_lst (ds := []) isa_nil (Nat.zero_le _)) (ri_eqD (Sd.sh (n := 1) (sd_nums _)) (Sd.sh (n := 1) sd_nil)))) ((eqv_nil _).trans (List.isEmpty_map))) g4.gh (fun hc G5 H5 g5 => ?_) fun hc G5 H5 g5 => ?_
        · have hone : ∀ p ∈ places, domAt D' p = [headN D' p] := fun p hp => one_head (hne p hp) fun c => by
            have h1 : p ∈ op := by rw [eop]; exact List.mem_filter.mpr ⟨hp, decide_eq_true c⟩
            rw [List.isEmpty_iff.mp hc] at h1
            cases h1
          refine ret_is (p := dat (nums (places.map (headN D')))) (Is.eqd (is_lcA (fun n : Nat => PyData.int (n : Int)) (xs := places) (p := fun _ => true) (q := fun p => PyData.int ((headN D' p : Nat) : Int)) (is_d rfl (d1.mono (sB.trans (s24.trans g5.gg)))) (by omega) fun w c G6 hc s6 hw => ⟨_, gt_name, rfl, fun G4 H4 _ s4 Q q => q G4 H4 (.refl s4), fun _ => is_op (is_op (is_d rfl (dv84.mono (g5.gg.trans s6))) (is_d rfl hw) (ri_ixL (j := c) rfl (hD'.get (hpn c hc)))) (is_int 0) (ri_ixL (j := 0) rfl (by rw [hone c hc]; rfl))⟩) ?_) g5.gh fun v G6 H6 g6 pv => k v G6 H6 ((O4.grow g5).g.trans g6) (.inr ⟨headN D', fun p hp => ?_, found_sol hS fun r hr => ⟨hone _ (hr1 r hr).2.1, hone _ (hr1 r hr).2.2⟩, pv⟩)
          · rw [List.filter_eq_self.mpr fun _ _ => rfl]
            show PyData.list _ = .list ((places.map (headN D')).map _)
            rw [List.map_map]; rfl
          · exact hD'.lt _ (hD'.mem (hpn p hp)) _ (by rw [hone p hp]; simp [headN])
        · obtain ⟨p0, op', eop'⟩ : ∃ p0 op', op = p0 :: op' := by
            cases op with
            | nil => cases hc
            | cons x xs => exact ⟨x, xs, rfl⟩
          have hp0 : p0 ∈ places ∧ 1 < (domAt D' p0).length := by
            have : p0 ∈ op := by rw [eop']; exact List.mem_cons_self
            rw [eop] at this
            obtain ⟨h1, h2⟩ := List.mem_filter.mp this
            exact ⟨h1, of_decide_eq_true h2⟩
          have hp0n := hpn p0 hp0.1
          have h32 := hD'.few _ (hD'.mem hp0n)
          have O5 := O4.grow g5
          have p9' := p9.mono g5.gg
          rw [eop'] at p9'
          have is0 : ∀ σ2 : L2.St, σ2[9]? = some (some v9) → ∀ G6, Same G5 G6 → Is (tOp (rIx K) (tVar 9) (tC (.int 0))) σ2 G6 (dat (.int (p0 : Int))) := fun σ2 h9 G6 s6 => is_op (is_d h9 (p9'.mono s6)) (is_int 0) (ri_ixL (j := 0) rfl rfl)
          refine for_dat (ds := ((domAt D' p0).map fun n : Nat => PyData.int (n : Int)).reverse) (G := G5) (is_rev (is_op (is_d rfl (dv84.mono g5.gg)) (is0 _ rfl _ (Same.refl _)) (ri_ixL (j := p0) rfl (hD'.get hp0n)))) g5.gh (fun j σ' G' H' => (∃ x10, σ' = [some v0, some v1, some v2, some v3, some v4, some v5, none, some (.ref l), some v8, some v9, x10] ∧ Own G H G' H' l ((stk ++ ((domAt D' p0).reverse.take j).map fun x => D'.set p0 [x]).map domD)) ∧ Same G5 G')
            (fun G6 H6 g6 => ⟨⟨_, rfl, by rw [List.take_zero, List.map_nil, List.append_nil]; exact O5.grow g6⟩, g6.gg⟩) ?_ ?_
          · rintro j y d σ' G6 H6 hj hy zs6 zg6 ⟨⟨x10, rfl, O6⟩, s6⟩
            rw [← List.map_reverse, List.getElem?_map, Option.map_eq_some_iff] at hj
            obtain ⟨x, hxj, rfl⟩ := hj
            have hjl := (List.getElem?_eq_some_iff.mp hxj).1
            rw [List.length_reverse] at hjl
            obtain rfl := hy.int_inv
            refine ⟨_, gt_name, fun N hN => ?_⟩
            refine app_ow (d := domD (D'.set p0 [x])) O6 rfl (Is.eqd (is_lcR (n := n) (f := fun _ => true) (o := fun i => if i = p0 then nums [x] else nums (domAt D' i)) (isa_cons (is_d rfl (d0'.mono (sB.trans (s24.trans (g5.gg.trans s6))))) isa_nil) (by omega) fun i G7 hi s7 => ⟨_, gt_name, rfl, fun G4 H4 _ s4 Q q => q G4 H4 (.refl s4), fun _ => is_if (b := decide ((i : Int) = (p0 : Int))) (IsT.eqb (ist_test (is_op (is_d rfl (.int _)) (is0 _ rfl _ (s6.trans s7)) (ri_eqD (Sd.sh (n := 1) (sd_int _)) (Sd.sh (n := 1) (sd_int _))))) (eqv_int _ _)) (fun hb => ?_) fun hb => ?_⟩) (congrArg PyData.list (split_out hD'.len))) ?_ fun G7 H7 O7 s7 => hN _ G7 H7 s7 O7.g.gh ⟨⟨_, rfl, ?_⟩, s6.trans s7⟩
            · rw [if_pos (by have := of_decide_eq_true hb; omega)]
              exact is_lst (ds := [.int (x : Int)]) (isa_cons (is_d rfl (.int _)) isa_nil) (by simp)
            · rw [if_neg (by have := of_decide_eq_false hb; omega)]
              exact is_op (is_d rfl (dv84.mono (g5.gg.trans (s6.trans s7)))) (is_d rfl (.int _)) (ri_ixL (j := i) rfl (hD'.get hi))
            · rw [List.length_map, List.length_append, List.length_map, List.length_take, List.length_reverse]
              omega
            · rw [List.take_succ, hxj]
              show Own G H G7 H7 l ((stk ++ ((domAt D' p0).reverse.take j ++ [x]).map fun x => D'.set p0 [x]).map domD)
              have e : stk ++ (((domAt D' p0).reverse.take j ++ [x]).map fun x => D'.set p0 [x]) = (stk ++ ((domAt D' p0).reverse.take j).map fun x => D'.set p0 [x]) ++ [D'.set p0 [x]] := by rw [List.map_append, ← List.append_assoc]; rfl
              rw [e, List.map_append]
              exact O7
          · rintro σ' G6 H6 zs6 zg6 ⟨⟨x10, rfl, O6⟩, s6⟩
            rw [List.length_reverse, List.length_map, ← List.length_reverse, List.take_length] at O6
            refine ⟨_, _, _, _, G6, rfl, O6, sA.trans (s24.trans (g5.gg.trans s6)), S.split hK hD' hle hp0n hp0.2, ?_⟩
            rw [meas_app, meas_app]
            have h5 := split_meas (D := D') (p := p0) (by rw [hD'.len]; exact hp0n) hp0.2 (domAt D' p0).reverse List.length_reverse
            have h6 : 3 ^ total D' ≤ 3 ^ total D := Nat.pow_le_pow_right (by decide) hle
            have e : meas [D] = 3 ^ total D + 0 := rfl
            omega
      · have he : ∃ p ∈ places, domAt D' p = [] := by
          cases c : places.filter fun p => (domAt D' p).isEmpty with
          | nil => rw [c] at hb; cases hb
          | cons p r =>
            obtain ⟨h1, h2⟩ := List.mem_filter.mp (c ▸ List.mem_cons_self : p ∈ places.filter fun p => (domAt D' p).isEmpty)
            exact ⟨p, h1, List.isEmpty_iff.mp h2⟩
        obtain ⟨p, hp, he⟩ := he
        refine ⟨_, _, _, stk, G3, rfl, O2.grow g3, sA.trans (s2.trans g3.gg), S.drop hK fun f hf => ?_, hlt3⟩
        have := hf p (hpn p hp)
        rw [he] at this
        cases this

end
end Yd
set_option Elab.async false
set_option linter.all false
set_option maxRecDepth 100000
set_option maxHeartbeats 4000000
namespace Yd
open PySem PySem.Spec L2

/-! ### dict(xs): a list of pairs whose keys are tuples -/
def mergeT (kvs : List (List Key × V)) (more : List (List Key × Addr × V)) : List (List Key × V) := more.foldl (fun acc k => putK acc k.1 k.2.2) kvs
def rDictT (K : PySem.W.Frag) : List V → Hp → VK → Prop := fun xs H Q => ∃ (a : Addr) (ps : List Addr) (ks : List (List Key × Addr × V)), xs = [.ref a] ∧ SqL K H a (ps.map V.ref) ∧ Paired (fun p k => SqT K H p [.ref k.2.1, k.2.2] ∧ H k.2.1 = some (.tup (k.1.map kV))) ps ks ∧
  ∀ p, H p = none → Q (.ref p) (upd H p (.dT (mergeT [] ks)))
theorem KT_merge {H : Hp} : ∀ {more : List (List Key × Addr × V)} {rs : List (List Key × Addr × Value)} {kvs : List (List Key × V)} {xs : List (List Key × Addr × Value)}, Paired (fun (p : List Key × Addr × V) (q : List Key × Addr × Value) => p.1 = q.1 ∧ H q.2.1 = some (.tup (q.1.map kV)) ∧ RelV p.2.2 q.2.2) more rs → L2.KT H kvs xs → L2.KT H (mergeT kvs more) (storedAllH xs rs) := by
  intro more rs kvs xs r
  induction r generalizing kvs xs with
  | nil => intro q; exact q
  | @cons p q ps qs h t ih =>
    intro r0
    have e : L2.KT H (putK kvs p.1 p.2.2) (storedH xs q.1 q.2.1 q.2.2) := by
      rw [h.1]
      exact r0.put q.1 h.2.1 h.2.2
    exact ih e
theorem len_mergeT : ∀ (more : List (List Key × Addr × V)) (kvs : List (List Key × V)), (mergeT kvs more).length ≤ kvs.length + more.length
  | [], kvs => by show kvs.length ≤ kvs.length + 0; omega
  | p :: r, kvs => by
    have h1 := len_mergeT r (putK kvs p.1 p.2.2)
    have h2 : (putK kvs p.1 p.2.2).length ≤ kvs.length + 1 := by
      unfold putK
      split <;> simp
    show (mergeT (putK kvs p.1 p.2.2) r).length ≤ _
    rw [List.length_cons]; omega
theorem pairs_ofT {X : Cx} {pins : List (Addr × Obj)} {σ : L2.St} {H : Hp} {s : Shared} (I : Inv X pins σ H s) : ∀ {ps : List Addr} {ks : List (List Key × Addr × V)}, Paired (fun p k => SqT X.K H p [.ref k.2.1, k.2.2] ∧ H k.2.1 = some (.tup (k.1.map kV))) ps ks →
    ∃ rs : List (List Key × Addr × Value), Paired (fun (p : List Key × Addr × V) (q : List Key × Addr × Value) => p.1 = q.1 ∧ H q.2.1 = some (.tup (q.1.map kV)) ∧ RelV p.2.2 q.2.2) ks rs ∧ rs.length = ps.length ∧
      (∀ j x, rs[j]? = some x → PairAt s.heap (ps.getD j 0) (.ref x.2.1) x.2.2) ∧ ∀ x ∈ rs, (tupleKind (mixKind X.prog X.w)).is s.heap x.1 x.2.1
  | _, _, .nil => ⟨[], .nil, rfl, fun j x e => by simp at e, fun x h => nomatch h⟩
  | _, _, .cons (a := p) (b := k) h t => by
    obtain ⟨rs, r, hl, hp, hk⟩ := pairs_ofT I t
    obtain ⟨its, rv, ht, _⟩ := I.tuple h.1
    obtain ⟨u, y, ei, ru, ry⟩ := vals2 rv
    subst ei
    cases ru
    obtain ⟨o, ho, hc, n, hd⟩ := ht
    refine ⟨(k.1, k.2.1, y) :: rs, .cons ⟨rfl, h.2, ry⟩ r, by rw [List.length_cons, List.length_cons, hl], fun j x e => ?_, fun x hx => ?_⟩
    · cases j with
      | zero =>
        have e' : (k.1, k.2.1, y) = x := Option.some.inj e
        subst e'
        exact .inl ⟨o, ho, hc, n, hd⟩
      | succ j =>
        have := hp j x (by simpa using e)
        simpa using this
    · rcases List.mem_cons.mp hx with rfl | hx
      · exact key_of I.hok h.2
      · exact hk x hx
theorem call_dictT {X : Cx} (hcalm : X.calm = true) (hu : X.A.units + 2 < cLine) : CallR X (.type "dict") (rDictT X.K) := by
  intro pins s σ H xs us Q I r q
  obtain ⟨a, ps, ks, ex, hq, hp, q⟩ := q
  subst ex
  obtain ⟨u, eu, rx⟩ := vals1 r
  subst eu
  cases rx
  obtain ⟨its, rv, pl, hz⟩ := I.list hq
  have ei := refs_at rv
  subst ei
  rw [List.length_map] at hz
  obtain ⟨rs, rel, hl, hpr, hks⟩ := pairs_ofT I hp
  obtain ⟨o, n, ho, hc, hd, hdat⟩ := pl
  have e0 : (rs.map fun x => (Value.ref x.2.1, x.2.2)).length = rs.length := List.length_map _
  refine PySem.call_dict_pairsH (knd := tupleKind (mixKind X.prog X.w)) (ps := rs) (PairArg.list (prog := X.prog) (w := X.w) a (ps.map Value.ref).toArray (fun j => ps.getD j 0) (rs.map fun x => (Value.ref x.2.1, x.2.2))) (I.ok.hd hcalm) hu ⟨⟨o, n, ho, hc, hd, hdat⟩, ?_, fun j k v e => ?_⟩ ⟨e0.symm, fun i key v e => ?_⟩ (fun h' hk x hx => ?_) (by rw [e0, hl]; exact hz) fun h' tk hd' k => ?_
  · simp [hl]
  · rw [List.getElem?_map, Option.map_eq_some_iff] at e
    obtain ⟨x, hx, e⟩ := e
    cases e
    have hj : j < ps.length := by rw [← hl]; exact (List.getElem?_eq_some_iff.mp hx).1
    refine ⟨?_, hpr j x hx⟩
    simp [List.getD_eq_getElem?_getD, List.getElem?_eq_getElem hj]
  · have e' : (rs.map fun x => (Value.ref x.2.1, x.2.2))[i]? = some (key, v) := e
    rw [List.getElem?_map, Option.map_eq_some_iff] at e'
    obtain ⟨x, hx, e2⟩ := e'
    cases e2
    exact ⟨x.1, x.2.1, hx, rfl⟩
  · refine tupleKind_stays.stays (fun b o vs m e _ => hk b o (Nat.ne_of_lt (Heap.lt_size e)) (fun z => nomatch z) e) (hks x hx)
  · have hm : (s.heap.objs.size == sysModules) = false := beq_eq_false_iff_ne.mpr (Nat.ne_of_gt I.big)
    have hks2 : ks.length = rs.length := rel.length
    have hlen : (mergeT [] ks).length ≤ sizeLine := by
      refine Nat.le_trans (len_mergeT ks []) ?_
      rw [List.length_nil, Nat.zero_add, hks2, hl]
      exact hz
    have k' : ∀ b u, s.heap.get? b = some u → h'.get? b = some u := fun b u e => k b u (fun z => nomatch z) e
    obtain ⟨od, es, ep, h1, h2, h3, h4, h5, h6⟩ := hd'
    have hnew : H s.heap.objs.size = none := I.hok.fresh (Nat.le_refl _)
    have kt : L2.KT H (mergeT [] ks) (storedAllH [] rs) := KT_merge rel .nil
    exact ⟨.ref s.heap.objs.size, upd H s.heap.objs.size (.dT (mergeT [] ks)), I.laid (t' := tk) k' (Nat.le_refl _) (show ObjOk X.prog X.w _ _ _ (.dT (mergeT [] ks)) from ⟨hlen, hm, storedAllH [] rs, kt.keeps (fun b ys e => by rw [upd_ne (ne_of_none e hnew)]; exact e), od, es, ep, h1, h2, h3, h4, h6⟩), rfl, q _ hnew⟩
theorem call_dictTK {X : Cx} {K : PySem.W.Frag} (h : X.K = K) (hcalm : X.calm = true) (hu : X.A.units + 70 < cLine) : CallR X (.type "dict") (rDictT K) := h ▸ call_dictT hcalm (by omega)
end Yd
set_option Elab.async false
set_option linter.all false
set_option maxRecDepth 100000
set_option maxHeartbeats 4000000
namespace Yd
open PySem PySem.Spec L2

open PySem.W (AllAlike Sortable)
/-! ### the dict of roads -/
def prT (r : Road) : PyData := .tuple [rd r, .bool true]
theorem rk_inj {r q : Road} (h : rk r = rk q) : r = q := by
  simp only [rk, List.cons.injEq, Sum.inr.injEq, Sum.inl.injEq, and_true] at h
  obtain ⟨h1, h2, h3⟩ := h
  exact Prod.ext h1 (Prod.ext (by omega) (by omega))
theorem valV_putS (kvs : List (List Key × V)) (k j : List Key) (v : V) : (valV (putK kvs k v) j).isSome = ((valV kvs j).isSome || decide (j = k)) := by
  unfold putK
  rw [valV_any]
  by_cases h : (valV kvs k).isSome = true
  · rw [if_pos h, valV_map, Option.isSome_map]
    by_cases e : j = k
    · subst e; rw [h]; rfl
    · rw [decide_eq_false e, Bool.or_false]
  · rw [if_neg h]
    have hn : valV kvs k = none := by
      cases c : valV kvs k with
      | none => rfl
      | some x => rw [c] at h; exact absurd rfl h
    rw [valV_snoc k j v kvs hn]
    by_cases e : j = k
    · rw [if_pos e, decide_eq_true e, Bool.or_true]; rfl
    · rw [if_neg e, decide_eq_false e, Bool.or_false]
theorem merge_some (j : List Key) : ∀ (ks : List (List Key × Addr × V)) (kvs : List (List Key × V)), (valV (mergeT kvs ks) j).isSome = ((valV kvs j).isSome || ks.any fun k => decide (j = k.1))
  | [], kvs => by
    show (valV kvs j).isSome = _
    simp
  | k :: ks, kvs => by
    show (valV (mergeT (putK kvs k.1 k.2.2) ks) j).isSome = _
    rw [merge_some j ks, valV_putS, Bool.or_assoc, List.any_cons]
theorem pairs_dv {K : PySem.W.Frag} {G H : Hp} (s : Same G H) : ∀ {qs : List Road} {xs : List V}, DVs G xs (qs.map prT) → ∃ (ps : List Addr) (ks : List (List Key × Addr × V)), xs = ps.map V.ref ∧ Paired (fun p (k : List Key × Addr × V) => SqT K H p [.ref k.2.1, k.2.2] ∧ H k.2.1 = some (.tup (k.1.map kV))) ps ks ∧ ks.map Prod.fst = qs.map rk
  | [], _, h => by cases h; exact ⟨[], [], rfl, .nil, rfl⟩
  | r :: qs, _, h => by
    cases h with
    | cons h1 t =>
      obtain ⟨ps, ks, rfl, hp, hk⟩ := pairs_dv (K := K) s t
      obtain ⟨a, us, rfl, ha, dv⟩ := h1.tup_inv
      cases dv with
      | cons e1 t1 =>
        cases t1 with
        | cons e2 t2 =>
          cases t2
          obtain ⟨c, rfl, hc⟩ := road_tup e1
          exact ⟨a :: ps, (rk r, c, _) :: ks, rfl, .cons ⟨SqT.of (s _ _ ha), s _ _ hc⟩ hp, by rw [List.map_cons, List.map_cons, hk]⟩
theorem rc_dict {K : PySem.W.Frag} {G : Hp} {qs : List Road} : RC (rDictT K) [dat (.list (qs.map prT))] G (knownP qs) := fun vs G1 H1 s1 s2 pv Q k => by
  obtain ⟨v, rfl, hv⟩ := allp1 pv
  obtain ⟨a, xs, rfl, ha, dv⟩ := (show DV G1 v (.list _) from hv).lst_inv
  obtain ⟨ps, ks, rfl, hp, hk⟩ := pairs_dv (K := K) s2 dv
  refine ⟨a, ps, ks, rfl, SqL.of (s2 _ _ ha), hp, fun p hp0 => ?_⟩
  refine k _ (upd G1 p (.dT (mergeT [] ks))) _ (.new s2 hp0) ⟨p, _, rfl, upd_same, fun r => ?_⟩
  have e1 : (ks.any fun k => decide (rk r = k.1)) = (ks.map Prod.fst).any fun k => decide (rk r = k) := by rw [List.any_map]; rfl
  rw [merge_some, e1, hk, valV_nil, List.any_map]
  show (false || _) = _
  rw [Bool.false_or, Bool.eq_iff_iff, List.any_eq_true, decide_eq_true_iff]
  refine ⟨fun ⟨q, hq, e⟩ => ?_, fun h => ⟨r, h, decide_eq_true rfl⟩⟩
  exact rk_inj (of_decide_eq_true e : rk r = rk q) ▸ hq
theorem for_ex {K : PySem.W.Frag} {σ : L2.St} {G H : Hp} {tl : TE} {g : TG} {t1 : TS} {p : Pm} {D : Ends} (hl : Is tl σ G p) (s : Same G H) (k : ∀ v G1 H1, Gr0 G H G1 H1 → p.P v G1 → tFor (iList K (tC v)) g t1 D σ H1) : tFor (iList K tl) g t1 D σ H :=
  hl G H (Same.refl _) s _ fun v G1 H1 g1 pv => k v G1 H1 g1 pv
/-- x, y = [.. over a range], e: the list is one's own -/
theorem par_lcR {σ : L2.St} {G H : Hp} {ta : TA} {te t2 : TE} {tt : TT} {g : TG} {vs : List Nat} {f : Nat → Bool} {o : Nat → PyData} {n i j : Nat} {q : Pm} {E : Ends} (hl : IsA ta σ G [dat (.int (n : Int))]) (hz : n ≤ 100000)
    (hs : ∀ i G1, i < n → Same G G1 → ∃ σ2, GT g (.int (i : Int)) (wipe σ vs) G1 σ2 ∧ wipe σ2 vs = wipe σ vs ∧ IsT tt σ2 G1 (f i) ∧ (f i = true → Is te σ2 G1 (dat (o i)))) (h2 : Is t2 σ G q) (s : Same G H)
    (k : ∀ D w G2 H2, Own G H G2 H2 D (outI n f o) → q.P w G2 → E.nx ((σ.set i (some (.ref D))).set j (some w)) H2) : tPar i j (tCons (tLc (iRng1 ta) g tt te vs) (tCons t2 tNil)) E σ H :=
  lcR_hid hl hz hs (Same.refl _) s (fun x H1 => t2 σ H1 fun y H2 => ∃ a c, [x, y] = [a, c] ∧ E.nx ((σ.set i (some a)).set j (some c)) H2) fun D acc G2 H2 g2 h0 hD gD dv =>
    h2 G2 H2 g2.gg g2.gh _ fun w G3 H3 g3 pw => ⟨_, _, rfl, k D w G3 H3 (Own.grow ⟨g2, h0, gD, acc, hD, dv⟩ g3) pw⟩
def pieceOf (n : Nat) (m : Nat → Nat) (c : Nat) : List Nat := (List.range n).filter fun p => decide (m p = c)
def innerOf (n : Nat) (m : Nat → Nat) (rs : List Road) (c : Nat) : List Road := rs.filter fun r => decide (r.2.1 ∈ pieceOf n m c)
theorem mem_piece {n : Nat} {m : Nat → Nat} {c p : Nat} : p ∈ pieceOf n m c ↔ p < n ∧ m p = c := by
  unfold pieceOf
  rw [List.mem_filter, List.mem_range, decide_eq_true_iff]
def ledP (n many : Nat) (rs qs : List Road) : Pm := ⟨fun v G => (DV G v .none ∧ ∀ g, ¬ Leads n rs many qs g) ∨ ∃ g, Leads n rs many qs g ∧ DV G v (nums g), fun _ _ _ s h => by
  rcases h with ⟨h1, h2⟩ | ⟨f, h1, h3⟩
  · exact .inl ⟨h1.mono s, h2⟩
  · exact .inr ⟨f, h1, h3.mono s⟩⟩
def preLed2 : List V → Hp → Pm → Prop := fun vs G p => ∃ (n many : Nat) (rs qs : List Road), n ≤ 32 ∧ many ≤ 32 ∧ rs.length ≤ 1024 ∧ qs.length ≤ 1024 ∧ (∀ r ∈ rs, KindOk r.1 ∧ r.2.1 < n ∧ r.2.2 < n) ∧
  AllP [dat (.int (n : Int)), dat (.list (rs.map rd)), dat (.int (many : Int)), dat (.list (qs.map rd))] vs G ∧ p = ledP n many rs qs
structure LedI (n many : Nat) (m : Nat → Nat) (rs qs : List Road) (cs : List Nat) (fd : List Nat) : Prop where
  len : fd.length = n
  lt : ∀ c ∈ cs, ∀ p ∈ pieceOf n m c, fd.getD p 0 < many
  ok : ∀ c ∈ cs, ∀ r ∈ innerOf n m rs c, (r.1, fd.getD r.2.1 0, fd.getD r.2.2 0) ∈ qs
theorem led_step {n many : Nat} {m : Nat → Nat} {rs qs : List Road} {cs : List Nat} {fd fd2 : List Nat} {c : Nat} {f : Nat → Nat} (I : LedI n many m rs qs cs fd) (hr : ∀ r ∈ rs, r.2.1 < n ∧ r.2.2 < n) (hs : ∀ r ∈ rs, m r.2.1 = m r.2.2) (hc : c ∉ cs)
    (hl : fd2.length = n) (h1 : ∀ p, fd2.getD p 0 = if p ∈ pieceOf n m c then f p else fd.getD p 0) (h2 : ∀ p ∈ pieceOf n m c, f p < many) (h3 : Sol (innerOf n m rs c) qs f) : LedI n many m rs qs (cs ++ [c]) fd2 where
  len := hl
  lt := fun d hd p hp => by
    rw [h1]
    by_cases e : p ∈ pieceOf n m c
    · rw [if_pos e]; exact h2 p e
    · rw [if_neg e]
      rcases List.mem_append.mp hd with hd | hd
      · exact I.lt d hd p hp
      · rw [List.mem_singleton.mp hd] at hp; exact absurd hp e
  ok := fun d hd r hrr => by
    obtain ⟨hm1, hm2⟩ := List.mem_filter.mp hrr
    obtain ⟨p1, p2⟩ := mem_piece.mp (of_decide_eq_true hm2)
    have hfar : ∀ e, r.2.1 ∈ pieceOf n m e ↔ r.2.2 ∈ pieceOf n m e := fun e => by rw [mem_piece, mem_piece, hs r hm1]; exact ⟨fun h => ⟨(hr r hm1).2, h.2⟩, fun h => ⟨(hr r hm1).1, h.2⟩⟩
    rw [h1, h1]
    by_cases e : r.2.1 ∈ pieceOf n m c
    · rw [if_pos e, if_pos ((hfar c).mp e)]
      exact h3 r (List.mem_filter.mpr ⟨hm1, decide_eq_true e⟩)
    · rw [if_neg e, if_neg (fun z => e ((hfar c).mpr z))]
      rcases List.mem_append.mp hd with hd | hd
      · exact I.ok d hd r hrr
      · rw [List.mem_singleton.mp hd] at hm2; exact absurd (of_decide_eq_true hm2) e
theorem led_end {n many : Nat} {m : Nat → Nat} {rs qs : List Road} {fd : List Nat} (hn : n ≤ 32) (hm : ∀ v, m v ≤ v) (hr : ∀ r ∈ rs, r.2.1 < n ∧ r.2.2 < n) (I : LedI n many m rs qs (sset ((List.range n).map m)) fd) : Leads n rs many qs fd where
  len := I.len
  lt := fun x hx => by
    obtain ⟨i, hi, e⟩ := List.getElem_of_mem hx
    have hin : i < n := by rw [← I.len]; exact hi
    have := I.lt (m i) ((mem_sset fun y hy => ?_).mpr (List.mem_map_of_mem (List.mem_range.mpr hin))) i (mem_piece.mpr ⟨hin, rfl⟩)
    · rw [List.getD_eq_getElem?_getD, List.getElem?_eq_getElem hi, e] at this
      exact this
    · obtain ⟨j, hj, rfl⟩ := List.mem_map.mp hy
      have := List.mem_range.mp hj
      have := hm j
      omega
  ok := fun r hrr => by
    have hin := (hr r hrr).1
    refine I.ok (m r.2.1) ((mem_sset fun y hy => ?_).mpr (List.mem_map_of_mem (List.mem_range.mpr hin))) r (List.mem_filter.mpr ⟨hrr, decide_eq_true (mem_piece.mpr ⟨hin, rfl⟩)⟩)
    obtain ⟨j, hj, rfl⟩ := List.mem_map.mp hy
    have := List.mem_range.mp hj
    have := hm j
    omega
theorem getD_set {xs : List Nat} {p q v : Nat} (h : p < xs.length) : (xs.set p v).getD q 0 = if q = p then v else xs.getD q 0 := by
  rw [List.getD_eq_getElem?_getD, List.getElem?_set]
  by_cases c : p = q
  · subst c; rw [if_pos rfl, if_pos rfl, if_pos h]; rfl
  · rw [if_neg c, if_neg (fun e => c e.symm), List.getD_eq_getElem?_getD]
theorem ssetN (ns : List Nat) : (sset ns).Nodup := (sset_asc ns).imp fun h => Nat.ne_of_lt h
section
variable {P : Program} {w : World} {K : PySem.W.Frag} {mg : Str → Option Value} {base : Heap}
theorem sc_lled : FnScope ["_law_size", "_law_roads_here", "_law_many", "_law_others", "_law_found", "_law_known", "_law_place", "_law_road", "_law_places", "_law_inner", "_law_given", "_law_at"] ["_law_size", "_law_roads_here", "_law_many", "_law_others"] (defScope (top 54)) := ⟨rfl, rfl, rfl, by decide +kernel, rfl, by decide +kernel, by decide +kernel⟩
theorem has_lled (T : Tx K mg) : Has P w K mg base CX0 3 "_law_led" ["_law_size", "_law_roads_here", "_law_many", "_law_others"] (PureSp preLed2) := by
  refine T.has 39 (fun fd F => F.ok sc_lled (fun vs H Q E h => ?_) fun cdv A outer s H vs Q E hr h => ?_) (fun fd F => F.bindsN fun _ _ _ _ _ _ us hl => match us, hl with | [_, _, _, _], _ => rfl)
  · obtain ⟨G, p, _, ⟨_, _, _, _, _, _, _, _, _, a, _⟩, _⟩ := h; exact a.len
  · obtain ⟨G, p, z, ⟨n, many, rs, qs, hn, hm, hz, hzq, hr1, a, rfl⟩, k⟩ := h
    obtain ⟨v0, v1, v2, v3, rfl, d0', d1, d2, d3⟩ := allp4 a
    have hends : ∀ r ∈ rs, r.2.1 < n ∧ r.2.2 < n := fun r h => (hr1 r h).2
    refine ⟨_, PSs.nox (pss_cons (ps_par (i := 4) (j := 5) rfl sc_lled.nd rfl rfl (by decide) rfl rfl (pa_cons (pe_lc (own := [("_law_place", 6)]) rfl sc_lled.nd (pi_range1 rfl (T.free "range") (pa_cons (pv 0) (pa_nil))) (blkOk_by (by rfl)) (fun _ _ _ _ _ => pg_name (i := 6) sc_lled.nd rfl (by first | exact Or.inl rfl | exact Or.inr rfl)) (fun _ _ _ _ _ => pts_nil) (fun _ _ _ _ _ => pe_int)) (pa_cons (pe_callTy (call_dictTK (K := K) rfl rfl (un70 hr)) (by rfl) (T.free "dict") (by decide +kernel) (pa_cons (pe_lc (own := [("_law_road", 7)]) rfl sc_lled.nd (pi_listK (K := K) rfl (pv 3)) (blkOk_by (by rfl)) (fun _ _ _ _ _ => pg_name (i := 7) sc_lled.nd rfl (by first | exact Or.inl rfl | exact Or.inr rfl)) (fun _ _ _ _ _ => pts_nil) (fun _ _ _ _ _ => pe_tup (pa_cons (pv 7) (pa_cons (pe_bl) (pa_nil))))) (pa_nil))) (pa_nil))) (by rfl))
      (pss_cons (ps_for PassesOwn.never rfl (pi_listK (K := K) rfl (pe_callH (has_lpieces_of T) (hr.mono (by decide)) pass0 (pa_cons (pv 0) (pa_cons (pv 1) (pa_nil))))) (pg_name (i := 8) sc_lled.nd rfl (by first | exact Or.inl rfl | exact Or.inr rfl)) (pss_cons (ps_setLc (i := 9) (own := [("_law_road", 7)]) rfl sc_lled.nd rfl rfl (sw_true rfl rfl rfl (by rfl)) (pi_listK (K := K) rfl (pv 1)) (blkOk_by (by rfl)) (fun _ _ _ _ _ => pg_name (i := 7) sc_lled.nd rfl (by first | exact Or.inl rfl | exact Or.inr rfl)) (fun _ _ _ _ _ => pts_one (pt_cmpR (op_inDK (K := K) rfl (un70 hr)) (pe_ix (ix_seqK (K := K) rfl) (pv 7) (pe_int) (fun _ _ => rfl)) (pv 8) (by rfl))) (fun _ _ _ _ _ => pv 7))
        (pss_cons (ps_set (i := 10) sc_lled.nd rfl (by first | exact Or.inl rfl | exact Or.inr rfl) (pe_callH (has_lpiece_led T) (hr.mono (by decide)) pass0 (pa_cons (pv 0) (pa_cons (pv 8) (pa_cons (pv 9) (pa_cons (pv 2) (pa_cons (pv 5) (pa_nil))))))))
        (pss_cons (ps_if (pt_cmpR op_isN (pv 10) pe_non (nomark _)) (pss_one (ps_ret (pe_non))) (pss_nil))
        (pss_one (ps_for PassesOwn.never rfl (pi_range1 rfl (T.free "range") (pa_cons (pe_callB (call_lenK (K := K) rfl) (by rfl) (T.free "len") (by decide +kernel) (pa_cons (pv 8) (pa_nil))) (pa_nil))) (pg_name (i := 11) sc_lled.nd rfl (by first | exact Or.inl rfl | exact Or.inr rfl)) (pss_one (ps_asg (pe_ix (ix_seqK (K := K) rfl) (pv 10) (pv 11) (fun _ _ => rfl)) (pg_sub (pv 4) (pe_ix (ix_seqK (K := K) rfl) (pv 8) (pv 11) (fun _ _ => rfl)) set_list)))))))))
      (pss_one (ps_ret (pv 4))))), ?_⟩
    refine par_lcR (n := n) (f := fun _ => true) (o := fun _ => .int 0) (q := knownP qs) (isa_cons (is_d rfl d0') isa_nil) (by omega) (fun i G1 hi s1 => ⟨_, gt_name, rfl, fun G4 H4 _ s4 Q q => q G4 H4 (.refl s4), fun _ => is_int 0⟩)
      (is_cb (isa_cons (Is.eqd (is_lcA rd (xs := qs) (p := fun _ => true) (q := prT) (is_d rfl d3) (by omega) fun x r G1 hr s1 hx => ⟨_, gt_name, rfl, fun G4 H4 _ s4 Q q => q G4 H4 (.refl s4), fun _ => is_tup (ds := [rd r, .bool true]) (isa_cons (is_d rfl hx) (isa_cons (is_bl true) isa_nil)) (by simp)⟩) (by rw [List.filter_eq_self.mpr fun _ _ => rfl])) isa_nil) rc_dict) z fun l kn G0 H0 O0 pkn => ?_
    have O0' : Own G H G0 H0 l ((List.replicate n 0).map fun n : Nat => PyData.int (n : Int)) := by
      have e : outI n (fun _ => true) (fun _ => PyData.int 0) = (List.replicate n 0).map fun n : Nat => PyData.int (n : Int) := by
        unfold outI
        rw [List.filter_eq_self.mpr fun _ _ => rfl, List.map_replicate]
        refine List.ext_getElem (by simp) fun i h1 h2 => ?_
        simp
      rw [← e]; exact O0
    refine for_ex (p := piecesP n rs) (is_call (isa_cons (is_d rfl (d0'.mono O0.g.gg)) (isa_cons (is_d rfl (d1.mono O0.g.gg)) isa_nil)) fun vs G1 s1 a => ⟨n, rs, hn, hends, a, rfl⟩) O0.g.gh fun vp G1 H1 g1 pp => ?_
    obtain ⟨m, hP, dP⟩ := pp
    have O1 := O0'.grow g1
    have e0 : pieceL n m = (sset ((List.range n).map m)).map (pieceOf n m) := rfl
    refine for_dat (ds := (pieceL n m).map nums) (G := G1) (is_c dP) g1.gh (fun t σ' G' H' => (∃ x8 x9 x10 x11 fd, σ' = [some v0, some v1, some v2, some v3, some (.ref l), some kn, none, none, x8, x9, x10, x11] ∧ Own G H G' H' l (fd.map fun n : Nat => PyData.int (n : Int)) ∧ LedI n many m rs qs ((sset ((List.range n).map m)).take t) fd) ∧ Same G1 G')
      (fun G2 H2 g2 => ⟨⟨_, _, _, _, List.replicate n 0, rfl, O1.grow g2, List.length_replicate, fun c h => absurd h List.not_mem_nil, fun c h => absurd h List.not_mem_nil⟩, g2.gg⟩) ?_ ?_
    · rintro t x d σ' G' H' ht hx zs zg ⟨⟨x8, x9, x10, x11, fd, rfl, O, I⟩, s1⟩
      rw [e0, List.map_map, List.getElem?_map, Option.map_eq_some_iff] at ht
      obtain ⟨c, hct, rfl⟩ := ht
      have hcl := (List.getElem?_eq_some_iff.mp hct).1
      have hx' : DV G' x (nums (pieceOf n m c)) := hx
      have s0 : Same G0 G' := g1.gg.trans s1
      have sA : Same G G' := O0.g.gg.trans s0
      have hpl : (pieceOf n m c).length ≤ n := by
        have := List.length_filter_le (fun p => decide (m p = c)) (List.range n)
        rwa [List.length_range] at this
      have hnc : c ∉ (sset ((List.range n).map m)).take t := fun hm => by
        obtain ⟨i, hi, e⟩ := List.getElem_of_mem hm
        rw [List.length_take] at hi
        have h1 : (sset ((List.range n).map m))[i]? = some c := by
          rw [List.getElem_take] at e
          rw [List.getElem?_eq_getElem (by omega), e]
        have h2 := List.pairwise_iff_getElem.mp (sset_asc ((List.range n).map m)) i t (by omega) hcl (by omega)
        obtain ⟨_, h3⟩ := List.getElem?_eq_some_iff.mp h1
        obtain ⟨_, h4⟩ := List.getElem?_eq_some_iff.mp hct
        omega
      refine ⟨_, gt_name, fun N hN => ?_⟩
      have hil := List.length_filter_le (fun r : Road => decide (r.2.1 ∈ pieceOf n m c)) rs
      refine set_is (p := dat (.list ((innerOf n m rs c).map rd))) (is_lcA rd (xs := rs) (p := fun r => decide (r.2.1 ∈ pieceOf n m c)) (q := rd) (is_d rfl (d1.mono sA)) (by omega) fun w r G2 hr s2 hw => ⟨_, gt_name, rfl, IsT.eqb (ist_test (is_op (is_op (is_d rfl hw) (is_int 1) (ri_ixT (j := 1) rfl rfl)) (is_d rfl (hx'.mono s2)) (ri_inD (Sd.sh (n := 1) (sd_int _)) (Sd.sh (n := 1) (sd_nums _))))) (any_nat _ _), fun _ => is_d rfl hw⟩) O.g.gh fun v9 G2 H2 g2 p9 => ?_
      have hin : ∀ r ∈ innerOf n m rs c, KindOk r.1 ∧ r.2.1 ∈ pieceOf n m c ∧ r.2.2 ∈ pieceOf n m c := fun r hr => by
        obtain ⟨h1, h2⟩ := List.mem_filter.mp hr
        have h3 := of_decide_eq_true h2
        obtain ⟨h4, h5⟩ := mem_piece.mp h3
        exact ⟨(hr1 r h1).1, h3, mem_piece.mpr ⟨(hends r h1).2, by rw [← hP.same r h1]; exact h5⟩⟩
      have pkn2 := (knownP qs).mono _ _ _ (s0.trans g2.gg) pkn
      refine set_is (p := pieceLedP n many (pieceOf n m c) (innerOf n m rs c) qs) (is_call (isa_cons (is_d rfl (d0'.mono (sA.trans g2.gg))) (isa_cons (is_d rfl (hx'.mono g2.gg)) (isa_cons (is_d rfl p9) (isa_cons (is_d rfl (d2.mono (sA.trans g2.gg))) (isa_cons (is_var rfl pkn2) isa_nil))))) fun vs G3 s3 a => ⟨n, many, pieceOf n m c, innerOf n m rs c, qs, hn, hm, by omega, fun q hq => (mem_piece.mp hq).1, hin, a, rfl⟩) g2.gh fun v10 G3 H3 g3 p10 => ?_
      have O3 := (O.grow g2).grow g3
      rcases p10 with ⟨dn, hno⟩ | ⟨f, hf1, hf2, df⟩
      · refine if_is (b := true) (ist_test (is_op (is_d (d := .none) rfl dn) is_non ri_isN)) g3.gh (fun _ G4 H4 g4 => ?_) fun hb => nomatch hb
        refine ret_is is_non g4.gh fun v G5 H5 g5 pv => k v G5 H5 ((O3.grow g4).g.trans g5) (.inl ⟨pv, fun g hg => ?_⟩)
        refine hno (fun p => g.getD p 0) (fun r hr => hg.ok r (List.mem_filter.mp hr).1) fun p hp => getD_lt hg.lt (by rw [hg.len]; exact hp)
      · refine if_is (b := false) (ist_test (is_op (is_d rfl df) is_non ri_isN)) g3.gh (fun hb => nomatch hb) fun _ G4 H4 g4 => ?_
        have O4 := O3.grow g4
        have s24 := (g2.trans (g3.trans g4)).gg
        refine for_rng (n := (pieceOf n m c).length) (G := G4) (isa_cons (is_cb (isa_cons (is_d (i := 8) rfl (hx'.mono s24)) isa_nil) (by have := rc_lenL (K := K) (G := G4) (ds := (pieceOf n m c).map fun n : Nat => PyData.int (n : Int)); rw [List.length_map] at this; exact this)) isa_nil) (by omega) O4.g.gh
          (fun i σ' G5 H5 => (∃ x11 fd2, σ' = [some v0, some v1, some v2, some v3, some (.ref l), some kn, none, none, some x, some v9, some v10, x11] ∧ Own G H G5 H5 l (fd2.map fun n : Nat => PyData.int (n : Int)) ∧ fd2.length = n ∧ ∀ p, fd2.getD p 0 = if p ∈ (pieceOf n m c).take i then f p else fd.getD p 0) ∧ Same G4 G5)
          (fun G5 H5 g5 => ⟨⟨_, fd, rfl, O4.grow g5, I.len, fun p => by rw [List.take_zero, if_neg List.not_mem_nil]⟩, g5.gg⟩) ?_ ?_
        · rintro i σ' G5 H5 hi zs5 zg5 ⟨⟨x11, fd2, rfl, O5, hl2, hv2⟩, s5⟩
          obtain ⟨pi, hpi⟩ : ∃ pi, (pieceOf n m c)[i]? = some pi := ⟨_, List.getElem?_eq_getElem hi⟩
          have hpn := (mem_piece.mp (List.mem_of_getElem? hpi)).1
          refine ⟨_, gt_name, fun N2 hN2 => ?_⟩
          refine set_own (k := pi) (d := .int ((f pi : Nat) : Int)) O5 rfl ((is_op (is_d (i := 10) rfl ((df.mono g4.gg).mono s5)) (is_d (i := 11) rfl (.int _)) (ri_ixL (j := i) rfl (by rw [List.map_map, List.getElem?_map, hpi]; rfl))).at O5.g.gh) (fun G6 s6 => is_op (is_d (i := 8) rfl (hx'.mono (s24.trans (s5.trans s6)))) (is_d (i := 11) rfl (.int _)) (ri_ixL (j := i) rfl (by rw [List.getElem?_map, hpi]; rfl))) (by rw [List.length_map, hl2]; exact hpn) fun G6 H6 s6 O6 => hN2 _ G6 H6 s6 O6.g.gh ⟨⟨_, fd2.set pi (f pi), rfl, by rw [List.map_set]; exact O6, by rw [List.length_set]; exact hl2, fun p => ?_⟩, s5.trans s6⟩
          rw [getD_set (by rw [hl2]; exact hpn), hv2, List.take_succ, hpi]
          show _ = if p ∈ (pieceOf n m c).take i ++ [pi] then f p else fd.getD p 0
          by_cases e : p = pi
          · rw [if_pos e, if_pos (by rw [e]; simp), e]
          · rw [if_neg e]
            by_cases e2 : p ∈ (pieceOf n m c).take i
            · rw [if_pos e2, if_pos (List.mem_append_left _ e2)]
            · rw [if_neg e2, if_neg (fun h => by
                rcases List.mem_append.mp h with h | h
                · exact e2 h
                · exact e (List.mem_singleton.mp h))]
        · rintro σ' G5 H5 zs5 zg5 ⟨⟨x11, fd2, rfl, O5, hl2, hv2⟩, s5⟩
          rw [List.take_length] at hv2
          refine hN _ G5 H5 (s24.trans s5) zs5 ⟨⟨_, _, _, _, fd2, rfl, O5, ?_⟩, s1.trans (s24.trans s5)⟩
          rw [List.take_succ, hct]
          exact led_step I hends hP.same hnc hl2 hv2 (fun p hp => hf1 p hp) hf2
    · rintro σ' G' H' zs zg ⟨⟨x8, x9, x10, x11, fd, rfl, O, I⟩, s1⟩
      rw [e0, List.length_map, List.length_map, List.take_length] at I
      obtain ⟨G2, g2, dv, s2⟩ := O.fin
      exact ⟨_, rfl, k _ G2 H' g2 (.inr ⟨fd, led_end hn hP.le hends I, dv⟩)⟩

end
end Yd
set_option Elab.async false
set_option linter.all false
set_option maxRecDepth 100000
set_option maxHeartbeats 4000000
namespace Yd
open PySem PySem.Spec L2

/-! ### a purse: a list not seen, that changes -/
abbrev LT : Nat := 1000000000
def Pu (T : Nat) (o : Option HO) : Prop := ∃ b s t a : Int, o = some (.lst [.int b, .int s, .int t, .int a]) ∧ 0 ≤ s ∧ s < 2147483648 ∧ 0 ≤ t ∧ t ≤ (T : Int) ∧ 0 ≤ a ∧ a ≤ 1000000
theorem Pu.up {T T' : Nat} {o : Option HO} (h : Pu T o) (hT : T ≤ T') : Pu T' o := by
  obtain ⟨b, s, t, a, h1, h2, h3, h4, h5, h6⟩ := h
  exact ⟨b, s, t, a, h1, h2, h3, h4, by omega, h6⟩
def Mp (pu : Addr) : Addr → Prop := fun b => b = pu
structure PuS (pu : Addr) (T : Nat) (G H : Hp) : Prop where
  s : Same G H
  gn : G pu = none
  ex : Pu T (H pu)
def Dr (te : TE) (σ : L2.St) (pu : Addr) (c : Nat) (G : Hp) (p : Pm) : Prop := ∀ G1 H1 T, Same G G1 → PuS pu T G1 H1 → T + c ≤ LT → ∀ Q : VK, (∀ v G2 H2, Gr (Mp pu) G1 H1 G2 H2 → PuS pu (T + c) G2 H2 → p.P v G2 → Q v H2) → te σ H1 Q
def DrA (ta : TA) (σ : L2.St) (pu : Addr) (c : Nat) (G : Hp) (ps : List Pm) : Prop := ∀ G1 H1 T, Same G G1 → PuS pu T G1 H1 → T + c ≤ LT → ∀ Q : List V → Hp → Prop, (∀ vs G2 H2, Gr (Mp pu) G1 H1 G2 H2 → PuS pu (T + c) G2 H2 → AllP ps vs G2 → Q vs H2) → ta σ H1 Q
def DrT (tt : TT) (σ : L2.St) (pu : Addr) (c : Nat) (G : Hp) : Prop := ∀ G1 H1 T, Same G G1 → PuS pu T G1 H1 → T + c ≤ LT → ∀ Q : Bool → Hp → Prop, (∀ b G2 H2, Gr (Mp pu) G1 H1 G2 H2 → PuS pu (T + c) G2 H2 → Q b H2) → tt σ H1 Q
def belP (m : Nat) : Pm := ⟨fun v _ => ∃ r : Nat, r < m ∧ v = .int (r : Int), fun _ _ _ _ h => h⟩
section
variable {G H G2 H2 : Hp} {pu : Addr} {T c c1 c2 i j m : Nat} {σ : L2.St} {te ta tb : TE} {tl : TA} {tt : TT} {p q s : Pm} {ps : List Pm} {r : R2} {D : Ends} {d e : PyData} {K : PySem.W.Frag}
theorem PuS.grow (P : PuS pu T G H) (g : Gr0 G H G2 H2) : PuS pu T G2 H2 := by
  obtain ⟨b, s, t, a, h1, h2⟩ := P.ex
  exact ⟨g.gh, g.out P.gn h1, b, s, t, a, g.same _ _ h1, h2⟩
theorem PuS.up (P : PuS pu T G H) {T' : Nat} (h : T ≤ T') : PuS pu T' G H := ⟨P.s, P.gn, P.ex.up h⟩
theorem Dr.of (h : Is te σ G p) : Dr te σ pu 0 G p := fun G1 H1 T s1 P hT Q k => h G1 H1 s1 P.s Q fun v G2 H2 g2 pv => k v G2 H2 g2.up (P.grow g2) pv
theorem Dr.mono (h : Dr te σ pu c G p) (z : Same G G2) : Dr te σ pu c G2 p := fun G1 H1 T s1 => h G1 H1 T (z.trans s1)
theorem Dr.up (h : Dr te σ pu c G p) (hc : c ≤ c1) : Dr te σ pu c1 G p := fun G1 H1 T s1 P hT Q k => h G1 H1 T s1 P (by omega) Q fun v G2 H2 g2 P2 pv => k v G2 H2 g2 (P2.up (by omega)) pv
theorem Dr.imp (h : Dr te σ pu c G p) (z : ∀ v G1, Same G G1 → p.P v G1 → q.P v G1) : Dr te σ pu c G q := fun G1 H1 T s1 P hT Q k => h G1 H1 T s1 P hT Q fun v G2 H2 g2 P2 pv => k v G2 H2 g2 P2 (z v G2 (s1.trans g2.gg) pv)
theorem dr_op (ha : Dr ta σ pu c1 G p) (hb : Dr tb σ pu c2 G q) (hr : RI r p q G s) : Dr (tOp r ta tb) σ pu (c1 + c2) G s := fun G1 H1 T s1 P hT Q k =>
  ha G1 H1 T s1 P (by omega) _ fun x G2 H2 g2 P2 px => hb G2 H2 (T + c1) (s1.trans g2.gg) P2 (by omega) _ fun y G3 H3 g3 P3 py =>
    hr x y G3 H3 ((s1.trans g2.gg).trans g3.gg) g3.gh (p.mono _ _ _ g3.gg px) py Q fun v G4 H4 g4 pv => k v G4 H4 (g2.trans (g3.tr0 g4)) ((P3.grow g4).up (by omega)) pv
theorem dra_nil : DrA tNil σ pu 0 G [] := fun G1 H1 T s1 P hT Q k => k [] G1 H1 (.refl P.s) P rfl
theorem dra_cons (ha : Dr ta σ pu c1 G p) (hr : DrA tl σ pu c2 G ps) : DrA (tCons ta tl) σ pu (c1 + c2) G (p :: ps) := fun G1 H1 T s1 P hT Q k =>
  ha G1 H1 T s1 P (by omega) _ fun x G2 H2 g2 P2 px => hr G2 H2 (T + c1) (s1.trans g2.gg) P2 (by omega) _ fun xs G3 H3 g3 P3 pxs => k (x :: xs) G3 H3 (g2.trans g3) (P3.up (by omega)) ⟨x, xs, rfl, p.mono _ _ _ g3.gg px, pxs⟩
theorem dra_of (h : IsA tl σ G ps) : DrA tl σ pu 0 G ps := fun G1 H1 T s1 P hT Q k => h G1 H1 s1 P.s Q fun v G2 H2 g2 pv => k v G2 H2 g2.up (P.grow g2) pv
theorem dr_cb {r : List V → Hp → VK → Prop} (h : DrA tl σ pu c G ps) (hr : RC r ps G s) : Dr (tCB r tl) σ pu c G s := fun G1 H1 T s1 P hT Q k =>
  h G1 H1 T s1 P hT _ fun vs G2 H2 g2 P2 pv => hr vs G2 H2 (s1.trans g2.gg) g2.gh pv Q fun v G3 H3 g3 p3 => k v G3 H3 (g2.tr0 g3) (P2.grow g3) p3
theorem dr_if (h : DrT tt σ pu c1 G) (h1 : Dr ta σ pu c2 G p) (h2 : Dr tb σ pu c2 G p) : Dr (tIf tt ta tb) σ pu (c1 + c2) G p := fun G1 H1 T s1 P hT Q k => h G1 H1 T s1 P (by omega) _ fun b G2 H2 g2 P2 => by
  cases b with
  | true => exact h1 G2 H2 (T + c1) (s1.trans g2.gg) P2 (by omega) _ fun v G3 H3 g3 P3 pv => k v G3 H3 (g2.trans g3) (P3.up (by omega)) pv
  | false => exact h2 G2 H2 (T + c1) (s1.trans g2.gg) P2 (by omega) _ fun v G3 H3 g3 P3 pv => k v G3 H3 (g2.trans g3) (P3.up (by omega)) pv
def boolP : Pm := ⟨fun v _ => ∃ b, v = .bl b, fun _ _ _ _ h => h⟩
theorem dr_test (h : Dr te σ pu c G boolP) : DrT (tTest te) σ pu c G := fun G1 H1 T s1 P hT Q k => h G1 H1 T s1 P hT _ fun x G2 H2 g2 P2 px => by
  obtain ⟨b, rfl⟩ := px
  exact ⟨b, rfl, k b G2 H2 g2 P2⟩
theorem ri_bel (h : ∀ k : Nat, k < m → RI r (dat (.int (k : Int))) q G s) : RI r (belP m) q G s := fun x y G1 H1 s1 s2 px py Q k => by
  obtain ⟨n, hn, rfl⟩ := px
  exact h n hn _ y G1 H1 s1 s2 (.int _) py Q k
theorem ri_belR (h : ∀ k : Nat, k < m → RI r p (dat (.int (k : Int))) G s) : RI r p (belP m) G s := fun x y G1 H1 s1 s2 px py Q k => by
  obtain ⟨n, hn, rfl⟩ := py
  exact h n hn x _ G1 H1 s1 s2 px (.int _) Q k
theorem RI.imp (h : RI r p q G s) {s2 : Pm} (z : ∀ v G1, s.P v G1 → s2.P v G1) : RI r p q G s2 := fun x y G1 H1 s1 s3 px py Q k => h x y G1 H1 s1 s3 px py Q fun v G2 H2 g2 pv => k v G2 H2 g2 (z v G2 pv)
theorem set_dr (h : Dr te σ pu c G p) (P : PuS pu T G H) (hT : T + c ≤ LT) (k : ∀ v G2 H2, Gr (Mp pu) G H G2 H2 → PuS pu (T + c) G2 H2 → p.P v G2 → D.nx (σ.set i (some v)) H2) : tAsg te (gName i) D σ H := h G H T (Same.refl _) P hT _ k
theorem ret_dr (h : Dr te σ pu c G p) (P : PuS pu T G H) (hT : T + c ≤ LT) (k : ∀ v G2 H2, Gr (Mp pu) G H G2 H2 → PuS pu (T + c) G2 H2 → p.P v G2 → D.rt v H2) : tRet te D σ H := h G H T (Same.refl _) P hT _ k
/-- a promise with a purse: c draws at most -/
def PurseSp (c : Nat) (pre : List V → Hp → Pm → Prop) : Sp := fun vs H Q _ => ∃ G pu us T p, vs = .ref pu :: us ∧ PuS pu T G H ∧ T + c ≤ LT ∧ pre us G p ∧ ∀ v G2 H2, Gr (Mp pu) G H G2 H2 → PuS pu (T + c) G2 H2 → p.P v G2 → Q v H2
theorem dr_call {E : XK} {pre : List V → Hp → Pm → Prop} (hσ : σ[i]? = some (some (.ref pu))) (h : DrA tl σ pu c1 G ps) (hp : ∀ us G1, Same G G1 → AllP ps us G1 → ∃ p, pre us G1 p ∧ ∀ v G2, p.P v G2 → s.P v G2) : Dr (tCall (PurseSp c pre) [] E (tCons (tVar i) tl)) σ pu (c1 + c) G s := fun G1 H1 T s1 P hT Q k =>
  ⟨_, hσ, h G1 H1 T s1 P (by omega) _ fun us G2 H2 g2 P2 pu' => by
    obtain ⟨p, hp1, hp2⟩ := hp us G2 (s1.trans g2.gg) pu'
    show PurseSp c pre ((V.ref pu :: us) ++ []) H2 _ E
    rw [List.append_nil]
    exact ⟨G2, pu, us, T + c1, p, rfl, P2, by omega, hp1, fun v G3 H3 g3 P3 pv => k v G3 H3 (g2.trans g3) (P3.up (by omega)) (hp2 v G3 pv)⟩⟩
theorem bel_le {m m' : Nat} (h : m ≤ m') : ∀ v G, (belP m).P v G → (belP m').P v G := fun v G ⟨r, h1, h2⟩ => ⟨r, by omega, h2⟩
/-! a list that is not seen -/
structure Hid (G H : Hp) (l : Addr) (ds : List PyData) : Prop where
  s : Same G H
  gn : G l = none
  ex : ∃ vs, H l = some (.lst vs) ∧ DVs G vs ds
theorem Hid.show {l : Addr} {ds : List PyData} (O : Hid G H l ds) : ∃ G1, Same G G1 ∧ Same G1 H ∧ DV G1 (.ref l) (.list ds) := by
  obtain ⟨vs, h1, h2⟩ := O.ex
  exact ⟨upd G l (.lst vs), same_upd O.gn, same_sho O.s h1 O.gn, .lst upd_same (h2.mono (same_upd O.gn))⟩
theorem hid_flat {l : Addr} {ds : List PyData} (O : Hid G H l ds) (hf : Flat d) (h : ∀ G1, Same G G1 → DV G1 (.ref l) (.list ds) → Is te σ G1 (dat d)) : At te σ G H (dat d) := fun Q k => by
  obtain ⟨G1, s1, s2, dv⟩ := O.show
  exact h G1 s1 dv G1 H (Same.refl _) s2 _ fun v G3 H3 g3 pv => k v G H3 (g3.hidE O.s) (hf v _ _ pv)
theorem hid_test {l : Addr} {ds : List PyData} {b : Bool} (O : Hid G H l ds) (h : ∀ G1, Same G G1 → DV G1 (.ref l) (.list ds) → IsT tt σ G1 b) : AtT tt σ G H b := fun Q k => by
  obtain ⟨G1, s1, s2, dv⟩ := O.show
  exact h G1 s1 dv G1 H (Same.refl _) s2 _ fun G3 H3 g3 => k G H3 (g3.hidE O.s)
/-- growth where only an unseen list changes -/
theorem Gr.wrM {o : HO} (g : Gr (Mp pu) G H G2 H2) (hg : G2 pu = none) : Gr (Mp pu) G H G2 (upd H2 pu o) := g.wr (.inr rfl) hg
end
theorem cmul {i j : Int} {n m : Nat} (hi : i.natAbs < 2 ^ n) (hj : j.natAbs < 2 ^ m) (h : n + m ≤ 1000) : CMulX i j := by
  have h1 := PyProof.Rows.intBits_le hi
  have h2 := PyProof.Rows.intBits_le hj
  unfold CMulX
  omega
end Yd
set_option Elab.async false
set_option linter.all false
set_option maxRecDepth 100000
set_option maxHeartbeats 4000000
namespace Yd
open PySem PySem.Spec L2

theorem is_bits {σ : L2.St} {G : Hp} {te : TE} {i : Int} (h : Is te σ G (dat (.int i))) : Is (tBits te) σ G (dat (.int ((Builtin.Int.intBits i : Nat) : Int))) := fun G1 H1 s1 s2 Q k => h G1 H1 s1 s2 _ fun x G2 H2 g2 px => ⟨i, px.int_inv, k _ G2 H2 g2 (.int _)⟩
theorem emod_bel {x : Int} {m : Nat} (hm : 0 < m) : ∃ r : Nat, r < m ∧ x % (m : Int) = (r : Int) := by
  have h1 := Int.emod_nonneg x (show (m : Int) ≠ 0 by omega)
  have h2 := Int.emod_lt_of_pos x (show (0 : Int) < (m : Int) by omega)
  exact ⟨(x % (m : Int)).toNat, by omega, by omega⟩
def preMixed : List V → Hp → Pm → Prop := fun vs G p => ∃ s t a : Int, 0 ≤ s ∧ s < 2147483648 ∧ 0 ≤ t ∧ t ≤ 1000000000 ∧ 0 ≤ a ∧ a ≤ 1000000 ∧ AllP [dat (.int s), dat (.int t), dat (.int a)] vs G ∧ p = belP 2147483587
def preDraw : List V → Hp → Pm → Prop := fun vs G p => ∃ many : Nat, 1 ≤ many ∧ many ≤ 100000 ∧ AllP [dat (.int (many : Int))] vs G ∧ p = belP many
section
variable {G H G2 H2 : Hp} {l pu : Addr} {T i j k n c : Nat} {σ : L2.St} {te ti : TE} {d : PyData} {ds : List PyData} {p : Pm} {D : Ends} {g : TG} {t1 : TS}
theorem set_hid (O : Hid G H l ds) (hD : σ[j]? = some (some (.ref l))) (he : At te σ G H (dat d)) (hi : ∀ G1, Same G G1 → Is ti σ G1 (dat (.int (k : Int)))) (hk : k < ds.length)
    (kk : ∀ v G2 H2 vs, Gr0 G H G2 H2 → G2 l = none → H2 l = some (.lst vs) → DVs G2 vs ds → DV G2 v d → D.nx σ (upd H2 l (.lst (vs.set k v)))) : tAsg te (gSub (tVar j) ti rSetL) D σ H :=
  he _ fun v G3 H3 g3 pv => by
    obtain ⟨vs, h1, h2⟩ := O.ex
    refine ⟨_, hD, hi G3 g3.gg G3 H3 (Same.refl _) g3.gh _ fun y G4 H4 g4 py => ?_⟩
    have h1' := (g3.trans g4).same _ _ h1
    have h2' := h2.mono (g3.trans g4).gg
    exact ⟨l, vs, (k : Int), k, rfl, py.int_inv, h1', ixNat (by rw [h2.length]; exact hk), kk v G4 H4 vs (g3.trans g4) ((g3.trans g4).out O.gn h1) h1' h2' (pv.mono g4.gg)⟩
theorem dr_for_rng (h : Dr te σ pu c G p) (P : PuS pu T G H) (hT : T + c ≤ LT) (k : ∀ v G1 H1, Gr (Mp pu) G H G1 H1 → PuS pu (T + c) G1 H1 → p.P v G1 → tFor (iRng1 (tCons (tC v) tNil)) g t1 D σ H1) : tFor (iRng1 (tCons te tNil)) g t1 D σ H :=
  h G H T (Same.refl _) P hT _ k
end
theorem pu_vs {G : Hp} {vs : List V} {b s t a : Int} (h : DVs G vs [.int b, .int s, .int t, .int a]) : vs = [.int b, .int s, .int t, .int a] := by
  have h' : DVs G vs (([b, s, t, a] : List Int).map PyData.int) := h
  exact h'.ints_inv
theorem pu_hid {pu : Addr} {G H : Hp} {b s t a : Int} (z : Same G H) (hg : G pu = none) (h : H pu = some (.lst [.int b, .int s, .int t, .int a])) : Hid G H pu [.int b, .int s, .int t, .int a] := ⟨z, hg, _, h, .cons (.int _) (.cons (.int _) (.cons (.int _) (.cons (.int _) .nil)))⟩
section
variable {P : Program} {w : World} {K : PySem.W.Frag} {mg : Str → Option Value} {base : Heap}
theorem sc_lmixed : FnScope ["_law_seed", "_law_turn", "_law_at", "_law_mixed_here"] ["_law_seed", "_law_turn", "_law_at"] (defScope (top 41)) := ⟨rfl, rfl, rfl, by decide +kernel, rfl, by decide +kernel, by decide +kernel⟩
theorem has_lmixed (T : Tx K mg) : Has P w K mg base CX0 1 "_law_mixed" ["_law_seed", "_law_turn", "_law_at"] (PureSp preMixed) := by
  refine T.has 26 (fun fd F => F.ok sc_lmixed (fun vs H Q E h => ?_) fun cdv A outer s H vs Q E hr h => ?_) (fun fd F => F.bindsN fun _ _ _ _ _ _ us hl => match us, hl with | [_, _, _], _ => rfl)
  · obtain ⟨G, p, _, ⟨_, _, _, _, _, _, _, _, _, a, _⟩, _⟩ := h; exact a.len
  · obtain ⟨G, p, z, ⟨s0, t0, a0, h1, h2, h3, h4, h5, h6, a, rfl⟩, k⟩ := h
    obtain ⟨v0, v1, v2, rfl, d0', d1, d2⟩ := allp3 a
    refine ⟨_, PSs.nox (pss_cons (ps_set (i := 3) sc_lmixed.nd rfl (by first | exact Or.inl rfl | exact Or.inr rfl) (pe_op op_addU (pe_op op_mulU (pv 0) (pe_int)) (pe_op op_mulU (pe_op op_mulU (pe_int) (pv 1)) (pv 1))))
      (pss_cons (ps_set (i := 3) sc_lmixed.nd rfl (by first | exact Or.inl rfl | exact Or.inr rfl) (pe_op op_mod (pe_op op_addU (pe_op op_addU (pv 3) (pe_op op_mulU (pe_int) (pv 2))) (pv 1)) (pe_int)))
      (pss_cons (ps_set (i := 3) sc_lmixed.nd rfl (by first | exact Or.inl rfl | exact Or.inr rfl) (pe_op op_mod (pe_op op_addU (pe_op op_mulU (pv 3) (pv 3)) (pe_int)) (pe_int)))
      (pss_one (ps_ret (pe_op op_mod (pe_op op_mulU (pv 3) (pe_int)) (pe_int))))))), ?_⟩
    refine set_is (p := dat (.int (s0 * 69069 + 104729 * t0 * t0))) (is_op (is_op (is_d rfl d0') (is_int 69069) (ri_mulI (cmul (n := 31) (m := 17) (by omega) (by decide) (by decide)))) (is_op (is_op (is_int 104729) (is_d rfl d1) (ri_mulI (cmul (n := 17) (m := 31) (by decide) (by omega) (by decide)))) (is_d rfl d1) (ri_mulI (cmul (n := 50) (m := 31) (by omega) (by omega) (by decide)))) ri_addI) z fun w1 G1 H1 g1 p1 => ?_
    obtain ⟨m1, hm1, e1⟩ := emod_bel (x := s0 * 69069 + 104729 * t0 * t0 + 7919 * a0 + t0) (m := 2147483647) (by decide)
    refine set_is (p := dat (.int (m1 : Int))) (Is.eqd (is_op (is_op (is_op (is_d rfl p1) (is_op (is_int 7919) (is_d rfl (d2.mono g1.gg)) (ri_mulI (cmul (n := 17) (m := 31) (by decide) (by omega) (by decide)))) ri_addI) (is_d rfl (d1.mono g1.gg)) ri_addI) (is_int 2147483647) (ri_C (g := fun i j => i % j) (by decide))) (congrArg PyData.int e1)) g1.gh fun w2 G2 H2 g2 p2 => ?_
    obtain ⟨m2, hm2, e2⟩ := emod_bel (x := (m1 : Int) * (m1 : Int) + 40503) (m := 2147483629) (by decide)
    refine set_is (p := dat (.int (m2 : Int))) (Is.eqd (is_op (is_op (is_op (is_d rfl p2) (is_d rfl p2) (ri_mulI (cmul (n := 31) (m := 31) (by omega) (by omega) (by decide)))) (is_int 40503) ri_addI) (is_int 2147483629) (ri_C (g := fun i j => i % j) (by decide))) (congrArg PyData.int e2)) g2.gh fun w3 G3 H3 g3 p3 => ?_
    obtain ⟨m3, hm3, e3⟩ := emod_bel (x := (m2 : Int) * 48271) (m := 2147483587) (by decide)
    refine ret_is (p := dat (.int (m3 : Int))) (Is.eqd (is_op (is_op (is_d rfl p3) (is_int 48271) (ri_mulI (cmul (n := 31) (m := 17) (by omega) (by decide) (by decide)))) (is_int 2147483587) (ri_C (g := fun i j => i % j) (by decide))) (congrArg PyData.int e3)) g3.gh fun v G4 H4 g4 pv => k v G4 H4 (g1.trans (g2.trans (g3.trans g4))) ⟨m3, hm3, pv.int_inv⟩

theorem sc_ldraw : FnScope ["_law_purse_here", "_law_many", "_law_drawn", "_law_found", "_law_piece"] ["_law_purse_here", "_law_many"] (defScope (top 42)) := ⟨rfl, rfl, rfl, by decide +kernel, rfl, by decide +kernel, by decide +kernel⟩
theorem has_ldraw (T : Tx K mg) : Has P w K mg base CX0 2 "_law_draw" ["_law_purse_here", "_law_many"] (PurseSp 1 preDraw) := by
  refine T.has 27 (fun fd F => F.ok sc_ldraw (fun vs H Q E h => ?_) fun cdv A outer s H vs Q E hr h => ?_) (fun fd F => F.bindsN fun _ _ _ _ _ _ us hl => match us, hl with | [_, _], _ => rfl)
  · obtain ⟨G, pu, us, T, p, rfl, _, _, ⟨_, _, _, a, _⟩, _⟩ := h; exact congrArg Nat.succ a.len
  · obtain ⟨G, pu, us, Tm, p, rfl, P0, hT, ⟨many, hm1, hm2, a, rfl⟩, k⟩ := h
    have hLT : LT = 1000000000 := rfl
    obtain ⟨v1, rfl, d1⟩ := allp1 a
    obtain ⟨pb, ps, pt, pa, hpu, hs1, hs2, ht1, ht2, ha1, ha2⟩ := P0.ex
    have P00 := pu_hid P0.s P0.gn hpu
    refine ⟨_, PSs.nox (pss_cons (ps_if (pt_cmpR op_gt (pe_ix (ix_seqK (K := K) rfl) (pv 0) (pe_int) (fun _ _ => rfl)) (pe_int) (nomark _)) (pss_cons (ps_set (i := 2) sc_ldraw.nd rfl (by first | exact Or.inl rfl | exact Or.inr rfl) (pe_op op_mod (pe_ix (ix_seqK (K := K) rfl) (pv 0) (pe_int) (fun _ _ => rfl)) (pv 1)))
        (pss_cons (ps_asg (pe_op op_fdiv (pe_ix (ix_seqK (K := K) rfl) (pv 0) (pe_int) (fun _ _ => rfl)) (pv 1)) (pg_sub (pv 0) (pe_int) set_list))
        (pss_one (ps_ret (pv 2))))) (pss_nil))
      (pss_cons (ps_set (i := 3) sc_ldraw.nd rfl (by first | exact Or.inl rfl | exact Or.inr rfl) (pe_int))
      (pss_cons (ps_for PassesOwn.never rfl (pi_range1 rfl (T.free "range") (pa_cons (pe_op op_addU (pe_int) (pe_op op_fdiv (pe_bits (pv 1)) (pe_int))) (pa_nil))) (pg_name (i := 4) sc_ldraw.nd rfl (by first | exact Or.inl rfl | exact Or.inr rfl)) (pss_cons (ps_asg (pe_op op_addU (pe_ix (ix_seqK (K := K) rfl) (pv 0) (pe_int) (fun _ _ => rfl)) (pe_int)) (pg_sub (pv 0) (pe_int) set_list))
        (pss_one (ps_set (i := 3) sc_ldraw.nd rfl (by first | exact Or.inl rfl | exact Or.inr rfl) (pe_op op_addU (pe_op op_mulU (pv 3) (pe_int)) (pe_callH (has_lmixed T) (hr.mono (by decide)) pass0 (pa_cons (pe_ix (ix_seqK (K := K) rfl) (pv 0) (pe_int) (fun _ _ => rfl)) (pa_cons (pe_ix (ix_seqK (K := K) rfl) (pv 0) (pe_int) (fun _ _ => rfl)) (pa_cons (pe_ix (ix_seqK (K := K) rfl) (pv 0) (pe_int) (fun _ _ => rfl)) (pa_nil))))))))))
      (pss_one (ps_ret (pe_op op_mod (pv 3) (pv 1))))))), ?_⟩
    refine if_at (b := decide (pb > 0)) (hid_test P00 fun G1 s1 dl => ist_test (is_op (is_op (is_d rfl dl) (is_int 0) (ri_ixL (j := 0) rfl rfl)) (is_int 0) (ri_B (g := fun i j => decide (i > j))))) (fun hb G1 H1 g1 => ?_) fun hb G1 H1 g1 => ?_
    · obtain ⟨r, hr1, er⟩ := emod_bel (x := pb) (m := many) hm1
      have hp1 := g1.same _ _ hpu
      have gn1 := g1.out P0.gn hpu
      refine set_at (p := dat (.int (r : Int))) (hid_flat (pu_hid g1.gh gn1 hp1) (flat_int _) fun G2 s2 dl => Is.eqd (is_op (is_op (is_d rfl dl) (is_int 0) (ri_ixL (j := 0) rfl rfl)) (is_d rfl (d1.mono (g1.gg.trans s2))) (ri_C (g := fun i j => i % j) (by omega))) (congrArg PyData.int er)) fun w2 G2 H2 g2 p2 => ?_
      have hp2 := g2.same _ _ hp1
      have gn2 := g2.out gn1 hp1
      refine set_hid (d := .int (pb / (many : Int))) (k := 0) (pu_hid g2.gh gn2 hp2) rfl (hid_flat (pu_hid g2.gh gn2 hp2) (flat_int _) fun G3 s3 dl => is_op (is_op (is_d rfl dl) (is_int 0) (ri_ixL (j := 0) rfl rfl)) (is_d rfl (d1.mono (g1.gg.trans (g2.gg.trans s3)))) (ri_C (g := fun i j => i / j) ⟨by omega, by omega⟩)) (fun G3 _ => is_int 0) (by simp) fun w3 G3 H3 us3 g3 gn3 hp3 dv3 pw3 => ?_
      obtain rfl := pu_vs dv3
      obtain rfl := pw3.int_inv
      have gA : Gr (Mp pu) G H G3 (upd H3 pu (.lst [.int (pb / (many : Int)), .int ps, .int pt, .int pa])) := (((g1.trans g2).trans g3).up).wrM gn3
      refine ret_is (p := dat (.int (r : Int))) (G := G3) (is_d rfl (p2.mono g3.gg)) gA.gh fun v G4 H4 g4 pv => k v G4 H4 (gA.tr0 g4) (PuS.grow ⟨gA.gh, gn3, _, _, _, _, upd_same, hs1, hs2, ht1, by omega, ha1, ha2⟩ g4) ⟨r, hr1, pv.int_inv⟩
    · unfold tNext
      dsimp only
      refine set_is (is_int 0) g1.gh fun w3 G2 H2 g2 p2 => ?_
      obtain rfl := (show DV G2 w3 (.int 0) from p2).int_inv
      have g12 := g1.trans g2
      have e1 : (1 : Int) + ((Builtin.Int.intBits (many : Int) : Nat) : Int) / 28 = ((1 : Nat) : Int) := by
        have h17 := PyProof.Rows.intBits_le (a := (many : Int)) (k := 17) (by omega)
        omega
      refine for_rng (n := 1) (G := G2) (isa_cons (Is.eqd (is_op (is_int 1) (is_op (is_bits (is_d rfl (d1.mono g12.gg))) (is_int 28) (ri_C (g := fun i j => i / j) ⟨by decide, by decide⟩)) ri_addI) (congrArg PyData.int e1)) isa_nil) (by decide) g2.gh (fun i σ' G' H' => (∃ (f : Int), ∃ x4, σ' = [some (.ref pu), some v1, none, some (.int f), x4] ∧ (i = 0 → f = 0)) ∧ Gr (Mp pu) G H G' H' ∧ PuS pu (Tm + i) G' H')
        (fun G3 H3 g3 => ⟨⟨0, _, rfl, fun _ => rfl⟩, (g12.trans g3).up, P0.grow (g12.trans g3)⟩) ?_ ?_
      · rintro i σ' G3 H3 hi zs zg ⟨⟨f, x4, rfl, hf⟩, gM, P3⟩
        obtain rfl := hf (by omega)
        obtain ⟨pb, ps, pt, pa, hp3, hs1, hs2, ht1, ht2, ha1, ha2⟩ := P3.ex
        refine ⟨_, gt_name, fun N hN => ?_⟩
        refine set_hid (d := .int (pt + 1)) (k := 2) (pu_hid P3.s P3.gn hp3) rfl (hid_flat (pu_hid P3.s P3.gn hp3) (flat_int _) fun G4 s4 dl => is_op (is_op (is_d rfl dl) (is_int 2) (ri_ixL (j := 2) rfl rfl)) (is_int 1) ri_addI) (fun G4 _ => is_int 2) (by simp) fun w4 G4 H4 us4 g4 gn4 hp4 dv4 pw4 => ?_
        obtain rfl := pu_vs dv4
        obtain rfl := pw4.int_inv
        have gB : Gr (Mp pu) G H G4 (upd H4 pu (.lst [.int pb, .int ps, .int (pt + 1), .int pa])) := (gM.tr0 g4).wrM gn4
        have O4 := pu_hid gB.gh gn4 (upd_same (o := .lst [.int pb, .int ps, .int (pt + 1), .int pa]))
        obtain ⟨G5, s5, s5h, dl⟩ := O4.show
        have key : Is (tOp rAddU (tOp rMulU (tVar 3) (tC (.int 2147483587))) (tCall (PureSp preMixed) [] E0 (tCons (tOp (rIx K) (tVar 0) (tC (.int 1))) (tCons (tOp (rIx K) (tVar 0) (tC (.int 2))) (tCons (tOp (rIx K) (tVar 0) (tC (.int 3))) tNil))))) [some (.ref pu), some v1, none, some (.int 0), some (.int (i : Int))] G5 (belP 2147483587) :=
          is_op (is_op (is_d rfl (.int 0)) (is_int 2147483587) (ri_mulI (cmul (n := 1) (m := 32) (by decide) (by decide) (by decide)))) (is_call (s := belP 2147483587) (isa_cons (is_op (is_d rfl dl) (is_int 1) (ri_ixL (j := 1) rfl rfl)) (isa_cons (is_op (is_d rfl dl) (is_int 2) (ri_ixL (j := 2) rfl rfl)) (isa_cons (is_op (is_d rfl dl) (is_int 3) (ri_ixL (j := 3) rfl rfl)) isa_nil))) fun vs G6 s6 a => ⟨ps, pt + 1, pa, hs1, hs2, by omega, by omega, ha1, ha2, a, rfl⟩) (ri_belR fun k hk => (ri_addI (i := 0 * 2147483587)).imp fun v G1 pv => ⟨k, hk, by rw [pv.int_inv]; simp⟩)
        refine key G5 _ (Same.refl _) s5h _ fun v G6 H6 g6 pv => ?_
        obtain ⟨fn, hfn, rfl⟩ := pv
        have g6' := g6.hidE O4.s
        exact hN _ G4 H6 g4.gg g6'.gh ⟨⟨(fn : Int), _, rfl, fun h => absurd h (by omega)⟩, gB.tr0 g6', PuS.grow ⟨gB.gh, gn4, _, _, _, _, upd_same, hs1, hs2, by omega, by omega, ha1, ha2⟩ g6'⟩
      · rintro σ' G3 H3 zs zg ⟨⟨f, x4, rfl, hf⟩, gM, P3⟩
        obtain ⟨r, hr1, er⟩ := emod_bel (x := f) (m := many) hm1
        dsimp only
        refine ret_is (p := dat (.int (r : Int))) (G := G3) (Is.eqd (is_op (is_d rfl (.int f)) (is_d rfl (d1.mono (g12.gg.trans zg))) (ri_C (g := fun i j => i % j) (by omega))) (congrArg PyData.int er)) zs fun v G4 H4 g4 pv => k v G4 H4 (gM.tr0 g4) (P3.grow g4) ⟨r, hr1, pv.int_inv⟩

end
end Yd
set_option Elab.async false
set_option linter.all false
set_option maxRecDepth 100000
set_option maxHeartbeats 4000000
namespace Yd
open PySem PySem.Spec L2

open PySem.W (AllAlike Sortable)
def memP (ds : List PyData) : Pm := ⟨fun v G => ∃ d ∈ ds, DV G v d, fun _ _ _ s ⟨d, h1, h2⟩ => ⟨d, h1, h2.mono s⟩⟩
def permP (ds : List PyData) : Pm := ⟨fun v G => ∃ es : List PyData, es.Perm ds ∧ DV G v (.list es), fun _ _ _ s ⟨d, h1, h2⟩ => ⟨d, h1, h2.mono s⟩⟩
def wordP : Pm := ⟨fun v G => ∃ x, KindOk x ∧ v = .str x, fun _ _ _ _ h => h⟩
def kindsP : Pm := ⟨fun v G => ∃ ks : List Str, (∀ k ∈ ks, KindOk k) ∧ 1 ≤ ks.length ∧ ks.length ≤ 8 ∧ DV G v (.list (ks.map .str)), fun _ _ _ s ⟨d, h1, h2, h3, h4⟩ => ⟨d, h1, h2, h3, h4.mono s⟩⟩
def roadsP (n many : Nat) : Pm := ⟨fun v G => ∃ rs : List Road, (∀ r ∈ rs, RoadOk n r) ∧ rs.Nodup ∧ rs.length ≤ many ∧ DV G v (.list (rs.map rd)), fun _ _ _ s ⟨d, h1, h2, h3, h4⟩ => ⟨d, h1, h2, h3, h4.mono s⟩⟩
def webP (most many : Nat) : Pm := ⟨fun v G => ∃ (n : Nat) (rs : List Road), n ≤ most ∧ WebOk n rs ∧ rs.length ≤ many ∧ DV G v (lwD n rs), fun _ _ _ s ⟨n, rs, h1, h2, h3, h4⟩ => ⟨n, rs, h1, h2, h3, h4.mono s⟩⟩
def preOneOf : List V → Hp → Pm → Prop := fun vs G p => ∃ ds, 1 ≤ ds.length ∧ ds.length ≤ 100000 ∧ AllP [dat (.list ds)] vs G ∧ p = memP ds
def preWord : List V → Hp → Pm → Prop := fun vs G p => AllP [] vs G ∧ p = wordP
def preShuf : List V → Hp → Pm → Prop := fun vs G p => ∃ ds, ds.length ≤ 49999 ∧ AllP [dat (.list ds)] vs G ∧ p = permP ds
def preKinds : List V → Hp → Pm → Prop := fun vs G p => ∃ m : Nat, 1 ≤ m ∧ m ≤ 8 ∧ AllP [dat (.int (m : Int))] vs G ∧ p = kindsP
def preRoads2 : List V → Hp → Pm → Prop := fun vs G p => ∃ (n : Nat) (ks : List Str) (many : Nat), n ≤ 1000 ∧ (∀ k ∈ ks, KindOk k) ∧ ks.length ≤ 1000 ∧ many ≤ 30 ∧ AllP [dat (.int (n : Int)), dat (.list (ks.map .str)), dat (.int (many : Int))] vs G ∧ p = roadsP n many
def preSmall : List V → Hp → Pm → Prop := fun vs G p => ∃ (ks : List Str) (most many : Nat), (∀ k ∈ ks, KindOk k) ∧ ks.length ≤ 1000 ∧ 1 ≤ most ∧ most ≤ 999 ∧ many ≤ 29 ∧ AllP [dat (.list (ks.map .str)), dat (.int (most : Int)), dat (.int (many : Int))] vs G ∧ p = webP most many
section
variable {G H G' H' G2 H2 : Hp} {l pu : Addr} {T i j k n c c1 c2 : Nat} {σ : L2.St} {te ti ta tb : TE} {tl : TA} {d : PyData} {ds : List PyData} {p q s : Pm} {ps : List Pm} {D : Ends} {K : PySem.W.Frag}
/-- a list of one's own beside a purse -/
structure OwnM (pu : Addr) (G H G' H' : Hp) (l : Addr) (ds : List PyData) : Prop where
  g : Gr (Mp pu) G H G' H'
  ne : l ≠ pu
  h0 : H l = none
  gn : G' l = none
  ex : ∃ vs, H' l = some (.lst vs) ∧ DVs G' vs ds
theorem OwnM.hid (O : OwnM pu G H G' H' l ds) : Hid G' H' l ds := ⟨O.g.gh, O.gn, O.ex⟩
theorem OwnM.start (g : Gr (Mp pu) G H G' H') (P : PuS pu T G' H') (h : H' l = none) : OwnM pu G H G' (upd H' l (.lst [])) l [] := by
  obtain ⟨b, s, t, a, h1, _⟩ := P.ex
  exact ⟨g.wr (.inl (g.th _ h)) (g.gh.free h), fun e => (by rw [e, h1] at h; cases h), g.th _ h, g.gh.free h, [], upd_same, .nil⟩
theorem OwnM.grow (O : OwnM pu G H G' H' l ds) (g : Gr (Mp pu) G' H' G2 H2) : OwnM pu G H G2 H2 l ds := by
  obtain ⟨vs, h1, h2⟩ := O.ex
  exact ⟨O.g.trans g, O.ne, O.h0, g.out O.gn h1, vs, g.hh _ _ h1 O.ne, h2.mono g.gg⟩
theorem OwnM.fin (O : OwnM pu G H G' H' l ds) : ∃ G2, Gr (Mp pu) G H G2 H' ∧ DV G2 (.ref l) (.list ds) ∧ Same G' G2 ∧ G2 pu = G' pu := by
  obtain ⟨vs, h1, h2⟩ := O.ex
  have s := same_upd (o := .lst vs) O.gn
  exact ⟨upd G' l (.lst vs), O.g.sho O.h0 h1, .lst upd_same (h2.mono s), s, upd_ne (Ne.symm O.ne)⟩
theorem PuS.wr (P : PuS pu T G H) (hl : l ≠ pu) (hg : G l = none) {o : HO} : PuS pu T G (upd H l o) := ⟨fun b u e => by
  rw [upd_ne (fun z => by subst z; rw [hg] at e; cases e)]; exact P.s b u e, P.gn, by rw [upd_ne (Ne.symm hl)]; exact P.ex⟩
theorem PuS.sho (P : PuS pu T G H) (s : Same G2 H) (e : G2 pu = none) : PuS pu T G2 H := ⟨s, e, P.ex⟩
theorem dr_slice {r : V → Option Int → Option Int → Hp → VK → Prop} {tlo thi : TO} (h : Dr te σ pu c G p) (hx : ∀ v G1, Same G G1 → p.P v G1 → Is (tSl r (tC v) tlo thi) σ G1 s) : Dr (tSl r te tlo thi) σ pu c G s := fun G1 H1 T s1 P hT Q k =>
  h G1 H1 T s1 P hT _ fun v G2 H2 g2 P2 pv => hx v G2 (s1.trans g2.gg) pv G2 H2 (Same.refl _) g2.gh Q fun u G3 H3 g3 pu' => k u G3 H3 (g2.tr0 g3) (P2.grow g3) pu'
theorem dr_tupX {R : List PyData → Prop} (h : DrA tl σ pu c G ps) (hx : ∀ vs G1, AllP ps vs G1 → ∃ ds, DVs G1 vs ds ∧ ds.length ≤ 100000 ∧ R ds) (hs : ∀ v G1, (∃ ds, R ds ∧ DV G1 v (.tuple ds)) → s.P v G1) : Dr (tTup tl) σ pu c G s := fun G1 H1 T s1 P hT Q k =>
  h G1 H1 T s1 P hT _ fun xs G2 H2 g2 P2 px => by
    obtain ⟨ds, dv, hz, hr⟩ := hx xs G2 px
    refine ⟨by rw [dv.length]; exact sz_of hz, fun a ha => ?_⟩
    have g3 : Gr0 G2 H2 (upd G2 a (.tup xs)) (upd H2 a (.tup xs)) := .new g2.gh ha
    exact k _ _ _ (g2.tr0 g3) (P2.grow g3) (hs _ _ ⟨ds, hr, .tup upd_same (dv.mono g3.gg)⟩)
theorem dr_lstX {R : List PyData → Prop} (h : DrA tl σ pu c G ps) (hx : ∀ vs G1, AllP ps vs G1 → ∃ ds, DVs G1 vs ds ∧ ds.length ≤ 100000 ∧ R ds) (hs : ∀ v G1, (∃ ds, R ds ∧ DV G1 v (.list ds)) → s.P v G1) : Dr (tLst tl) σ pu c G s := fun G1 H1 T s1 P hT Q k =>
  h G1 H1 T s1 P hT _ fun xs G2 H2 g2 P2 px => by
    obtain ⟨ds, dv, hz, hr⟩ := hx xs G2 px
    refine ⟨by rw [dv.length]; exact sz_of hz, fun a ha => ?_⟩
    have g3 : Gr0 G2 H2 (upd G2 a (.lst xs)) (upd H2 a (.lst xs)) := .new g2.gh ha
    exact k _ _ _ (g2.tr0 g3) (P2.grow g3) (hs _ _ ⟨ds, hr, .lst upd_same (dv.mono g3.gg)⟩)
theorem asg_pairD (ha : Dr ta σ pu c1 G p) (hb : Dr tb σ pu c2 G q) (P : PuS pu T G H) (hT : T + (c1 + c2) ≤ LT) (k : ∀ v w G2 H2, Gr (Mp pu) G H G2 H2 → PuS pu (T + (c1 + c2)) G2 H2 → p.P v G2 → q.P w G2 → D.nx ((σ.set i (some v)).set j (some w)) H2) :
    tAsg (tTup (tCons ta (tCons tb tNil))) (gTup K 2 (gCons (gName i) (gCons (gName j) gNil))) D σ H := by
  have key : tCons ta (tCons tb tNil) σ H (fun vs H1 => vs.length ≤ sizeLine ∧ ∀ a, H1 a = none → gTup K 2 (gCons (gName i) (gCons (gName j) gNil)) (.ref a) σ (upd H1 a (.tup vs)) D.nx) := (dra_cons ha (dra_cons hb dra_nil)) G H T (Same.refl _) P hT _ fun vs G2 H2 g2 P2 pv => by
    obtain ⟨v, w, rfl, hv, hw⟩ := allp2 pv
    refine ⟨by show 2 ≤ sizeLine; decide, fun a ha => ?_⟩
    have g3 : Gr0 G2 H2 (upd G2 a (.tup [v, w])) (upd H2 a (.tup [v, w])) := .new g2.gh ha
    exact gt_tup2 (G := upd G2 a (.tup [v, w])) upd_same _ g3.gh _ (k v w _ _ (g2.tr0 g3) (P2.grow g3) (p.mono _ _ _ g3.gg hv) (q.mono _ _ _ g3.gg hw))
  exact key
theorem dr_len {xs : List PyData} {E : XK} (hσ0 : σ[0]? = some (some (.ref pu))) (h : Is te σ G (dat (.list xs))) (h1 : 1 ≤ xs.length) (h2 : xs.length ≤ 100000) : Dr (tCall (PurseSp 1 preDraw) [] E (tCons (tVar 0) (tCons (tCB (fun xs H Q => ∃ x n, xs = [x] ∧ LenV K x H n ∧ Q (.int n) H) (tCons te tNil)) tNil))) σ pu 1 G (belP xs.length) :=
  (dr_call (c1 := 0) (s := belP xs.length) hσ0 (dra_of (isa_cons (is_cb (isa_cons h isa_nil) rc_lenL) isa_nil)) fun us G1 s1 a => ⟨_, ⟨xs.length, h1, h2, a, rfl⟩, fun v G2 h => h⟩).up (by omega)
theorem dr_draw {m : Nat} {E : XK} (hσ0 : σ[0]? = some (some (.ref pu))) (h : Is te σ G (dat (.int (m : Int)))) (h1 : 1 ≤ m) (h2 : m ≤ 100000) : Dr (tCall (PurseSp 1 preDraw) [] E (tCons (tVar 0) (tCons te tNil))) σ pu 1 G (belP m) :=
  (dr_call (c1 := 0) (s := belP m) hσ0 (dra_of (isa_cons h isa_nil)) fun us G1 s1 a => ⟨_, ⟨m, h1, h2, a, rfl⟩, fun v G2 h => h⟩).up (by omega)
theorem rc_int1 {b : Bool} : RC (fun xs H Q => (∃ i, xs = [.int i] ∧ Q (.int i) H) ∨ ∃ k, xs = [.bl k] ∧ Q (.int (if k then 1 else 0)) H) [dat (.bool b)] G (dat (.int (if b = true then 1 else 0))) := fun vs G1 H1 s1 s2 pv Q k => by
  obtain ⟨v, rfl, hv⟩ := allp1 pv
  obtain rfl := (show DV G1 v (.bool b) from hv).bl_inv
  exact .inr ⟨b, rfl, k _ G1 H1 (.refl s2) (.int _)⟩
end
theorem ins_perm {α : Type} (es : List α) (r : Nat) (d : α) : (es.take r ++ [d] ++ es.drop r).Perm (es ++ [d]) := by
  rw [List.append_assoc]
  refine List.perm_middle.trans ?_
  show (d :: (es.take r ++ es.drop r)).Perm _
  rw [List.take_append_drop]
  exact List.perm_append_singleton d es |>.symm
theorem strs_of {es : List PyData} {ks : List Str} (hk : ∀ k ∈ ks, KindOk k) (h : ∀ d ∈ es, d ∈ ks.map PyData.str) : ∃ js : List Str, es = js.map .str ∧ ∀ k ∈ js, KindOk k := by
  induction es with
  | nil => exact ⟨[], rfl, fun k h => absurd h List.not_mem_nil⟩
  | cons d es ih =>
    obtain ⟨js, rfl, hj⟩ := ih fun e he => h e (List.mem_cons_of_mem _ he)
    obtain ⟨k, hk1, rfl⟩ := List.mem_map.mp (h d List.mem_cons_self)
    exact ⟨k :: js, rfl, fun x hx => by
      rcases List.mem_cons.mp hx with rfl | hx
      · exact hk x hk1
      · exact hj x hx⟩
theorem alike_strs (ks : List Str) : AllAlike (ks.map PyData.str) := AllAlike.of fun a b => by simp [PySem.W.alike]
theorem sortable_strs (ks : List Str) : Sortable (ks.map PyData.str) := Sortable.others fun a => ⟨by simp, fun xs => by simp⟩
section
variable {P : Program} {w : World} {K : PySem.W.Frag} {mg : Str → Option Value} {base : Heap}
theorem sc_lone_of : FnScope ["_law_purse_here", "_law_some"] ["_law_purse_here", "_law_some"] (defScope (top 44)) := ⟨rfl, rfl, rfl, by decide +kernel, rfl, by decide +kernel, by decide +kernel⟩
theorem has_lone_of (T : Tx K mg) : Has P w K mg base CX0 3 "_law_one_of" ["_law_purse_here", "_law_some"] (PurseSp 1 preOneOf) := by
  refine T.has 29 (fun fd F => F.ok sc_lone_of (fun vs H Q E h => ?_) fun cdv A outer s H vs Q E hr h => ?_) (fun fd F => F.bindsN fun _ _ _ _ _ _ us hl => match us, hl with | [_, _], _ => rfl)
  · obtain ⟨G, pu, us, T, p, rfl, _, _, ⟨_, _, _, a, _⟩, _⟩ := h; exact congrArg Nat.succ a.len
  · obtain ⟨G, pu, us, Tm, p, rfl, P0, hT, ⟨ds, h1, h2, a, rfl⟩, k⟩ := h
    obtain ⟨v1, rfl, d1⟩ := allp1 a
    refine ⟨_, PSs.nox (pss_one (ps_ret (pe_ix (ix_seqK (K := K) rfl) (pv 1) (pe_callH (has_ldraw T) (hr.mono (by decide)) pass0 (pa_cons (pv 0) (pa_cons (pe_callB (call_lenK (K := K) rfl) (by rfl) (T.free "len") (by decide +kernel) (pa_cons (pv 1) (pa_nil))) (pa_nil)))) (fun _ _ => rfl)))), ?_⟩
    refine ret_dr (p := memP ds) (c := 0 + 1) (dr_op (Dr.of (is_d rfl d1)) (dr_len rfl (is_d rfl d1) h1 h2) (ri_belR fun m hm => ?_)) P0 (by omega) fun v G2 H2 g2 P2 pv => k v G2 H2 g2 (P2.up (by omega)) pv
    obtain ⟨d, hd⟩ : ∃ d, ds[m]? = some d := ⟨_, List.getElem?_eq_getElem hm⟩
    exact (ri_ixL (j := m) rfl hd).imp fun v G1 hv => ⟨d, List.mem_of_getElem? hd, hv⟩

theorem sc_lshuffled : FnScope ["_law_purse_here", "_law_some", "_law_found", "_law_item"] ["_law_purse_here", "_law_some"] (defScope (top 45)) := ⟨rfl, rfl, rfl, by decide +kernel, rfl, by decide +kernel, by decide +kernel⟩
theorem has_lshuffled (T : Tx K mg) : Has P w K mg base CX0 3 "_law_shuffled" ["_law_purse_here", "_law_some"] (PurseSp 50000 preShuf) := by
  refine T.has 30 (fun fd F => F.ok sc_lshuffled (fun vs H Q E h => ?_) fun cdv A outer s H vs Q E hr h => ?_) (fun fd F => F.bindsN fun _ _ _ _ _ _ us hl => match us, hl with | [_, _], _ => rfl)
  · obtain ⟨G, pu, us, T, p, rfl, _, _, ⟨_, _, a, _⟩, _⟩ := h; exact congrArg Nat.succ a.len
  · obtain ⟨G, pu, us, Tm, p, rfl, P0, hT, ⟨ds, h1, a, rfl⟩, k⟩ := h
    obtain ⟨v1, rfl, d1⟩ := allp1 a
    refine ⟨_, PSs.nox (pss_cons (ps_set (i := 2) sc_lshuffled.nd rfl (by first | exact Or.inl rfl | exact Or.inr rfl) (pe_lst (pa_nil)))
      (pss_cons (ps_for PassesOwn.never rfl (pi_listK (K := K) rfl (pv 1)) (pg_name (i := 3) sc_lshuffled.nd rfl (by first | exact Or.inl rfl | exact Or.inr rfl)) (pss_one (ps_expr (pe_bm PySem.F.plainAttrs_list PySem.F.slot_list_insert PySem.F.type_list_insert mt_insert (pv 2) (pa_cons (pe_callH (has_ldraw T) (hr.mono (by decide)) pass0 (pa_cons (pv 0) (pa_cons (pe_op op_addU (pe_callB (call_lenK (K := K) rfl) (by rfl) (T.free "len") (by decide +kernel) (pa_cons (pv 2) (pa_nil))) (pe_int)) (pa_nil)))) (pa_cons (pv 3) (pa_nil)))))))
      (pss_one (ps_ret (pv 2))))), ?_⟩
    refine ⟨Nat.zero_le _, fun l hl => ?_⟩
    have O0 : OwnM pu G H G (upd H l (.lst [])) l [] := OwnM.start (.refl P0.s) P0 hl
    have P1 : PuS pu Tm G (upd H l (.lst [])) := P0.wr O0.ne O0.gn
    refine for_dat (ds := ds) (G := G) (is_d rfl d1) O0.g.gh (fun i σ' G' H' => (∃ x3 es, σ' = [some (.ref pu), some v1, some (.ref l), x3] ∧ OwnM pu G H G' H' l es ∧ es.Perm (ds.take i)) ∧ PuS pu (Tm + i) G' H')
      (fun G1 H1 g1 => ⟨⟨_, [], rfl, O0.grow g1.up, .refl _⟩, P1.grow g1⟩) ?_ ?_
    · rintro i x d σ' G' H' hi hx zs zg ⟨⟨x3, es, rfl, O, hp⟩, P⟩
      have hil := (List.getElem?_eq_some_iff.mp hi).1
      have hel : es.length = i := by rw [hp.length_eq, List.length_take]; omega
      refine ⟨_, gt_name, fun N hN => ?_⟩
      obtain ⟨vs, hv1, hv2⟩ := O.ex
      refine ⟨_, rfl, .inl ⟨rfl, _, SqL.of hv1⟩, _, rfl, ?_⟩
      refine hid_flat (d := .int ((es.length + 1 : Nat) : Int)) O.hid (flat_int _) (fun G1 s1 dl => Is.eqd (is_op (is_cb (isa_cons (is_d (i := 2) rfl dl) isa_nil) rc_lenL) (is_int 1) ri_addI) (congrArg PyData.int (by omega))) _ fun w G1 H1 g1 pw => ?_
      refine ⟨G1, pu, [w], Tm + i, belP (es.length + 1), rfl, P.grow g1, by omega, ⟨es.length + 1, by omega, by omega, ⟨_, _, rfl, pw, rfl⟩, rfl⟩, fun v G2 H2 g2 P2 pv => ?_⟩
      obtain ⟨r, hr1, rfl⟩ := pv
      have O2 := (O.grow g1.up).grow g2
      obtain ⟨us, hu1, hu2⟩ := O2.ex
      have hx2 := hx.mono (g1.gg.trans g2.gg)
      refine ⟨_, rfl, l, us, (r : Int), x, rfl, rfl, hu1, ?_, by omega, by omega, ?_⟩
      · rw [hu2.length]; exact sz_lt (by omega)
      · rw [Int.toNat_natCast]
        have g3 : Gr (Mp pu) G H G2 (upd H2 l (.lst (us.take r ++ [x] ++ us.drop r))) := O2.g.wr (.inl O2.h0) O2.gn
        refine hN _ G2 _ (g1.gg.trans g2.gg) g3.gh ⟨⟨_, es.take r ++ [d] ++ es.drop r, rfl, ⟨g3, O2.ne, O2.h0, O2.gn, _, upd_same, ((hu2.take r).append (.one hx2)).append (hu2.drop r)⟩, ?_⟩, (P2.up (by omega)).wr O2.ne O2.gn⟩
        rw [List.take_succ, hi]
        exact (ins_perm es r d).trans (hp.append_right _)
    · rintro σ' G' H' zs zg ⟨⟨x3, es, rfl, O, hp⟩, P⟩
      rw [List.take_length] at hp
      obtain ⟨G2, g2, dv, s2, e2⟩ := O.fin
      exact ⟨_, rfl, k _ G2 H' g2 ((P.up (by omega)).sho g2.gh (e2.trans P.gn)) ⟨es, hp, dv⟩⟩

end
end Yd
set_option Elab.async false
set_option linter.all false
set_option maxRecDepth 100000
set_option maxHeartbeats 4000000
namespace Yd
open PySem PySem.Spec L2

open PySem.W (AllAlike Sortable)
def lettersOk (x : Str) : Prop := ∀ c ∈ x.cps.toList, 97 ≤ c ∧ c ≤ 122
def textP (n : Nat) : Pm := ⟨fun v _ => ∃ x : Str, x.length = n ∧ lettersOk x ∧ v = .str x, fun _ _ _ _ h => h⟩
def charP : Pm := ⟨fun v _ => ∃ c : Nat, 97 ≤ c ∧ c ≤ 122 ∧ v = .str ⟨#[c]⟩, fun _ _ _ _ h => h⟩
def someLen (m : Nat) : Pm := ⟨fun v _ => ∃ n : Nat, 1 ≤ n ∧ n ≤ m ∧ v = .int (n : Int), fun _ _ _ _ h => h⟩
theorem ri_letters {K : PySem.W.Frag} {G : Hp} : RI (rIx K) (dat (.str letters)) (belP 26) G charP := ri_belR fun k hk => fun x y G1 H1 s1 s2 px py Q kk => by
  obtain rfl := (show DV G1 x (.str letters) from px).str_inv
  obtain rfl := (show DV G1 y (.int k) from py).int_inv
  refine .inr (.inr ⟨letters, (k : Int), 97 + k, rfl, rfl, by decide +kernel, ?_, kk _ G1 H1 (.refl s2) ⟨97 + k, by omega, by omega, rfl⟩⟩)
  refine atI_nat ?_
  rw [letters_eq, List.getElem?_range' hk, Nat.one_mul]
theorem ri_addC {G : Hp} {x : Str} {n : Nat} (h1 : x.length = n) (h2 : lettersOk x) (hn : n ≤ 1000) : RI rAddU (dat (.str x)) charP G (textP (n + 1)) := fun a y G1 H1 s1 s2 px py Q k => by
  obtain ⟨c, hc1, hc2, rfl⟩ := py
  have hl : (⟨#[c]⟩ : Str).length = 1 := rfl
  refine ri_addS (x := x) (y := ⟨#[c]⟩) (by rw [h1, hl]; exact Nat.le_trans (by omega : n + 1 ≤ 1001) (by rw [sizeLine_eq]; decide)) a _ G1 H1 s1 s2 px (.str _) Q fun v G2 H2 g2 pv => k v G2 H2 g2 ⟨x ++ ⟨#[c]⟩, ?_, ?_, pv.str_inv⟩
  · show (x.cps ++ #[c]).size = n + 1
    rw [Array.size_append]
    show x.length + 1 = n + 1
    rw [h1]
  · intro d hd
    have hd' : d ∈ (x.cps ++ #[c]).toList := hd
    rw [Array.toList_append] at hd'
    rcases List.mem_append.mp hd' with hd' | hd'
    · exact h2 d hd'
    · rw [List.mem_singleton.mp hd']; exact ⟨hc1, hc2⟩
def K7 : List Str := ["r", "road", "s", "from", "lane", "a", "zzzzzzzz"]
theorem k7_ok : ∀ k ∈ K7, KindOk k := by
  have h : K7.all (fun k => decide (1 ≤ k.length) && decide (k.length ≤ 8) && k.cps.toList.all fun c => decide (97 ≤ c) && decide (c ≤ 122)) = true := by decide +kernel
  intro k hk
  have := List.all_eq_true.mp h k hk
  simp only [Bool.and_eq_true, decide_eq_true_eq, List.all_eq_true] at this
  exact ⟨this.1.1, this.1.2, this.2⟩
theorem rc_sortK {G : Hp} : RC rSortD [kindsP] G kindsP := fun vs G1 H1 s1 s2 pv Q k => by
  obtain ⟨v, rfl, hv⟩ := allp1 pv
  obtain ⟨ks, h1, h2, h3, dv⟩ := hv
  have hp : (dsort (ks.map PyData.str)).Perm (ks.map PyData.str) := dsort_perm _
  obtain ⟨js, ej, hj⟩ := strs_of h1 (es := dsort (ks.map PyData.str)) fun d hd => hp.mem_iff.mp hd
  have hl := hp.length_eq
  rw [ej, List.length_map, List.length_map] at hl
  refine rc_sortD (G := G1) (alike_strs ks) (sortable_strs ks) (fun d hd => ?_) (by rw [List.length_map]; omega) [v] G1 H1 (Same.refl _) s2 ⟨v, [], rfl, dv, rfl⟩ Q fun u G2 H2 g2 pu => k u G2 H2 g2 ⟨js, hj, by omega, by omega, ej ▸ pu⟩
  obtain ⟨x, _, rfl⟩ := List.mem_map.mp hd
  exact ⟨by simp [PyData.hasDict], by simp [PyData.depth]⟩
theorem kinds_slice {K : PySem.W.Frag} {σ : L2.St} {G : Hp} {v : V} {i : Nat} {ks : List Str} {m : Nat} (hk : ∀ k ∈ ks, KindOk k) (h7 : 1 ≤ ks.length) (h8 : ks.length ≤ 8) (hm : 1 ≤ m) (hp : (permP (ks.map PyData.str)).P v G) (hσ : σ[i]? = some (some (.int (m : Int)))) : Is (tSl (rSlL K) (tC v) tNoPart (tPart (tVar i))) σ G kindsP := by
  obtain ⟨es, hp, dv⟩ := hp
  obtain ⟨js, rfl, hj⟩ := strs_of hk (es := es) fun d hd => hp.mem_iff.mp hd
  have hl := hp.length_eq
  rw [List.length_map, List.length_map] at hl
  refine (is_slice (hi := some (m : Int)) (lo := none) (is_c (p := dat (.list (js.map .str))) dv) (fun G1 H1 s1 s2 Q k => ip_none s1 s2 Q k) (fun G1 H1 s1 s2 Q k => ip_some (is_d (d := .int (m : Int)) hσ (.int _)) s1 s2 Q k)).imp fun u G1 s1 hu => ⟨js.take (min m js.length), fun k hk => hj k (List.mem_of_mem_take hk), ?_, ?_, ?_⟩
  · rw [List.length_take]; omega
  · rw [List.length_take]; omega
  · have e : (((js.map PyData.str).drop (HT.sIx (js.map PyData.str).length 0 none)).take (HT.sIx (js.map PyData.str).length (js.map PyData.str).length (some (m : Int)) - HT.sIx (js.map PyData.str).length 0 none)) = (js.take (min m js.length)).map .str := by
      rw [HT.sIx_nat, HT.sIx_none, Nat.sub_zero, List.drop_zero, List.length_map, List.map_take]
    rw [← e]; exact hu
section
variable {P : Program} {w : World} {K : PySem.W.Frag} {mg : Str → Option Value} {base : Heap}
theorem sc_lword : FnScope ["_law_purse_here", "_law_found", "_law_turn"] ["_law_purse_here"] (defScope (top 46)) := ⟨rfl, rfl, rfl, by decide +kernel, rfl, by decide +kernel, by decide +kernel⟩
theorem has_lword (T : Tx K mg) : Has P w K mg base CX0 3 "_law_word" ["_law_purse_here"] (PurseSp 10 preWord) := by
  refine T.has 31 (fun fd F => F.ok sc_lword (fun vs H Q E h => ?_) fun cdv A outer s H vs Q E hr h => ?_) (fun fd F => F.bindsN fun _ _ _ _ _ _ us hl => match us, hl with | [_], _ => rfl)
  · obtain ⟨G, pu, us, T, p, rfl, _, _, ⟨a, _⟩, _⟩ := h; exact congrArg Nat.succ a.len
  · obtain ⟨G, pu, us, Tm, p, rfl, P0, hT, ⟨a, rfl⟩, k⟩ := h
    obtain rfl : us = [] := a
    refine ⟨_, PSs.nox (pss_cons (ps_set (i := 1) sc_lword.nd rfl (by first | exact Or.inl rfl | exact Or.inr rfl) (pe_str))
      (pss_cons (ps_for PassesOwn.never rfl (pi_range1 rfl (T.free "range") (pa_cons (pe_op op_addU (pe_int) (pe_callH (has_ldraw T) (hr.mono (by decide)) pass0 (pa_cons (pv 0) (pa_cons (pe_int) (pa_nil))))) (pa_nil))) (pg_name (i := 2) sc_lword.nd rfl (by first | exact Or.inl rfl | exact Or.inr rfl)) (pss_one (ps_set (i := 1) sc_lword.nd rfl (by first | exact Or.inl rfl | exact Or.inr rfl) (pe_op op_addU (pv 1) (pe_ix (ix_seqK (K := K) rfl) (pe_str) (pe_callH (has_ldraw T) (hr.mono (by decide)) pass0 (pa_cons (pv 0) (pa_cons (pe_int) (pa_nil)))) (fun _ _ => rfl))))))
      (pss_one (ps_ret (pv 1))))), ?_⟩
    refine set_is (is_str (Str.ofString "")) P0.s fun w1 G1 H1 g1 p1 => ?_
    obtain rfl := (show DV G1 w1 (.str _) from p1).str_inv
    have P1 := P0.grow g1
    refine dr_for_rng (c := 0 + 1) (p := someLen 8) (dr_op (Dr.of (is_int 1)) (dr_draw (m := 8) rfl (is_int 8) (by decide) (by decide)) (ri_belR fun m hm => (ri_addI (i := 1)).imp fun v G2 hv => ⟨1 + m, by omega, by omega, by rw [hv.int_inv]; simp⟩)) P1 (by omega) fun vn G2 H2 g2 P2 pn => ?_
    obtain ⟨n, hn1, hn2, rfl⟩ := pn
    refine for_rng (n := n) (G := G2) (isa_cons (is_c (p := dat (.int (n : Int))) (.int _)) isa_nil) (by omega) g2.gh (fun i σ' G' H' => (∃ x, ∃ x2, σ' = [some (.ref pu), some (.str x), x2] ∧ x.length = i ∧ lettersOk x) ∧ Gr (Mp pu) G H G' H' ∧ PuS pu (Tm + 1 + i) G' H')
      (fun G3 H3 g3 => ⟨⟨_, _, rfl, rfl, fun c hc => by cases hc⟩, (g1.up.trans g2).tr0 g3, (P2.grow g3).up (by omega)⟩) ?_ ?_
    · rintro i σ' G3 H3 hi zs zg ⟨⟨x, x2, rfl, hx1, hx2⟩, gM, P3⟩
      refine ⟨_, gt_name, fun N hN => ?_⟩
      refine set_dr (c := 0 + (0 + 1)) (p := textP (i + 1)) (dr_op (Dr.of (is_d rfl (.str x))) (dr_op (Dr.of (is_str letters)) (dr_draw (m := 26) rfl (is_int 26) (by decide) (by decide)) ri_letters) (ri_addC hx1 hx2 (by omega))) P3 (by omega) fun v G4 H4 g4 P4 pv => ?_
      obtain ⟨y, hy1, hy2, rfl⟩ := pv
      exact hN _ G4 H4 g4.gg g4.gh ⟨⟨y, _, rfl, hy1, hy2⟩, gM.trans g4, P4.up (by omega)⟩
    · rintro σ' G3 H3 zs zg ⟨⟨x, x2, rfl, hx1, hx2⟩, gM, P3⟩
      exact ⟨_, rfl, k _ G3 H3 gM (P3.up (by omega)) ⟨x, ⟨by omega, by omega, hx2⟩, rfl⟩⟩

theorem sc_lkinds_of : FnScope ["_law_purse_here", "_law_many", "_law_some", "_law_fresh", "_law_word_here"] ["_law_purse_here", "_law_many"] (defScope (top 47)) := ⟨rfl, rfl, rfl, by decide +kernel, rfl, by decide +kernel, by decide +kernel⟩
theorem has_lkinds_of (T : Tx K mg) : Has P w K mg base CX0 4 "_law_kinds_of" ["_law_purse_here", "_law_many"] (PurseSp 60000 preKinds) := by
  refine T.has 32 (fun fd F => F.ok sc_lkinds_of (fun vs H Q E h => ?_) fun cdv A outer s H vs Q E hr h => ?_) (fun fd F => F.bindsN fun _ _ _ _ _ _ us hl => match us, hl with | [_, _], _ => rfl)
  · obtain ⟨G, pu, us, T, p, rfl, _, _, ⟨_, _, _, a, _⟩, _⟩ := h; exact congrArg Nat.succ a.len
  · obtain ⟨G, pu, us, Tm, p, rfl, P0, hT, ⟨m, hm1, hm2, a, rfl⟩, k⟩ := h
    obtain ⟨v1, rfl, d1⟩ := allp1 a
    obtain rfl := (show DV G v1 (.int _) from d1).int_inv
    refine ⟨_, PSs.nox (pss_cons (ps_asg (pe_tup (pa_cons (pe_lst (pa_cons (pe_str) (pa_cons (pe_str) (pa_cons (pe_str) (pa_cons (pe_str) (pa_cons (pe_str) (pa_cons (pe_str) (pa_cons (pe_str) (pa_nil))))))))) (pa_cons (pe_callH (has_lword T) (hr.mono (by decide)) pass0 (pa_cons (pv 0) (pa_nil))) (pa_nil)))) (pg_tupK (K := K) (n := 2) rfl rfl (pgs_cons (pg_name (i := 2) sc_lkinds_of.nd rfl (by first | exact Or.inl rfl | exact Or.inr rfl)) (pgs_cons (pg_name (i := 3) sc_lkinds_of.nd rfl (by first | exact Or.inl rfl | exact Or.inr rfl)) (pgs_nil)))))
      (pss_one (ps_ret (pe_callB (cr_sortD (un70 hr)) (by rfl) (T.free "sorted") (by decide +kernel) (pa_cons (pe_slice (sl_listK (K := K) rfl) (pe_callH (has_lshuffled T) (hr.mono (by decide)) pass0 (pa_cons (pv 0) (pa_cons (pe_op op_addU (pv 2) (pe_lc (own := [("_law_word_here", 4)]) rfl sc_lkinds_of.nd (pi_listK (K := K) rfl (pe_lst (pa_cons (pv 3) (pa_nil)))) (blkOk_by (by rfl)) (fun _ _ _ _ _ => pg_name (i := 4) sc_lkinds_of.nd rfl (by first | exact Or.inl rfl | exact Or.inr rfl)) (fun _ _ _ _ _ => pts_one (pt_cmpR (op_notInDK (K := K) rfl (un70 hr)) (pv 4) (pv 2) (by rfl))) (fun _ _ _ _ _ => pv 4))) (pa_nil)))) (po_none) (po_some (pv 1))) (pa_nil)))))), ?_⟩
    refine asg_pairD (c1 := 0) (c2 := 0 + 10) (p := dat (.list (K7.map .str))) (q := wordP) (Dr.of (is_lst (ds := K7.map .str) (isa_cons (is_str _) (isa_cons (is_str _) (isa_cons (is_str _) (isa_cons (is_str _) (isa_cons (is_str _) (isa_cons (is_str _) (isa_cons (is_str _) isa_nil))))))) (by decide))) (dr_call (s := wordP) rfl dra_nil fun us G1 s1 a => ⟨wordP, ⟨a, rfl⟩, fun v G2 h => h⟩) P0 (by omega) fun v2 v3 G1 H1 g1 P1 p2 p3 => ?_
    obtain ⟨x, hx, rfl⟩ := p3
    have hks : ∀ k ∈ K7 ++ [x].filter fun y => !((K7.map PyData.str).any fun z => PyData.eqv z (.str y)), KindOk k := fun k hk => by
      rcases List.mem_append.mp hk with hk | hk
      · exact k7_ok k hk
      · rw [List.mem_singleton.mp (List.mem_filter.mp hk).1]; exact hx
    have hfl := List.length_filter_le (fun y => !((K7.map PyData.str).any fun z => PyData.eqv z (.str y))) [x]
    simp only [List.length_cons, List.length_nil] at hfl
    have h7 : K7.length = 7 := rfl
    have sd7 : SeqAt.shaped (.list (K7.map PyData.str)) = true := Sd.sh (n := 3) (sd_list fun d hd => by
      obtain ⟨y, hy, rfl⟩ := List.mem_map.mp hd
      exact sd_str (k7_ok y hy).sok)
    refine ret_dr (p := kindsP) (c := 0 + 50000 + 0) (dr_cb (dra_cons (dr_slice (s := kindsP) (dr_call (s := permP ((K7 ++ [x].filter fun y => !((K7.map PyData.str).any fun z => PyData.eqv z (.str y))).map .str)) rfl (dra_of (isa_cons (Is.eqd (is_op (is_d rfl p2) (is_lcA PyData.str (xs := [x]) (p := fun y => !((K7.map PyData.str).any fun z => PyData.eqv z (.str y))) (q := PyData.str) (is_lst (ds := [.str x]) (isa_cons (is_d rfl (.str x)) isa_nil) (by simp)) (by simp) fun w y G2 hy s2 hw => ⟨_, gt_name, rfl, ist_test (is_op (is_d rfl hw) (is_d rfl (p2.mono s2)) (ri_notInD (Sd.sh (n := 1) (sd_str (by rw [List.mem_singleton.mp hy]; exact hx.sok))) sd7)), fun _ => is_d rfl hw⟩) (ri_addL ?_)) (congrArg PyData.list List.map_append.symm)) isa_nil)) fun us G2 s2 a => ⟨_, ⟨_, ?_, a, rfl⟩, fun v G3 h => h⟩) fun v G2 s2 pv => kinds_slice hks ?_ ?_ hm1 pv rfl) dra_nil) rc_sortK) P1 (by omega) fun v G2 H2 g2 P2 pv => k v G2 H2 (g1.trans g2) (P2.up (by omega)) pv
    · rw [List.length_map, List.length_map, h7]; omega
    · rw [List.length_append, h7]; omega
    · rw [List.length_append, h7]; omega
    · rw [List.length_map, List.length_append, h7]; omega

theorem sc_lroads : FnScope ["_law_purse_here", "_law_size", "_law_kinds", "_law_many", "_law_found", "_law_turn", "_law_road"] ["_law_purse_here", "_law_size", "_law_kinds", "_law_many"] (defScope (top 48)) := ⟨rfl, rfl, rfl, by decide +kernel, rfl, by decide +kernel, by decide +kernel⟩
theorem has_lroads (T : Tx K mg) : Has P w K mg base CX0 4 "_law_roads" ["_law_purse_here", "_law_size", "_law_kinds", "_law_many"] (PurseSp 100 preRoads2) := by
  refine T.has 33 (fun fd F => F.ok sc_lroads (fun vs H Q E h => ?_) fun cdv A outer s H vs Q E hr h => ?_) (fun fd F => F.bindsN fun _ _ _ _ _ _ us hl => match us, hl with | [_, _, _, _], _ => rfl)
  · obtain ⟨G, pu, us, T, p, rfl, _, _, ⟨_, _, _, _, _, _, _, a, _⟩, _⟩ := h; exact congrArg Nat.succ a.len
  · obtain ⟨G, pu, us, Tm, p, rfl, P0, hT, ⟨n, ks, many, hn, hk, hkz, hm, a, rfl⟩, k⟩ := h
    obtain ⟨v1, v2, v3, rfl, d1, d2, d3⟩ := allp3 a
    obtain rfl := (show DV G v1 (.int _) from d1).int_inv
    refine ⟨_, PSs.nox (pss_cons (ps_set (i := 4) sc_lroads.nd rfl (by first | exact Or.inl rfl | exact Or.inr rfl) (pe_lst (pa_nil)))
      (pss_cons (ps_for PassesOwn.never rfl (pi_range1 rfl (T.free "range") (pa_cons (pe_op op_mulU (pv 3) (pe_callTy call_int1 (by rfl) (T.free "int") (by decide +kernel) (pa_cons (pe_and (pe_cmpR op_gt (pv 1) (pe_int) (nomark _)) (pe_one (pe_cmpR (op_neDK (K := K) rfl (un70 hr)) (pv 2) (pe_lst (pa_nil)) (nomark _)))) (pa_nil)))) (pa_nil))) (pg_name (i := 5) sc_lroads.nd rfl (by first | exact Or.inl rfl | exact Or.inr rfl)) (pss_cons (ps_set (i := 6) sc_lroads.nd rfl (by first | exact Or.inl rfl | exact Or.inr rfl) (pe_tup (pa_cons (pe_callH (has_lone_of T) (hr.mono (by decide)) pass0 (pa_cons (pv 0) (pa_cons (pv 2) (pa_nil)))) (pa_cons (pe_callH (has_ldraw T) (hr.mono (by decide)) pass0 (pa_cons (pv 0) (pa_cons (pv 1) (pa_nil)))) (pa_cons (pe_callH (has_ldraw T) (hr.mono (by decide)) pass0 (pa_cons (pv 0) (pa_cons (pv 1) (pa_nil)))) (pa_nil))))))
        (pss_one (ps_set (i := 4) sc_lroads.nd rfl (by first | exact Or.inl rfl | exact Or.inr rfl) (pe_ifExp (pt_cmpR (op_inDK (K := K) rfl (un70 hr)) (pv 6) (pv 4) (by rfl)) (pv 4) (pe_op op_addU (pv 4) (pe_lst (pa_cons (pv 6) (pa_nil)))))))))
      (pss_one (ps_ret (pv 4))))), ?_⟩
    refine set_is (is_lst (ds := []) isa_nil (Nat.zero_le _)) P0.s fun w4 G1 H1 g1 p4 => ?_
    have P1 := P0.grow g1
    have sdk : SeqAt.shaped (.list (ks.map PyData.str)) = true := Sd.sh (n := 3) (sd_list fun d hd => by
      obtain ⟨y, hy, rfl⟩ := List.mem_map.mp hd
      exact sd_str (hk y hy).sok)
    obtain ⟨tn, htn⟩ : ∃ tn : Nat, tn = many * (if (decide ((n : Int) > 0) && !ks.isEmpty) = true then 1 else 0) := ⟨_, rfl⟩
    have htm : tn ≤ many := by
      rw [htn]
      by_cases c : (decide ((n : Int) > 0) && !ks.isEmpty) = true
      · rw [if_pos c]; omega
      · rw [if_neg c]; omega
    refine for_rng (n := tn) (G := G1) (isa_cons (Is.eqd (is_op (is_d rfl (d3.mono g1.gg)) (is_cb (isa_cons (is_andV (b := decide ((n : Int) > 0)) (c := !ks.isEmpty) (is_op (is_d rfl (.int _)) (is_int 0) (ri_B (g := fun i j => decide (i > j)))) fun _ => Is.eqd (is_op (is_d rfl (d2.mono g1.gg)) (is_lst (ds := []) isa_nil (Nat.zero_le _)) (ri_neD sdk (Sd.sh (n := 1) sd_nil))) ?_) isa_nil) rc_int1) (ri_mulI (cmul (n := 31) (m := 1) (by omega) ?_ (by decide)))) (congrArg PyData.int ?_)) isa_nil) (by omega) g1.gh (fun i σ' G' H' => (∃ w, ∃ x5 x6, ∃ rs : List Road, σ' = [some (.ref pu), some (.int (n : Int)), some v2, some v3, some w, x5, x6] ∧ DV G' w (.list (rs.map rd)) ∧ (∀ r ∈ rs, RoadOk n r) ∧ rs.Nodup ∧ rs.length ≤ i) ∧ Gr (Mp pu) G H G' H' ∧ PuS pu (Tm + 3 * i) G' H')
      (fun G3 H3 g3 => ⟨⟨_, _, _, [], rfl, p4.mono g3.gg, fun r h => absurd h List.not_mem_nil, List.nodup_nil, Nat.le_refl _⟩, (g1.trans g3).up, P1.grow g3⟩) ?_ ?_
    · rw [eqv_nil, List.isEmpty_map]
    · by_cases c : (decide ((n : Int) > 0) && !ks.isEmpty) = true
      · rw [if_pos c]; decide
      · rw [if_neg c]; decide
    · rw [htn]
      by_cases c : (decide ((n : Int) > 0) && !ks.isEmpty) = true
      · rw [if_pos c, if_pos c]; omega
      · rw [if_neg c, if_neg c]; omega
    · rintro i σ' G3 H3 hi zs zg ⟨⟨w, x5, x6, rs, rfl, dw, hr1, hr2, hr3⟩, gM, P3⟩
      have hc : (decide ((n : Int) > 0) && !ks.isEmpty) = true := Classical.byContradiction fun c => by rw [htn, if_neg c] at hi; omega
      obtain ⟨hc1, hc2⟩ := Bool.and_eq_true_iff.mp hc
      have hn0 : 1 ≤ n := by have := of_decide_eq_true hc1; omega
      have hk0 : 1 ≤ ks.length := by
        cases ks with
        | nil => cases hc2
        | cons a r => simp
      refine ⟨_, gt_name, fun N hN => ?_⟩
      have d2' := d2.mono gM.gg
      refine set_dr (c := (0 + 1) + (1 + (1 + 0))) (p := ⟨fun v G => ∃ r : Road, RoadOk n r ∧ DV G v (rd r), fun _ _ _ s ⟨r, h1, h2⟩ => ⟨r, h1, h2.mono s⟩⟩) (dr_tupX (ps := [memP (ks.map .str), belP n, belP n]) (R := fun ds => ∃ r : Road, RoadOk n r ∧ ds = [.str r.1, .int (r.2.1 : Int), .int (r.2.2 : Int)]) (dra_cons (dr_call (s := memP (ks.map .str)) rfl (dra_of (isa_cons (is_d rfl d2') isa_nil)) fun us G4 s4 a => ⟨_, ⟨ks.map .str, by rw [List.length_map]; exact hk0, by rw [List.length_map]; omega, a, rfl⟩, fun v G5 h => h⟩) (dra_cons (dr_draw rfl (is_d rfl (.int _)) hn0 (by omega)) (dra_cons (dr_draw rfl (is_d rfl (.int _)) hn0 (by omega)) dra_nil))) (fun vs G4 a => ?_) fun v G4 ⟨ds, ⟨r, h1, e⟩, dv⟩ => ⟨r, h1, by subst e; exact dv⟩) P3 (by omega) fun v G4 H4 g4 P4 pv => ?_
      · obtain ⟨a1, a2, a3, rfl, ⟨d, hd, q1⟩, ⟨r2, h2, rfl⟩, ⟨r3, h3, rfl⟩⟩ := allp3 a
        obtain ⟨x, hx, rfl⟩ := List.mem_map.mp hd
        exact ⟨[.str x, .int (r2 : Int), .int (r3 : Int)], .cons q1 (.cons (.int _) (.cons (.int _) .nil)), by simp, (x, r2, r3), ⟨hk x hx, h2, h3⟩, rfl⟩
      · obtain ⟨r, hro, dr⟩ := pv
        refine set_is (p := dat (.list ((if r ∈ rs then rs else rs ++ [r]).map rd))) (is_if (b := decide (r ∈ rs)) (IsT.eqb (ist_test (is_op (is_d rfl dr) (is_d rfl (dw.mono g4.gg)) (ri_inD (Sd.sh (n := 3) (sd_rd (n := 2) hro.kind)) (Sd.sh (n := 5) (sd_rds fun r hr => (hr1 r hr).kind))))) (any_rd r rs)) (fun hb => ?_) fun hb => ?_) g4.gh fun v5 G5 H5 g5 p5 => hN _ G5 H5 (g4.gg.trans g5.gg) g5.gh ⟨⟨v5, _, _, if r ∈ rs then rs else rs ++ [r], rfl, p5, ?_, ?_, ?_⟩, (gM.trans g4).tr0 g5, (P4.grow g5).up (by omega)⟩
        · rw [if_pos (of_decide_eq_true hb)]; exact is_d rfl (dw.mono g4.gg)
        · rw [if_neg (of_decide_eq_false hb), List.map_append]
          exact is_op (is_d rfl (dw.mono g4.gg)) (is_lst (ds := [rd r]) (isa_cons (is_d rfl dr) isa_nil) (by simp)) (ri_addL (by rw [List.length_map]; simp only [List.length_cons, List.length_nil]; omega))
        · intro q hq
          by_cases c : r ∈ rs
          · rw [if_pos c] at hq; exact hr1 q hq
          · rw [if_neg c] at hq
            rcases List.mem_append.mp hq with hq | hq
            · exact hr1 q hq
            · rw [List.mem_singleton.mp hq]; exact hro
        · by_cases c : r ∈ rs
          · rw [if_pos c]; exact hr2
          · rw [if_neg c]; exact List.nodup_append.mpr ⟨hr2, List.pairwise_singleton _ _, fun x hx y hy e => by rw [List.mem_singleton.mp hy] at e; exact c (e ▸ hx)⟩
        · by_cases c : r ∈ rs
          · rw [if_pos c]; omega
          · rw [if_neg c, List.length_append]
            simp only [List.length_cons, List.length_nil]; omega
    · rintro σ' G3 H3 zs zg ⟨⟨w, x5, x6, rs, rfl, dw, hr1, hr2, hr3⟩, gM, P3⟩
      exact ⟨_, rfl, k _ G3 H3 gM (P3.up (by omega)) ⟨rs, hr1, hr2, by omega, dw⟩⟩

theorem sc_lsmall_web : FnScope ["_law_purse_here", "_law_kinds", "_law_most", "_law_many", "_law_size"] ["_law_purse_here", "_law_kinds", "_law_most", "_law_many"] (defScope (top 55)) := ⟨rfl, rfl, rfl, by decide +kernel, rfl, by decide +kernel, by decide +kernel⟩
theorem has_lsmall_web (T : Tx K mg) : Has P w K mg base CX0 5 "_law_small_web" ["_law_purse_here", "_law_kinds", "_law_most", "_law_many"] (PurseSp 110 preSmall) := by
  refine T.has 40 (fun fd F => F.ok sc_lsmall_web (fun vs H Q E h => ?_) fun cdv A outer s H vs Q E hr h => ?_) (fun fd F => F.bindsN fun _ _ _ _ _ _ us hl => match us, hl with | [_, _, _, _], _ => rfl)
  · obtain ⟨G, pu, us, T, p, rfl, _, _, ⟨_, _, _, _, _, _, _, _, a, _⟩, _⟩ := h; exact congrArg Nat.succ a.len
  · obtain ⟨G, pu, us, Tm, p, rfl, P0, hT, ⟨ks, most, many, hk, hkz, hm1, hm2, hmn, a, rfl⟩, k⟩ := h
    obtain ⟨v1, v2, v3, rfl, d1, d2, d3⟩ := allp3 a
    refine ⟨_, PSs.nox (pss_cons (ps_set (i := 4) sc_lsmall_web.nd rfl (by first | exact Or.inl rfl | exact Or.inr rfl) (pe_ifExp (pt_cmpR (op_eqDK (K := K) rfl (un70 hr)) (pe_callH (has_ldraw T) (hr.mono (by decide)) pass0 (pa_cons (pv 0) (pa_cons (pe_int) (pa_nil)))) (pe_int) (nomark _)) (pe_callH (has_ldraw T) (hr.mono (by decide)) pass0 (pa_cons (pv 0) (pa_cons (pe_op op_addU (pv 2) (pe_int)) (pa_nil)))) (pe_op op_addU (pe_int) (pe_callH (has_ldraw T) (hr.mono (by decide)) pass0 (pa_cons (pv 0) (pa_cons (pv 2) (pa_nil)))))))
      (pss_one (ps_ret (pe_lst (pa_cons (pv 4) (pa_cons (pe_callH (has_lroads T) (hr.mono (by decide)) pass0 (pa_cons (pv 0) (pa_cons (pv 4) (pa_cons (pv 1) (pa_cons (pe_callH (has_ldraw T) (hr.mono (by decide)) pass0 (pa_cons (pv 0) (pa_cons (pe_op op_addU (pv 3) (pe_int)) (pa_nil)))) (pa_nil)))))) (pa_nil))))))), ?_⟩
    refine set_dr (c := (1 + 0) + 1) (p := belP (most + 1)) (dr_if (dr_test (dr_op (s := boolP) (dr_draw (m := 6) rfl (is_int 6) (by decide) (by decide)) (Dr.of (is_int 0)) (ri_bel fun m hm => (ri_eqD (Sd.sh (n := 1) (sd_int _)) (Sd.sh (n := 1) (sd_int _))).imp fun v G1 hv => ⟨_, hv.bl_inv⟩))) (dr_draw (m := most + 1) rfl (Is.eqd (is_op (is_d rfl d2) (is_int 1) ri_addI) (by simp)) (by omega) (by omega)) ((dr_op (s := belP (most + 1)) (Dr.of (is_int 1)) (dr_draw (m := most) rfl (is_d rfl d2) hm1 (by omega)) (ri_belR fun m hm => (ri_addI (i := 1)).imp fun v G2 hv => ⟨1 + m, by omega, by rw [hv.int_inv]; simp⟩)).up (by omega))) P0 (by omega) fun v4 G1 H1 g1 P1 p4 => ?_
    obtain ⟨n, hn, rfl⟩ := p4
    refine ret_dr (p := webP most many) (c := 0 + ((0 + (0 + (1 + 0)) + 100) + 0)) (dr_lstX (ps := [dat (.int (n : Int)), roadsP n many]) (R := fun ds => ∃ rs : List Road, (∀ r ∈ rs, RoadOk n r) ∧ rs.Nodup ∧ rs.length ≤ many ∧ ds = [.int (n : Int), .list (rs.map rd)]) (dra_cons (Dr.of (is_d rfl (.int _))) (dra_cons (dr_call (s := roadsP n many) rfl (dra_cons (Dr.of (is_d (d := .int (n : Int)) rfl (.int _))) (dra_cons (Dr.of (is_d rfl (d1.mono g1.gg))) (dra_cons (dr_draw (m := many + 1) rfl (Is.eqd (is_op (is_d rfl (d3.mono g1.gg)) (is_int 1) ri_addI) (by simp)) (by omega) (by omega)) dra_nil))) fun us G2 s2 a => ?_) dra_nil)) (fun vs G2 a => ?_) fun v G2 ⟨ds, ⟨rs, h1, h2, h3, e⟩, dv⟩ => ⟨n, rs, by omega, ⟨h1, h2, by omega, by omega⟩, h3, by subst e; exact dv⟩) P1 (by omega) fun v G2 H2 g2 P2 pv => k v G2 H2 (g1.trans g2) (P2.up (by omega)) pv
    · obtain ⟨a1, a2, a3, rfl, q1, q2, ⟨mm, hmm, rfl⟩⟩ := allp3 a
      exact ⟨roadsP n mm, ⟨n, ks, mm, by omega, hk, hkz, by omega, ⟨_, _, rfl, q1, _, _, rfl, q2, _, _, rfl, .int _, rfl⟩, rfl⟩, fun v G3 ⟨rs, h1, h2, h3, h4⟩ => ⟨rs, h1, h2, by omega, h4⟩⟩
    · obtain ⟨a1, a2, rfl, q1, ⟨rs, h1, h2, h3, h4⟩⟩ := allp2 a
      exact ⟨[.int (n : Int), .list (rs.map rd)], .cons q1 (.cons h4 .nil), by simp, rs, h1, h2, h3, rfl⟩

end
end Yd
set_option Elab.async false
set_option linter.all false
set_option maxRecDepth 100000
set_option maxHeartbeats 4000000
namespace Yd
open PySem PySem.Spec L2

def intL (ns : List Int) : PyData := .list (ns.map PyData.int)
/-- the script: a list of ints, in the heap or known -/
theorem sq_mono {K : PySem.W.Frag} {G H : Hp} {a : Addr} {xs : List V} (s : Same G H) (h : SqL K G a xs) : SqL K H a xs := h.elim (fun h => .inl (h.elim (fun h => .inl (s _ _ h)) fun ⟨o, h⟩ => .inr ⟨o, s _ _ h⟩)) fun h => .inr h
def scriptP (K : PySem.W.Frag) (ns : List Int) : Pm := ⟨fun v G => ∃ a, v = .ref a ∧ SqL K G a (ns.map V.int), fun _ _ _ s ⟨a, e, h⟩ => ⟨a, e, sq_mono s h⟩⟩
def cutI (ns : List Int) (lo hi : Option Int) : List Int := (ns.drop (HT.sIx ns.length 0 lo)).take (HT.sIx ns.length ns.length hi - HT.sIx ns.length 0 lo)
theorem is_sliceS {K : PySem.W.Frag} {σ : L2.St} {G : Hp} {te : TE} {ns : List Int} {tl th : TO} {lo hi : Option Int} (h : Is te σ G (scriptP K ns))
    (h1 : ∀ G1 H1, Same G G1 → Same G1 H1 → ∀ Q : Option Int → Hp → Prop, (∀ G2 H2, Gr0 G1 H1 G2 H2 → Q lo H2) → tl σ H1 Q) (h2 : ∀ G1 H1, Same G G1 → Same G1 H1 → ∀ Q : Option Int → Hp → Prop, (∀ G2 H2, Gr0 G1 H1 G2 H2 → Q hi H2) → th σ H1 Q) :
    Is (tSl (rSlL K) te tl th) σ G (dat (intL (cutI ns lo hi))) := fun G1 H1 s1 s2 Q k =>
  h G1 H1 s1 s2 _ fun x G2 H2 g2 px => h1 G2 H2 (s1.trans g2.gg) g2.gh _ fun G3 H3 g3 => h2 G3 H3 ((s1.trans g2.gg).trans g3.gg) g3.gh _ fun G4 H4 g4 => by
    obtain ⟨a, rfl, hs⟩ := px
    refine ⟨a, ns.map V.int, rfl, sq_mono (g4.gh) (sq_mono (g3.gg.trans g4.gg) hs), fun l hl => ?_⟩
    have e : cutV (ns.map V.int) lo hi = (cutI ns lo hi).map V.int := by
      unfold cutV cutI
      rw [List.length_map, List.map_take, List.map_drop]
    rw [e]
    have g5 : Gr0 G4 H4 (upd G4 l (.lst ((cutI ns lo hi).map V.int))) (upd H4 l (.lst ((cutI ns lo hi).map V.int))) := .new g4.gh hl
    exact k _ _ _ ((g2.trans (g3.trans g4)).trans g5) (.lst upd_same (DVs.ints _))
theorem rc_lenQ {K : PySem.W.Frag} {G : Hp} {ns : List Int} : RC (fun xs H Q => ∃ x n, xs = [x] ∧ LenV K x H n ∧ Q (.int n) H) [scriptP K ns] G (dat (.int ns.length)) := fun vs G1 H1 s1 s2 pv Q k => by
  obtain ⟨v, rfl, hv⟩ := allp1 pv
  obtain ⟨a, rfl, hs⟩ := hv
  exact ⟨_, ns.length, rfl, .inl ⟨_, sq_mono s2 hs, (List.length_map _).symm⟩, k _ G1 H1 (.refl s2) (.int _)⟩
def spPurse0 (K : PySem.W.Frag) : Sp := fun vs H Q _ => ∃ G ns, ∃ k : Nat, Same G H ∧ k ≤ 1000 ∧ AllP [scriptP K ns, dat (.int (k : Int))] vs G ∧ ∀ l G2 H2, Gr0 G H G2 H2 → H l = none → G2 l = none → Pu 0 (H2 l) → Q (.ref l) H2
def spPurses (K : PySem.W.Frag) : Sp := fun vs H Q _ => ∃ G ns, ∃ few : Nat, Same G H ∧ few ≤ 100 ∧ AllP [scriptP K ns, dat (.int (few : Int))] vs G ∧ ∀ (D : Addr) (as : List Addr) G2 H2, Gr0 G H G2 H2 → G2 D = some (.lst (as.map V.ref)) → (∀ a ∈ as, G2 a = none ∧ Pu 0 (H2 a)) → as.length ≤ 101 → Q (.ref D) H2
theorem rc_sum {K : PySem.W.Frag} {G : Hp} {ns : List Int} : RC (rSum K) [dat (intL ns)] G (dat (.int ns.sum)) := fun vs G1 H1 s1 s2 pv Q k => by
  obtain ⟨v, rfl, hv⟩ := allp1 pv
  obtain ⟨a, xs, rfl, ha, dv⟩ := (show DV G1 v (.list _) from hv).lst_inv
  obtain rfl := dv.ints_inv
  exact ⟨a, ns, rfl, SqL.of (s2 _ _ ha), k _ G1 H1 (.refl s2) (.int _)⟩
theorem int_slice (ns : List Int) (i n : Nat) : ((ns.map PyData.int).drop i).take n = (((ns.drop i).take n).map PyData.int) := by rw [List.map_take, List.map_drop]
theorem pow_pos10 : (0 : Int) < ((10 : Int) ^ (60 : Int).toNat) ^ (8 : Int).toNat := Int.pow_pos (Int.pow_pos (by decide))
theorem pow_a : CPowU 10 18 := ⟨by decide, by have := PyProof.Rows.intBits_le (a := (10 : Int)) (k := 4) (by decide); omega⟩
theorem pow_b : CPowU 10 60 := ⟨by decide, by have := PyProof.Rows.intBits_le (a := (10 : Int)) (k := 4) (by decide); omega⟩
theorem pow_c : CPowU ((10 : Int) ^ (60 : Int).toNat) 8 := by
  have h : ((10 : Int) ^ (60 : Int).toNat).natAbs < 2 ^ 200 := by
    rw [Int.natAbs_pow]
    show (10 : Nat) ^ 60 < 2 ^ 200
    decide
  have := PyProof.Rows.intBits_le h
  exact ⟨by decide, by omega⟩
theorem ret_lcX {σ : L2.St} {G H : Hp} {ta : TA} {te : TE} {tt : TT} {g : TG} {vs : List Nat} {n : Nat} {D : Ends} (hl : IsA ta σ G [dat (.int (n : Int))]) (hz : n ≤ 100000) (s : Same G H)
    (k : ∀ G1 H1 Dl, Gr0 G H G1 H1 → H1 Dl = none → ∃ W : Nat → Hp → Prop, W 0 (upd H1 Dl (.lst [])) ∧ (∀ i H', i < n → W i H' → g (.int (i : Int)) (wipe σ vs) H' fun σ2 H2 => wipe σ2 vs = wipe σ vs ∧ tt σ2 H2 fun b H3 =>
      if b = true then te σ2 H3 fun y H4 => ∃ acc, H4 Dl = some (.lst acc) ∧ acc.length < sizeLine ∧ W (i + 1) (upd H4 Dl (.lst (acc ++ [y]))) else W (i + 1) H3) ∧ ∀ H', W n H' → D.rt (.ref Dl) H') : tRet (tLc (iRng1 ta) g tt te vs) D σ H :=
  hl G H (Same.refl _) s _ fun us G2 H2 g2 px => by
    obtain ⟨v, r, rfl, hv, e⟩ := px
    cases (show r = [] from e)
    obtain rfl := (show DV G2 v (.int n) from hv).int_inv
    refine ⟨n, rfl, by omega, by omega, ?_⟩
    rw [Int.toNat_natCast]
    intro Dl hD
    obtain ⟨W, h0, hs, hd⟩ := k G2 H2 Dl g2 hD
    exact lc_range (lo := 0) (n := n) W h0 (fun i H' hi w => by rw [Int.zero_add]; exact hs i H' hi w) hd
theorem ret_lstR {σ : L2.St} {G H : Hp} {ta : TA} {ps : List Pm} {D : Ends} (h : IsA ta σ G ps) (s : Same G H) (k : ∀ vs G2 H2, Gr0 G H G2 H2 → AllP ps vs G2 → vs.length ≤ sizeLine ∧ ∀ l, H2 l = none → D.rt (.ref l) (upd H2 l (.lst vs))) : tRet (tLst ta) D σ H := h G H (Same.refl _) s _ fun vs G2 H2 g2 pv => k vs G2 H2 g2 pv
section
variable {P : Program} {w : World} {K : PySem.W.Frag} {mg : Str → Option Value} {base : Heap}
theorem sc_lpurse : FnScope ["_law_script", "_law_at", "_law_seed"] ["_law_script", "_law_at"] (defScope (top 40)) := ⟨rfl, rfl, rfl, by decide +kernel, rfl, by decide +kernel, by decide +kernel⟩
theorem has_lpurse (T : Tx K mg) : Has P w K mg base CX0 1 "_law_purse" ["_law_script", "_law_at"] (spPurse0 K) := by
  refine T.has 25 (fun fd F => F.ok sc_lpurse (fun vs H Q E h => ?_) fun cdv A outer s H vs Q E hr h => ?_) (fun fd F => F.bindsN fun _ _ _ _ _ _ us hl => match us, hl with | [_, _], _ => rfl)
  · obtain ⟨G, _, _, _, _, a, _⟩ := h; exact a.len
  · obtain ⟨G, ns, at_, z, hk, a, k⟩ := h
    obtain ⟨v0, v1, rfl, d0', d1⟩ := allp2 a
    refine ⟨_, PSs.nox (pss_cons (ps_set (i := 2) sc_lpurse.nd rfl (by first | exact Or.inl rfl | exact Or.inr rfl) (pe_callB (cr_sum rfl) (by rfl) (T.free "sum") (by decide +kernel) (pa_cons (pe_slice (sl_listK (K := K) rfl) (pv 0) (po_some (pv 1)) (po_some (pe_op op_addU (pv 1) (pe_int)))) (pa_nil))))
      (pss_one (ps_ret (pe_lst (pa_cons (pe_op op_mod (pe_callB (call_max2 rfl) (by rfl) (T.free "max") (by decide +kernel) (pa_cons (pe_op op_sub (pv 2) (pe_op op_powU (pe_int) (pe_int))) (pa_cons (pe_int) (pa_nil)))) (pe_op op_powU (pe_op op_powU (pe_int) (pe_int)) (pe_int))) (pa_cons (pe_op op_mod (pv 2) (pe_int)) (pa_cons (pe_int) (pa_cons (pv 1) (pa_nil))))))))), ?_⟩
    obtain ⟨s0, hs0⟩ : ∃ s0 : Int, s0 = (cutI ns (some (at_ : Int)) (some ((at_ : Int) + 1))).sum := ⟨_, rfl⟩
    refine set_is (p := dat (.int s0)) (is_cb (isa_cons (is_sliceS (lo := some (at_ : Int)) (hi := some ((at_ : Int) + 1)) (is_var (p := scriptP K ns) rfl d0') (fun G1 H1 s1 s2 Q k => ip_some (is_d rfl d1) s1 s2 Q k) (fun G1 H1 s1 s2 Q k => ip_some (is_op (is_d rfl d1) (is_int 1) ri_addI) s1 s2 Q k)) isa_nil) (hs0 ▸ rc_sum)) z fun w2 G1 H1 g1 p2 => ?_
    · refine ret_lstR (isa_cons (is_op (is_cb (isa_cons (is_op (is_d rfl p2) (is_op (is_int 10) (is_int 18) (ri_C (C := CPowU) (g := fun i j => i ^ j.toNat) pow_a)) (ri_I (g := fun i j => i - j))) (isa_cons (is_int 0) isa_nil)) rc_max) (is_op (is_op (is_int 10) (is_int 60) (ri_C (C := CPowU) (g := fun i j => i ^ j.toNat) pow_b)) (is_int 8) (ri_C (C := CPowU) (g := fun i j => i ^ j.toNat) pow_c)) (ri_C (C := fun _ j => 0 < j) (g := fun i j => i % j) pow_pos10))
        (isa_cons (is_op (is_d rfl p2) (is_int 2147483629) (ri_C (C := fun _ j => 0 < j) (g := fun i j => i % j) (by decide))) (isa_cons (is_int 0) (isa_cons (is_d rfl (d1.mono g1.gg)) isa_nil)))) g1.gh fun vs G2 H2 g2 pv => ?_
      · obtain ⟨a0, a1, a2, a3, rfl, q0, q1, q2, q3⟩ := allp4 pv
        obtain rfl := q0.int_inv
        obtain rfl := q1.int_inv
        obtain rfl := q2.int_inv
        obtain rfl := q3.int_inv
        refine ⟨by show 4 ≤ sizeLine; decide, fun l hl => ?_⟩
        have h1 := Int.emod_nonneg s0 (show (2147483629 : Int) ≠ 0 by decide)
        have h2 := Int.emod_lt_of_pos s0 (show (0 : Int) < 2147483629 by decide)
        exact k l G2 _ (g1.trans (g2.trans (.hid g2.gh hl))) ((g1.trans g2).th _ hl) (g2.gh.free hl) ⟨_, _, _, _, upd_same, h1, by omega, by omega, by omega, by omega, by omega⟩

theorem sc_lpurses : FnScope ["_law_script", "_law_few", "_law_at"] ["_law_script", "_law_few"] (defScope (top 43)) := ⟨rfl, rfl, rfl, by decide +kernel, rfl, by decide +kernel, by decide +kernel⟩
theorem has_lpurses (T : Tx K mg) : Has P w K mg base CX0 2 "_law_purses" ["_law_script", "_law_few"] (spPurses K) := by
  refine T.has 28 (fun fd F => F.ok sc_lpurses (fun vs H Q E h => ?_) fun cdv A outer s H vs Q E hr h => ?_) (fun fd F => F.bindsN fun _ _ _ _ _ _ us hl => match us, hl with | [_, _], _ => rfl)
  · obtain ⟨G, _, _, _, _, a, _⟩ := h; exact a.len
  · obtain ⟨G, ns, few, z, hf, a, k⟩ := h
    obtain ⟨v0, v1, rfl, d0', d1⟩ := allp2 a
    refine ⟨_, PSs.nox (pss_one (ps_ret (pe_lc (own := [("_law_at", 2)]) rfl sc_lpurses.nd (pi_range1 rfl (T.free "range") (pa_cons (pe_callB (call_max2 rfl) (by rfl) (T.free "max") (by decide +kernel) (pa_cons (pe_int) (pa_cons (pe_callB (call_min2 rfl) (by rfl) (T.free "min") (by decide +kernel) (pa_cons (pv 1) (pa_cons (pe_callB (call_lenK (K := K) rfl) (by rfl) (T.free "len") (by decide +kernel) (pa_cons (pv 0) (pa_nil))) (pa_nil)))) (pa_nil)))) (pa_nil))) (blkOk_by (by rfl)) (fun _ _ _ _ _ => pg_name (i := 2) sc_lpurses.nd rfl (by first | exact Or.inl rfl | exact Or.inr rfl)) (fun _ _ _ _ _ => pts_nil) (fun _ _ _ _ _ => pe_callH (has_lpurse T) (hr.mono (by decide)) pass0 (pa_cons (pv 0) (pa_cons (pv 2) (pa_nil))))))), ?_⟩
    have hn : ∃ n : Nat, n ≤ 101 ∧ (if (if (ns.length : Int) < (few : Int) then (ns.length : Int) else (few : Int)) > 1 then (if (ns.length : Int) < (few : Int) then (ns.length : Int) else (few : Int)) else 1) = (n : Int) := by
      by_cases c : (ns.length : Int) < (few : Int)
      · rw [if_pos c]
        by_cases c2 : (ns.length : Int) > 1
        · exact ⟨ns.length, by omega, by rw [if_pos c2]⟩
        · exact ⟨1, by omega, by rw [if_neg c2]; rfl⟩
      · rw [if_neg c]
        by_cases c2 : (few : Int) > 1
        · exact ⟨few, by omega, by rw [if_pos c2]⟩
        · exact ⟨1, by omega, by rw [if_neg c2]; rfl⟩
    obtain ⟨n, hn1, hn2⟩ := hn
    refine ret_lcX (n := n) (isa_cons (Is.eqd (is_cb (isa_cons (is_int 1) (isa_cons (is_cb (isa_cons (is_d rfl d1) (isa_cons (is_cb (isa_cons (is_var (p := scriptP K ns) rfl d0') isa_nil) rc_lenQ) isa_nil)) rc_min) isa_nil)) rc_max) (congrArg PyData.int hn2)) isa_nil) (by omega) z fun G1 H1 D g1 hD => ?_
    refine ⟨fun i H' => ∃ G' as, Gr0 G1 H1 G' H' ∧ H' D = some (.lst (as.map V.ref)) ∧ G' D = none ∧ as.length = i ∧ ∀ a ∈ as, a ≠ D ∧ G' a = none ∧ Pu 0 (H' a), ⟨G1, [], .hid g1.gh hD, upd_same, g1.gh.free hD, rfl, fun a h => absurd h List.not_mem_nil⟩, fun i H' hi w => ?_, fun H' w => ?_⟩
    · obtain ⟨G', as, g, h1, h2, h3, h4⟩ := w
      refine gt_name (G := G') H' g.gh _ ⟨rfl, ?_⟩
      unfold tYes
      dsimp only
      rw [if_pos rfl]
      unfold tCall
      refine isa_cons (p := scriptP K ns) (is_var rfl ((scriptP K ns).mono _ _ _ (g1.gg.trans g.gg) d0')) (isa_cons (p := dat (.int (i : Int))) (is_d rfl (.int _)) isa_nil) G' H' (Same.refl _) g.gh _ fun us G2 H2 g2 pu => ?_
      show spPurse0 K (us ++ []) H2 _ _
      rw [List.append_nil]
      refine ⟨G2, ns, i, g2.gh, by omega, pu, fun l G3 H3 g3 hl gl pl => ?_⟩
      have g23 := g2.trans g3
      have hl' : H' l = none := g2.th _ hl
      refine ⟨_, g23.same _ _ h1, by rw [List.length_map, h3]; exact sz_lt (by omega), G3, as ++ [l], (g.trans g23).wr (.inl hD) (g23.out h2 h1), by rw [List.map_append]; exact upd_same, g23.out h2 h1, by rw [List.length_append, h3]; rfl, fun a ha => ?_⟩
      rcases List.mem_append.mp ha with ha | ha
      · obtain ⟨q1, q2, q3⟩ := h4 a ha
        obtain ⟨pb, ps, pt, pa, e, q⟩ := q3
        exact ⟨q1, g23.out q2 e, by rw [upd_ne q1]; exact ⟨pb, ps, pt, pa, g23.same _ _ e, q⟩⟩
      · rw [List.mem_singleton.mp ha]
        have hne : l ≠ D := fun e => by subst e; rw [h1] at hl'; cases hl'
        exact ⟨hne, gl, by rw [upd_ne hne]; exact pl⟩
    · obtain ⟨G', as, g, h1, h2, h3, h4⟩ := w
      refine k D as (upd G' D (.lst (as.map V.ref))) H' (g1.trans (g.sho hD h1)) upd_same (fun a ha => ?_) (by omega)
      obtain ⟨q1, q2, q3⟩ := h4 a ha
      exact ⟨by rw [upd_ne q1]; exact q2, q3⟩

end
end Yd
set_option Elab.async false
set_option linter.all false
set_option maxRecDepth 100000
set_option maxHeartbeats 4000000
namespace Yd
open PySem PySem.Spec L2

section
open PySem.SeqAt AutoSeq1 MeetsSeq
theorem dict_ne_declines (l c : Addr) (o1 o2 : Obj) (h1 : o1.cls = .type "dict") (h2 : o2.cls = .type "list") :
    Meets (Builtin.«dict.__ne__» ⟨[.ref l, .ref c], []⟩) (fun _ R s => s.heap.get? l = some o1 ∧ s.heap.get? c = some o2 ∧ R (.ok (.ret .notImplemented)) s) :=
  .of_wp fun prog w A R s h => by
    obtain ⟨hl, hb, h⟩ := h
    have f1 := F.sub_list_dict
    have t1 : s.TypeIs (.ref l) "dict" := ⟨_, hl, h1⟩
    have t2 : s.TypeIs (.ref c) "list" := ⟨_, hb, h2⟩
    wp_walk using wpAny_typeOf t1, wpAny_typeOf t2
    exact ⟨_, rfl, h⟩
theorem list_ne_declines_dict (l c : Addr) (items : Array Value) (n : Nat) (dd : Option Addr) (sl : Array (Option Value)) (o2 : Obj) (h2 : o2.cls = .type "dict") :
    Meets (Builtin.«list.__ne__» ⟨[.ref l, .ref c], []⟩) (fun _ R s => s.heap.get? l = some { cls := .type "list", dict := dd, data := .seq items n, slots := sl } ∧ s.heap.get? c = some o2 ∧ R (.ok (.ret .notImplemented)) s) :=
  .of_wp fun prog w A R s h => by
    obtain ⟨hp, g, d, tk, os⟩ := s
    obtain ⟨hl, hb, h⟩ := h
    have f1 := F.sub_dict_list
    have t2 : Shared.TypeIs ⟨hp, g, d, tk, os⟩ (.ref c) "dict" := ⟨_, hb, h2⟩
    wp_walk using wpAny_loadPart' hl, wpAny_typeOf t2
    exact ⟨_, rfl, h⟩
end
end Yd
set_option Elab.async false
set_option linter.all false
set_option maxRecDepth 100000
set_option maxHeartbeats 4000000
namespace Yd
open PySem PySem.Spec L2

/-! ### small data: shown -/
def At0 (d : PyData) : Prop := d = .none ∨ (∃ b, d = .bool b) ∨ (∃ i : Int, i.natAbs < 10 ^ 9 ∧ d = .int i) ∨ d = .str "0"
def Sm : Nat → PyData → Prop
  | 0, d => At0 d
  | n + 1, d => Sm n d ∨ ∃ ds : List PyData, (d = .list ds ∨ d = .tuple ds) ∧ ds.length ≤ 40 ∧ ∀ e ∈ ds, Sm n e
def bk : Nat → Nat
  | 0 => 1
  | n + 1 => 40 * (bk n + 1)
structure SmO (n : Nat) (d : PyData) : Prop where
  sd : Sd n d
  nod : d.hasDict = false
  shw : d.showable = true
  short : d.leavesShort 13 = true
  bulk : d.bulk ≤ bk n
theorem sm_at0 {d : PyData} (h : At0 d) : SmO 0 d := by
  rcases h with rfl | ⟨b, rfl⟩ | ⟨i, hi, rfl⟩ | rfl
  · exact ⟨sd_non, by simp [PyData.hasDict], by simp [PyData.showable], by simp [PyData.leavesShort], by simp [PyData.bulk]⟩
  · exact ⟨sd_bool b, by simp [PyData.hasDict], by simp [PyData.showable], by simp [PyData.leavesShort], by simp [PyData.bulk]⟩
  · refine ⟨sd_int i, by simp [PyData.hasDict], ?_, ?_, by simp [PyData.bulk]⟩
    · have h1 : i.natAbs.log2 < 1920 := by
        by_cases h0 : i.natAbs = 0
        · rw [h0]; decide
        · exact (Nat.log2_lt h0).mpr (Nat.lt_trans hi (by decide))
      simp only [PyData.showable, decide_eq_true_iff]; exact h1
    · simp only [PyData.leavesShort, decide_eq_true_iff]
      exact PyData.shown_int_le (Nat.lt_trans hi (by decide))
  · exact ⟨sd_str (by decide +kernel), by simp [PyData.hasDict], by simp [PyData.showable], by decide +kernel, by decide +kernel⟩
theorem smo_all {n : Nat} : ∀ {ds : List PyData}, (∀ e ∈ ds, SmO n e) → PyData.hasDictAll ds = false ∧ PyData.showableAll ds = true ∧ PyData.leavesShortAll 13 ds = true ∧ PyData.bulkAll ds ≤ ds.length * (bk n + 1)
  | [], _ => by simp [PyData.hasDictAll, PyData.showableAll, PyData.leavesShortAll, PyData.bulkAll]
  | d :: ds, h => by
    obtain ⟨h1, h2, h3, h4⟩ := smo_all (ds := ds) fun e he => h e (List.mem_cons_of_mem _ he)
    have k := h d List.mem_cons_self
    have kb := k.bulk
    refine ⟨by simp [PyData.hasDictAll, k.nod, h1], by simp [PyData.showableAll, k.shw, h2], by simp [PyData.leavesShortAll, k.short, h3], ?_⟩
    simp only [PyData.bulkAll, List.length_cons]
    rw [Nat.succ_mul]
    omega
theorem bk_up (n : Nat) : bk n ≤ bk (n + 1) := by show bk n ≤ 40 * (bk n + 1); omega
theorem SmO.up {n : Nat} {d : PyData} (h : SmO n d) : SmO (n + 1) d := ⟨h.sd.up (Nat.le_succ _), h.nod, h.shw, h.short, Nat.le_trans h.bulk (bk_up n)⟩
theorem sm_ok : ∀ {n : Nat} {d : PyData}, Sm n d → SmO n d
  | 0, _, h => sm_at0 h
  | n + 1, d, h => by
    rcases h with h | ⟨ds, hd, hl, he⟩
    · exact (sm_ok h).up
    · have hs : ∀ e ∈ ds, SmO n e := fun e hm => sm_ok (he e hm)
      obtain ⟨h1, h2, h3, h4⟩ := smo_all hs
      have hb : PyData.bulkAll ds ≤ bk (n + 1) := Nat.le_trans h4 (Nat.mul_le_mul_right _ hl)
      rcases hd with rfl | rfl
      · exact ⟨sd_list fun e hm => (hs e hm).sd, by simp only [PyData.hasDict]; exact h1, by simp only [PyData.showable]; exact h2, by simp only [PyData.leavesShort]; exact h3, by simp only [PyData.bulk]; exact hb⟩
      · exact ⟨sd_tup fun e hm => (hs e hm).sd, by simp only [PyData.hasDict]; exact h1, by simp only [PyData.showable]; exact h2, by simp only [PyData.leavesShort]; exact h3, by simp only [PyData.bulk]; exact hb⟩
theorem Sm.up {n m : Nat} {d : PyData} (h : Sm n d) (hm : n ≤ m) : Sm m d := by
  induction m with
  | zero => obtain rfl : n = 0 := by omega
            exact h
  | succ m ih =>
    by_cases c : n = m + 1
    · exact c ▸ h
    · exact .inl (ih (by omega))
theorem SmO.fits {n : Nat} {d : PyData} (h : SmO n d) (hn : n ≤ 3) : d.shown.length ≤ sizeLine := by
  refine PyData.shown_fits_bulk (B := 13) (by decide) (by decide) h.short (Nat.le_trans h.bulk ?_)
  match n, hn with
  | 0, _ => decide
  | 1, _ => decide
  | 2, _ => decide
  | 3, _ => decide
theorem sm_nums {g : List Nat} (h1 : g.length ≤ 40) (h2 : ∀ x ∈ g, x < 1000) : Sm 1 (nums g) := .inr ⟨_, .inl rfl, by rw [List.length_map]; exact h1, fun e he => by
  obtain ⟨x, hx, rfl⟩ := List.mem_map.mp he
  exact .inr (.inr (.inl ⟨x, by have := h2 x hx; omega, rfl⟩))⟩
/-- repr of a small list, of None, of a list with an empty dict -/
theorem rc_repr {G : Hp} {d : PyData} (h : (∃ ds, d = .list ds) ∧ Sm 3 d ∨ d = .none ∨ d = .list [.dict []]) : RC rReprD [dat d] G (dat (.str d.shown)) := fun vs G1 H1 s1 s2 pv Q k => by
  obtain ⟨v, rfl, hv⟩ := allp1 pv
  rcases h with ⟨hl, hs⟩ | rfl | rfl
  · have o := sm_ok hs
    exact ⟨v, d, G1, rfl, s2, hv, o.shw, Nat.le_trans o.sd.2 (by decide), o.fits (by decide), .inr (.inl ⟨hl, o.nod⟩), k _ G1 H1 (.refl s2) (.str _)⟩
  · exact ⟨v, .none, G1, rfl, s2, hv, by simp [PyData.showable], by simp [PyData.depth], by decide +kernel, .inl rfl, k _ G1 H1 (.refl s2) (.str _)⟩
  · exact ⟨v, _, G1, rfl, s2, hv, by simp [PyData.showable, PyData.showableAll, PyData.showableKv], by simp [PyData.depth, PyData.depthAll, PyData.depthKv], by decide +kernel, .inr (.inr rfl), k _ G1 H1 (.refl s2) (.str _)⟩
/-! ### != also of a dict and a list -/
abbrev rNeL (K : PySem.W.Frag) : R2 := fun x y H Q => ∃ a b kvs ys, x = .ref a ∧ y = .ref b ∧ H a = some (.dK kvs) ∧ SqL K H b ys ∧ Q (.bl true) H
abbrev rNeO (K : PySem.W.Frag) : R2 := fun x y H Q => rNeD K x y H Q ∨ rNeL K x y H Q
theorem op_neDict {X : Cx} (hu : X.A.units < cLine) : OpR X (compareOp .NotEq) (rNeL X.K) := by
  intro pins s σ H x y v u Q I rx ry h
  obtain ⟨a, c, kvs, ys, rfl, rfl, ea, hb, q⟩ := h
  obtain rfl : v = Value.ref a := rx
  obtain rfl : u = Value.ref c := ry
  obtain ⟨_, ya, va, ra, o, es, ep, ho, ex, hd, _⟩ := (show ObjOk X.prog X.w H s.heap a (.dK kvs) from I.hok a _ ea)
  obtain ⟨its, rv, ⟨ol, n, hl, hc, hdd, hdat⟩, _⟩ := I.list hb
  obtain ⟨cls, dd, data, sl⟩ := ol
  simp only at hc hdat
  subst hc hdat
  have hne : a ≠ c := fun e => by
    subst e
    rw [ho] at hl
    have e2 := Option.some.inj hl
    have e3 := ex.1
    rw [e2] at e3
    exact absurd e3 (by simp)
  have t1 : s.TypeIs (.ref a) "dict" := ⟨_, ho, ex.1⟩
  have t2 : s.TypeIs (.ref c) "list" := ⟨_, hl, rfl⟩
  exact SeqAt.rc_ne_decline_or (k := false) t1 t2 (by decide) PySem.F.sub_list_dict PySem.F.slot_dict_ne PySem.F.slot_list_ne_refl
    (fun _ hq => call_meets PySem.F.slot_dict_ne t1 PySem.F.entry_dict_ne (PySem.F.args_dict_ne_2 _ _) (dict_ne_declines a c _ _ ex.1 rfl) ⟨ho, hl, hq⟩)
    (fun _ hq => call_meets PySem.F.slot_list_ne_refl t2 PySem.F.entry_list_ne (PySem.F.args_list_ne_2 _ _) (list_ne_declines_dict c a its.toArray n dd sl _ ex.1) ⟨hl, ho, hq⟩)
    (fun _ hq => SeqAt.wpAny_isSame_ref_other' hne ho hl (by simp) hq) (.inr hu) ⟨.bl true, H, I, rfl, q⟩
theorem op_neOK {X : Cx} {K : PySem.W.Frag} (h : X.K = K) (hu : X.A.units + 70 < cLine) : OpR X (compareOp .NotEq) (rNeO K) := h ▸ OpR.or (op_neD (by omega)) (op_neDict (by omega))
section
variable {K : PySem.W.Frag} {G : Hp} {d e : PyData} {ds : List PyData}
theorem ri_neO (hd : SeqAt.shaped d = true) (he : SeqAt.shaped e = true) : RI (rNeO K) (dat d) (dat e) G (dat (.bool (!PyData.eqv d e))) := ri_inl (ri_neD hd he)
theorem ri_neDict : RI (rNeO K) (dat (.dict [])) (dat (.list ds)) G (dat (.bool true)) := ri_inr fun x y G1 H1 s1 s2 px py Q k => by
  obtain ⟨a, xs, rfl, ha, dv⟩ := py.lst_inv
  cases px with
  | dic h => exact ⟨_, a, [], xs, rfl, rfl, s2 _ _ h, SqL.of (s2 _ _ ha), k _ G1 H1 (.refl s2) (.bl true)⟩
end
section
variable {P : Program} {w : World} {K : PySem.W.Frag} {mg : Str → Option Value} {base : Heap}
theorem Tx.hasG (T : Tx K mg) {CX : CXT} {k : Nat} {x : Str} {n : Nat} {ps : List Str} {sp : Sp} (i : Nat)
    (F : ∀ fd, FunD K x x (defArgs (top n)) (defBody (top n)) (defScope (top n)) [] [] (He.ga K x) fd → FnOkG P w K mg base CX k (He.ga K x) fd ps sp)
    (b : ∀ fd, FunD K x x (defArgs (top n)) (defBody (top n)) (defScope (top n)) [] [] (He.ga K x) fd → Binds K fd ps [])
    (h : fn[i]? = some (fd0 x n) := by rfl) (h2 : fa[i]? = some (.glo x) := by rfl) : HasG P w K mg base CX k x ps sp := by
  obtain ⟨fd, F0⟩ := T.c.def_ i h
  have F1 : FunD K x x (defArgs (top n)) (defBody (top n)) (defScope (top n)) [] [] (He.ga K x) fd := F0
  exact ⟨_, fd, F fd F1, T.gloI i h2, F1.kp, b fd F1⟩
end
end Yd
set_option Elab.async false
set_option linter.all false
set_option maxRecDepth 100000
set_option maxHeartbeats 4000000
namespace Yd
open PySem PySem.Spec L2

open PySem.W (AllAlike Sortable)
/-- a slice of a list -/
def slL (ds : List PyData) (lo hi : Option Int) : List PyData := (ds.drop (HT.sIx ds.length 0 lo)).take (HT.sIx ds.length ds.length hi - HT.sIx ds.length 0 lo)
theorem slL_len (ds : List PyData) (lo hi : Option Int) : (slL ds lo hi).length ≤ ds.length := by
  unfold slL
  rw [List.length_take, List.length_drop]; omega
theorem slL_mem {ds : List PyData} {lo hi : Option Int} {d : PyData} (h : d ∈ slL ds lo hi) : d ∈ ds := List.mem_of_mem_drop (List.mem_of_mem_take h)
/-- what the odd lists hold: an atom, [0] -/
def Od0 (d : PyData) : Prop := Sm 1 d
/-- an odd value -/
def Od (d : PyData) : Prop := d = .dict [] ∨ Sm 2 d
def neB (d e : PyData) : Bool := match d with
  | .dict _ => true
  | d => !PyData.eqv d e
def oddB (g : List Nat) (d : PyData) : Bool := neB d (nums g) || !decide (d.shown = (nums g).shown)
def oddP : Pm := ⟨fun v G => ∃ es : List PyData, (∀ e ∈ es, Od e) ∧ es.length ≤ 1000 ∧ DV G v (.list es), fun _ _ _ s ⟨es, h1, h2, h3⟩ => ⟨es, h1, h2, h3.mono s⟩⟩
def preOdd : List V → Hp → Pm → Prop := fun vs G p => ∃ (g : List Nat) (many : Nat), g.length ≤ 6 ∧ (∀ x ∈ g, x < 1000) ∧ many ≤ 1000 ∧ AllP [dat (nums g), dat (.int (many : Int))] vs G ∧ p = oddP
theorem at_int {i : Int} (h : i.natAbs < 10 ^ 9) : At0 (.int i) := .inr (.inr (.inl ⟨i, h, rfl⟩))
theorem sm_lst {n : Nat} {ds : List PyData} (h : ds.length ≤ 40) (he : ∀ e ∈ ds, Sm n e) : Sm (n + 1) (.list ds) := .inr ⟨ds, .inl rfl, h, he⟩
theorem sm_tupl {n : Nat} {ds : List PyData} (h : ds.length ≤ 40) (he : ∀ e ∈ ds, Sm n e) : Sm (n + 1) (.tuple ds) := .inr ⟨ds, .inr rfl, h, he⟩
section
variable {σ : L2.St} {G H G' H' : Hp} {ta tb te : TE} {ds es : List PyData} {i T : Nat} {pu : Addr} {D : Ends} {x : Int}
theorem set_cat_own (ha : Is ta σ G (dat (.list ds))) (hb : Is tb σ G (dat (.list es))) (hz : ds.length + es.length ≤ 100000) (P : PuS pu T G H) (k : ∀ l G2 H2, OwnM pu G H G2 H2 l (ds ++ es) → PuS pu T G2 H2 → D.nx (σ.set i (some (.ref l))) H2) : tAsg (tOp rAddU ta tb) (gName i) D σ H :=
  ha G H (Same.refl _) P.s _ fun x G2 H2 g2 px => hb G2 H2 g2.gg g2.gh _ fun y G3 H3 g3 py => by
    obtain ⟨a, xs, rfl, ha, dv⟩ := (px.mono g3.gg).lst_inv
    obtain ⟨a', xs', rfl, ha', dv'⟩ := py.lst_inv
    have P3 := P.grow (g2.trans g3)
    refine .inr (.inl ⟨a, a', xs, xs', rfl, rfl, g3.gh _ _ ha, g3.gh _ _ ha', by rw [dv.length, dv'.length]; exact sz_of hz, fun l hl => ?_⟩)
    obtain ⟨b, s, t, q, h1, _⟩ := P3.ex
    have ne : l ≠ pu := fun e => by rw [e, h1] at hl; cases hl
    have g4 : Gr0 G H G3 (upd H3 l (.lst (xs ++ xs'))) := (g2.trans g3).trans (.hid g3.gh hl)
    exact k l G3 _ ⟨g4.up, ne, (g2.trans g3).th _ hl, g3.gh.free hl, _, upd_same, dv.append dv'⟩ (P3.wr ne (g3.gh.free hl))
theorem is_un {f : Int → Int} (h : Is te σ G (dat (.int x))) : Is (tUn (rU fun i => .int (f i)) te) σ G (dat (.int (f x))) := fun G1 H1 s1 s2 Q k => h G1 H1 s1 s2 _ fun v G2 H2 g2 pv => ⟨x, pv.int_inv, k _ G2 H2 g2 (.int _)⟩
theorem ri_neS {x y : Str} : RI rNe (dat (.str x)) (dat (.str y)) G (dat (.bool (!decide (x = y)))) := fun a c G1 H1 s1 s2 px py Q k => by
  obtain rfl := (show DV G1 a (.str x) from px).str_inv
  obtain rfl := (show DV G1 c (.str y) from py).str_inv
  refine ⟨rfl, ?_⟩
  have e : decide (V.str x = V.str y) = decide (x = y) := decide_eq_decide.mpr ⟨fun h => by cases h; rfl, fun h => by rw [h]⟩
  rw [e]
  exact k _ G1 H1 (.refl s2) (.bl _)
theorem drt_of {tt : TT} {b : Bool} (h : IsT tt σ G b) : DrT tt σ pu 0 G := fun G1 H1 T s1 P hT Q k => h G1 H1 s1 P.s Q fun G2 H2 g2 => k b G2 H2 g2.up (P.grow g2)
theorem dr_ifB {tt : TT} {b : Bool} {c : Nat} {p : Pm} (h : IsT tt σ G b) (h1 : b = true → Dr ta σ pu c G p) (h2 : b = false → Dr tb σ pu c G p) : Dr (tIf tt ta tb) σ pu c G p := fun G1 H1 T s1 P hT Q k => h G1 H1 s1 P.s _ fun G2 H2 g2 => by
  cases b with
  | true => exact h1 rfl G2 H2 T (s1.trans g2.gg) (P.grow g2) hT _ fun v G3 H3 g3 P3 pv => k v G3 H3 (g2.up.trans g3) P3 pv
  | false => exact h2 rfl G2 H2 T (s1.trans g2.gg) (P.grow g2) hT _ fun v G3 H3 g3 P3 pv => k v G3 H3 (g2.up.trans g3) P3 pv
theorem dr_for_lst {K : PySem.W.Frag} {c : Nat} {p : Pm} {g : TG} {t1 : TS} (h : Dr te σ pu c G p) (P : PuS pu T G H) (hT : T + c ≤ LT) (k : ∀ v G1 H1, Gr (Mp pu) G H G1 H1 → PuS pu (T + c) G1 H1 → p.P v G1 → tFor (iList K (tC v)) g t1 D σ H1) : tFor (iList K te) g t1 D σ H :=
  h G H T (Same.refl _) P hT _ k
def smsP (n : Nat) : Pm := ⟨fun v G => ∃ ds : List PyData, ds.length ≤ n ∧ (∀ e ∈ ds, Sm 1 e) ∧ DV G v (.list ds), fun _ _ _ s ⟨ds, h1, h2, h3⟩ => ⟨ds, h1, h2, h3.mono s⟩⟩
theorem ri_addSm {n : Nat} (h1 : ∀ e ∈ ds, Sm 1 e) (hz : ds.length + n ≤ 1000) : RI rAddU (dat (.list ds)) (smsP n) G (smsP (ds.length + n)) := fun x y G1 H1 s1 s2 px py Q k => by
  obtain ⟨es, h2, h3, dv⟩ := py
  refine ri_addL (es := es) (by omega) x y G1 H1 s1 s2 px dv Q fun v G2 H2 g2 pv => k v G2 H2 g2 ⟨ds ++ es, by rw [List.length_append]; omega, fun e he => ?_, pv⟩
  rcases List.mem_append.mp he with he | he
  · exact h1 e he
  · exact h3 e he
/-- x.append(e) to a list of one's own, beside a purse -/
theorem app_owM {K : PySem.W.Frag} {l : Addr} {d : PyData} (O : OwnM pu G H G' H' l ds) (P : PuS pu T G' H') (hσ : σ[i]? = some (some (.ref l))) (h : Is te σ G' (dat d)) (hz : ds.length < 100000) (k : ∀ G2 H2, OwnM pu G H G2 H2 l (ds ++ [d]) → PuS pu T G2 H2 → Same G' G2 → D.nx σ H2) : tDrop (tBM K "list" rAppend (tVar i) (tCons te tNil)) D σ H' := by
  obtain ⟨vs, h1, h2⟩ := O.ex
  refine app_own hσ h1 O.gn h O.g.gh (by rw [h2.length]; exact hz) fun v G3 H3 g3 pv gn hv => ?_
  have O3 := O.grow g3.up
  exact k G3 _ ⟨O3.g.wr (.inl O.h0) gn, O.ne, O.h0, gn, _, upd_same, (h2.mono g3.gg).append (.one pv)⟩ ((P.grow g3).wr O.ne gn) g3.gg
end
theorem eqv_list {d : PyData} {ds : List PyData} (h : PyData.eqv d (.list ds) = true) (hd : ∀ kvs, d ≠ .dict kvs) : ∃ es, d = .list es := by
  cases d with
  | list es => exact ⟨es, rfl⟩
  | dict kvs => exact absurd rfl (hd kvs)
  | _ => simp [PyData.eqv] at h
theorem neB_of {d e : PyData} (h : d.hasDict = false) : neB d e = !PyData.eqv d e := by
  cases d with
  | dict kvs => simp [PyData.hasDict] at h
  | _ => rfl
theorem flat9 (ds : List PyData) (d : PyData) (h : d ∈ (List.replicate 9 ds).flatten) : d ∈ ds := by
  obtain ⟨l, hl, hd⟩ := List.mem_flatten.mp h
  rw [(List.mem_replicate.mp hl).2] at hd
  exact hd
section
variable {P : Program} {w : World} {K : PySem.W.Frag} {mg : Str → Option Value} {base : Heap}
theorem sc_lodd_lists : FnScope ["_law_purse_here", "_law_value", "_law_many", "_law_found", "_law_at", "_law_odd", "_law_some"] ["_law_purse_here", "_law_value", "_law_many"] (defScope (top 62)) := ⟨rfl, rfl, rfl, by decide +kernel, rfl, by decide +kernel, by decide +kernel⟩
theorem has_lodd_lists (T : Tx K mg) : HasG P w K mg base CX0 3 "_law_odd_lists" ["_law_purse_here", "_law_value", "_law_many"] (PurseSp 10 preOdd) := by
  refine T.hasG 47 (fun fd F => okG F sc_lodd_lists (fun vs H Q E h => ?_) fun cdv A outer s H vs Q E hr hgd h => ?_) (fun fd F => F.bindsN fun _ _ _ _ _ _ us hl => match us, hl with | [_, _, _], _ => rfl)
  · obtain ⟨G, pu, us, T, p, rfl, _, _, ⟨_, _, _, _, _, a, _⟩, _⟩ := h; exact congrArg Nat.succ a.len
  · obtain ⟨G, pu, us, Tm, p, rfl, P0, hT, ⟨g, many, hgl, hgx, hmn, a, rfl⟩, k⟩ := h
    obtain ⟨v1, v2, rfl, d1, d2⟩ := allp2 a
    refine ⟨_, PSs.nox (pss_cons (ps_set (i := 3) sc_lodd_lists.nd rfl (by first | exact Or.inl rfl | exact Or.inr rfl) (pe_op op_addU (pe_lst (pa_cons (pe_non) (pa_cons (pe_tup (pa_nil)) (pa_cons (pe_callTy (call_tuple_ofK (K := K) rfl) (by rfl) (T.free "tuple") (by decide +kernel) (pa_cons (pv 1) (pa_nil))) (pa_cons (pe_op op_addU (pv 1) (pe_lst (pa_cons (pe_int) (pa_nil)))) (pa_cons (pe_slice (sl_listK (K := K) rfl) (pv 1) (po_some (pe_int)) (po_none)) (pa_cons (pe_str) (pa_cons (pe_callTy (call_dictP rfl) (by rfl) (T.free "dict") (by decide +kernel) (pa_cons (pe_lst (pa_nil)) (pa_nil))) (pa_nil))))))))) (pe_lst (pa_cons (pe_op op_mulU (pe_slice (sl_listK (K := K) rfl) (pv 1) (po_none) (po_some (pe_int))) (pe_int)) (pa_nil)))))
      (pss_cons (ps_set (i := 4) sc_lodd_lists.nd rfl (by first | exact Or.inl rfl | exact Or.inr rfl) (pe_ifExp (pt_cmpR (op_neOK (K := K) rfl (un70 hr)) (pv 1) (pe_lst (pa_nil)) (nomark _)) (pe_callH (has_ldraw T) (hr.mono (by decide)) pass0 (pa_cons (pv 0) (pa_cons (pe_callB (call_lenK (K := K) rfl) (by rfl) (T.free "len") (by decide +kernel) (pa_cons (pv 1) (pa_nil))) (pa_nil)))) (pe_int)))
      (pss_cons (ps_for PassesOwn.never rfl (pi_listK (K := K) rfl (pe_op op_addU (pe_lst (pa_cons (pe_non) (pa_cons (pe_bl) (pa_cons (pe_bl) (pa_cons (pe_un un_neg (pe_int)) (pa_cons (pv 2) (pa_cons (pe_str) (pa_cons (pe_lst (pa_cons (pe_int) (pa_nil))) (pa_nil))))))))) (pe_ifExp (pt_cmpR op_gt (pv 2) (pe_int) (nomark _)) (pe_lst (pa_cons (pe_callH (has_ldraw T) (hr.mono (by decide)) pass0 (pa_cons (pv 0) (pa_cons (pv 2) (pa_nil)))) (pa_nil))) (pe_lst (pa_nil))))) (pg_name (i := 5) sc_lodd_lists.nd rfl (by first | exact Or.inl rfl | exact Or.inr rfl)) (pss_one (ps_expr (pe_bm PySem.F.plainAttrs_list PySem.F.slot_list_append PySem.F.type_list_append mt_append (pv 3) (pa_cons (pe_op op_addU (pe_op op_addU (pe_slice (sl_listK (K := K) rfl) (pv 1) (po_none) (po_some (pv 4))) (pe_lst (pa_cons (pv 5) (pa_nil)))) (pe_slice (sl_listK (K := K) rfl) (pv 1) (po_some (pe_op op_addU (pv 4) (pe_int))) (po_none))) (pa_nil))))))
      (pss_one (ps_ret (pe_lc (own := [("_law_some", 6)]) rfl sc_lodd_lists.nd (pi_listK (K := K) rfl (pv 3)) (blkOk_by (by rfl)) (fun _ _ _ _ _ => pg_name (i := 6) sc_lodd_lists.nd rfl (by first | exact Or.inl rfl | exact Or.inr rfl)) (fun _ _ _ _ _ => pts_one (PW.pt (pw_or (pt_cmpR (op_neOK (K := K) rfl (un70 hr)) (pv 6) (pv 1) (nomark _)) (pw_or1 (pt_cmpR op_ne (pe_callB (call_reprD hgd (un70 hr)) (by rfl) (T.free "repr") (by decide +kernel) (pa_cons (pv 6) (pa_nil))) (pe_callB (call_reprD hgd (un70 hr)) (by rfl) (T.free "repr") (by decide +kernel) (pa_cons (pv 1) (pa_nil))) (nomark _)))))) (fun _ _ _ _ _ => pv 6))))))), ?_⟩
    obtain ⟨ns, ens⟩ : ∃ ns : List PyData, ns = g.map fun n : Nat => PyData.int (n : Int) := ⟨_, rfl⟩
    have dn : DV G v1 (.list ns) := ens ▸ d1
    have hnl : ns.length ≤ 6 := by rw [ens, List.length_map]; exact hgl
    have hns : ∀ e ∈ ns, Sm 0 e := fun e he => by
      rw [ens] at he
      obtain ⟨x, hx, rfl⟩ := List.mem_map.mp he
      exact at_int (by have := hgx x hx; omega)
    have sl : ∀ lo hi, (slL ns lo hi).length ≤ 6 ∧ ∀ e ∈ slL ns lo hi, Sm 0 e := fun lo hi => ⟨Nat.le_trans (slL_len _ _ _) hnl, fun e he => hns e (slL_mem he)⟩
    have hfl : ((List.replicate 9 (slL ns none (some 1))).flatten).length ≤ 9 := by
      rw [List.length_flatten, List.map_replicate, List.sum_replicate_nat]
      have : (slL ns none (some 1)).length ≤ 1 := by
        unfold slL
        rw [List.length_take]
        show min (HT.sIx ns.length ns.length (some ((1 : Nat) : Int)) - 0) _ ≤ 1
        rw [HT.sIx_nat]; omega
      omega
    refine set_cat_own (ds := [.none, .tuple [], .tuple ns, .list (ns ++ [.int 0]), .list (slL ns (some 1) none), .str "0", .dict []]) (es := [.list (List.replicate 9 (slL ns none (some 1))).flatten])
      (is_lst (ds := [.none, .tuple [], .tuple ns, .list (ns ++ [.int 0]), .list (slL ns (some 1) none), .str "0", .dict []]) (isa_cons is_non (isa_cons (is_tup (ds := []) isa_nil (Nat.zero_le _)) (isa_cons (is_cb (isa_cons (is_d rfl dn) isa_nil) rc_tupL) (isa_cons (is_op (is_d rfl dn) (is_lst (ds := [.int 0]) (isa_cons (is_int 0) isa_nil) (by simp)) (ri_addL (by simp only [List.length_cons, List.length_nil]; omega))) (isa_cons (is_slice (lo := some 1) (hi := none) (is_d rfl dn) (fun G1 H1 s1 s2 Q k => ip_some (is_int 1) s1 s2 Q k) (fun G1 H1 s1 s2 Q k => ip_none s1 s2 Q k)) (isa_cons (is_str _) (isa_cons ?_ isa_nil))))))) (by simp))
      (is_lst (ds := [.list (List.replicate 9 (slL ns none (some 1))).flatten]) (isa_cons (is_op (is_slice (lo := none) (hi := some 1) (is_d rfl dn) (fun G1 H1 s1 s2 Q k => ip_none s1 s2 Q k) (fun G1 H1 s1 s2 Q k => ip_some (is_int 1) s1 s2 Q k)) (is_int 9) (ri_mulL (k := 9) ?_ (by decide))) isa_nil) (by simp)) (by simp) P0 fun l G1 H1 O1 P1 => ?_
    · refine is_cb (ps := [dat (.list [])]) (isa_cons (is_lst (ds := []) isa_nil (Nat.zero_le _)) isa_nil) fun vs G1 H1 s1 s2 pv Q k => ?_
      obtain ⟨w, rfl, hw⟩ := allp1 pv
      obtain ⟨a, xs, rfl, ha, dv⟩ := (show DV G1 w (.list []) from hw).lst_inv
      cases dv
      exact ⟨a, [], [], rfl, SqL.of (s2 _ _ ha), .nil, fun p hp => k _ (upd G1 p (.dK [])) _ (.new s2 hp) (.dic upd_same)⟩
    · have := (sl none (some 1)).1
      show (slL ns none (some 1)).length * 9 ≤ 100000
      omega
    · have at0 : ∀ e, e ∈ ([.int 0] : List PyData) → Sm 0 e := fun e he => by rw [List.mem_singleton.mp he]; exact at_int (by decide)
      have od1 : ∀ e ∈ [PyData.none, .tuple [], .tuple ns, .list (ns ++ [.int 0]), .list (slL ns (some 1) none), .str "0", .dict []] ++ [.list (List.replicate 9 (slL ns none (some 1))).flatten], Od e := fun e he => by
        simp only [List.cons_append, List.nil_append, List.mem_cons, List.not_mem_nil, or_false] at he
        rcases he with rfl | rfl | rfl | rfl | rfl | rfl | rfl | rfl
        · exact .inr (Sm.up (n := 0) (.inl rfl) (by decide))
        · exact .inr (Sm.up (n := 1) (sm_tupl (by decide) fun e h => absurd h List.not_mem_nil) (by decide))
        · exact .inr (Sm.up (n := 1) (sm_tupl (by omega) hns) (by decide))
        · refine .inr (Sm.up (n := 1) (sm_lst (by rw [List.length_append]; simp only [List.length_cons, List.length_nil]; omega) fun e he => ?_) (by decide))
          rcases List.mem_append.mp he with he | he
          · exact hns e he
          · exact at0 e he
        · exact .inr (Sm.up (n := 1) (sm_lst (by have := (sl (some 1) none).1; omega) (sl _ _).2) (by decide))
        · exact .inr (Sm.up (n := 0) (.inr (.inr (.inr rfl))) (by decide))
        · exact .inl rfl
        · exact .inr (Sm.up (n := 1) (sm_lst (by omega) fun e he => (sl _ _).2 e (flat9 _ _ he)) (by decide))
      have hLT : LT = 1000000000 := rfl
      have dn1 := dn.mono O1.g.gg
      have d21 := d2.mono O1.g.gg
      have sdn : SeqAt.shaped (.list ns) = true := by rw [ens]; exact Sd.sh (n := 1) (sd_nums g)
      refine set_dr (c := 1) (p := belP 7) (dr_ifB (b := !ns.isEmpty) (IsT.eqb (ist_test (is_op (is_d rfl dn1) (is_lst (ds := []) isa_nil (Nat.zero_le _)) (ri_neO sdn (Sd.sh (n := 1) sd_nil)))) (by rw [eqv_nil])) (fun hb => (dr_len rfl (is_d rfl dn1) ?_ (by omega)).imp fun v G2 _ hv => bel_le (by omega) v G2 hv) fun hb => ((Dr.of (is_int 0)).imp (q := belP 7) fun v G2 _ hv => ⟨0, by decide, hv.int_inv⟩).up (by decide)) P1 (by omega) fun v4 G2 H2 g2 P2 p4 => ?_
      · cases ns with
        | nil => cases hb
        | cons a r => simp
      obtain ⟨r, hr7, rfl⟩ := p4
      have O2 := O1.grow g2
      have dn2 := dn1.mono g2.gg
      refine dr_for_lst (c := 0 + 1) (p := smsP (7 + 1)) (dr_op (Dr.of (is_lst (ds := [.none, .bool true, .bool false, .int (-1), .int (many : Int), .str "0", .list [.int 0]]) (isa_cons is_non (isa_cons (is_bl true) (isa_cons (is_bl false) (isa_cons (is_un (f := fun i => -i) (is_int 1)) (isa_cons (is_d rfl (d21.mono g2.gg)) (isa_cons (is_str _) (isa_cons (is_lst (ds := [.int 0]) (isa_cons (is_int 0) isa_nil) (by simp)) isa_nil))))))) (by simp))) (dr_ifB (p := smsP 1) (b := decide ((many : Int) > 0)) (ist_test (is_op (is_d rfl (d21.mono g2.gg)) (is_int 0) (ri_B (g := fun i j => decide (i > j))))) (fun hb => (dr_lstX (ps := [belP many]) (R := fun ds => ds.length ≤ 1 ∧ ∀ e ∈ ds, Sm 1 e) (dra_cons (dr_draw (m := many) rfl (is_d rfl (d21.mono g2.gg)) (by have := of_decide_eq_true hb; omega) (by omega)) dra_nil) (fun vs G3 a => ?_) fun v G3 ⟨ds, ⟨h1, h2⟩, dv⟩ => ⟨ds, h1, h2, dv⟩)) fun hb => ((Dr.of (is_lst (ds := []) isa_nil (Nat.zero_le _))).imp (q := smsP 1) fun v G3 _ hv => ⟨[], by simp, fun e h => absurd h List.not_mem_nil, hv⟩).up (by decide)) (ri_addSm (fun e he => ?_) (by simp))) P2 (by omega) fun vl G3 H3 g3 P3 pl => ?_
      · obtain ⟨w, rfl, ⟨q, hq, rfl⟩⟩ := allp1 a
        exact ⟨[.int (q : Int)], .one (.int _), by simp, by simp, fun e he => by rw [List.mem_singleton.mp he]; exact .inl (at_int (by omega))⟩
      · simp only [List.mem_cons, List.not_mem_nil, or_false] at he
        rcases he with rfl | rfl | rfl | rfl | rfl | rfl | rfl
        · exact .inl (.inl rfl)
        · exact .inl (.inr (.inl ⟨_, rfl⟩))
        · exact .inl (.inr (.inl ⟨_, rfl⟩))
        · exact .inl (at_int (by decide))
        · exact .inl (at_int (by omega))
        · exact .inl (.inr (.inr (.inr rfl)))
        · exact sm_lst (by simp) at0
      obtain ⟨ls, hl1, hl2, dl⟩ := pl
      have O3 := O2.grow g3
      have dn3 := dn2.mono g3.gg
      refine for_dat (ds := ls) (G := G3) (is_c dl) O3.g.gh (fun i σ' G' H' => (∃ x5 fs, σ' = [some (.ref pu), some v1, some v2, some (.ref l), some (.int (r : Int)), x5, none] ∧ OwnM pu G H G' H' l fs ∧ (∀ e ∈ fs, Od e) ∧ fs.length ≤ 8 + i) ∧ PuS pu (Tm + 2) G' H')
        (fun G4 H4 g4 => ⟨⟨_, _, rfl, O3.grow g4.up, od1, by simp⟩, (P3.grow g4).up (by omega)⟩) ?_ ?_
      · rintro i x d σ' G4 H4 hi hx zs zg ⟨⟨x5, fs, rfl, O4, hf1, hf2⟩, P4⟩
        have hil := (List.getElem?_eq_some_iff.mp hi).1
        refine ⟨_, gt_name, fun N hN => ?_⟩
        have dn4 := dn3.mono zg
        have s1 := sl none (some (r : Int))
        have s2 := sl (some ((r : Int) + 1)) none
        refine app_owM (d := .list (slL ns none (some (r : Int)) ++ [d] ++ slL ns (some ((r : Int) + 1)) none)) O4 P4 rfl (is_op (is_op (is_slice (lo := none) (hi := some (r : Int)) (is_d rfl dn4) (fun G1 H1 s1 s2 Q k => ip_none s1 s2 Q k) (fun G1 H1 s1 s2 Q k => ip_some (is_d (d := .int (r : Int)) rfl (.int _)) s1 s2 Q k)) (is_lst (ds := [d]) (isa_cons (is_d rfl hx) isa_nil) (by simp)) (ri_addL ?_)) (is_slice (lo := some ((r : Int) + 1)) (hi := none) (is_d rfl dn4) (fun G1 H1 s1 s2 Q k => ip_some (is_op (is_d (d := .int (r : Int)) rfl (.int _)) (is_int 1) ri_addI) s1 s2 Q k) (fun G1 H1 s1 s2 Q k => ip_none s1 s2 Q k)) (ri_addL ?_)) (by omega) fun G5 H5 O5 P5 s5 => hN _ G5 H5 s5 O5.g.gh ⟨⟨_, _, rfl, O5, fun e he => ?_, by rw [List.length_append]; simp only [List.length_cons, List.length_nil]; omega⟩, P5⟩
        · show (slL ns none (some (r : Int))).length + 1 ≤ 100000
          omega
        · show (slL ns none (some (r : Int)) ++ [d]).length + (slL ns (some ((r : Int) + 1)) none).length ≤ 100000
          rw [List.length_append]
          simp only [List.length_cons, List.length_nil]; omega
        · rcases List.mem_append.mp he with he | he
          · exact hf1 e he
          · rw [List.mem_singleton.mp he]
            refine .inr (sm_lst (by rw [List.length_append, List.length_append]; simp only [List.length_cons, List.length_nil]; omega) fun e he => ?_)
            rcases List.mem_append.mp he with he | he
            · rcases List.mem_append.mp he with he | he
              · exact .inl (s1.2 e he)
              · rw [List.mem_singleton.mp he]; exact hl2 d (List.mem_of_getElem? hi)
            · exact .inl (s2.2 e he)
      · rintro σ' G4 H4 zs zg ⟨⟨x5, fs, rfl, O4, hf1, hf2⟩, P4⟩
        obtain ⟨G5, g5, dv, s5, e5⟩ := O4.fin
        have P5 := P4.sho g5.gh (e5.trans P4.gn)
        have d15 := (dn3.mono zg).mono s5
        have d1N : DV G5 v1 (nums g) := ((((d1.mono O1.g.gg).mono g2.gg).mono g3.gg).mono zg).mono s5
        dsimp only
        have hfl2 := List.length_filter_le (oddB g) fs
        refine ret_is (p := dat (.list ((fs.filter (oddB g)).map id))) (G := G5) (is_lcA id (xs := fs) (p := oddB g) (q := id) (is_d rfl (by rw [List.map_id]; exact dv)) (by omega) fun w d G6 hd s6 hw => ⟨_, gt_name, rfl, IsT.eqb (ist_or (b := neB d (nums g)) (c := !decide (d.shown = (nums g).shown)) ?_ fun hb => ?_) rfl, fun _ => is_d rfl hw⟩) g5.gh fun v G6 H6 g6 pv => k v G6 H6 (g5.tr0 g6) ((P5.grow g6).up (by omega)) ⟨_, fun e he => ?_, ?_, pv⟩
        · rcases hf1 d hd with rfl | hs
          · exact ist_test (is_op (is_d rfl hw) (is_d rfl (d15.mono s6)) ri_neDict)
          · have o := sm_ok hs
            rw [neB_of o.nod]
            exact ist_test (is_op (is_d rfl hw) (is_d (d := nums g) rfl (d1N.mono s6)) (ri_neO (Sd.sh o.sd) (Sd.sh (n := 1) (sd_nums g))))
        · rcases hf1 d hd with rfl | hs
          · cases hb
          · have o := sm_ok hs
            rw [neB_of o.nod] at hb
            have he : PyData.eqv d (nums g) = true := by simpa using hb
            have hl := eqv_list he fun kvs e => by rw [e] at o; have := o.nod; simp [PyData.hasDict] at this
            exact ist_test (is_op (is_cb (isa_cons (is_d rfl hw) isa_nil) (rc_repr (.inl ⟨hl, hs.up (by decide)⟩))) (is_cb (isa_cons (is_d (d := nums g) rfl (d1N.mono s6)) isa_nil) (rc_repr (.inl ⟨⟨_, rfl⟩, (sm_nums (by omega) hgx).up (by decide)⟩))) ri_neS)
        · rw [List.map_id] at he
          exact hf1 e (List.mem_filter.mp he).1
        · rw [List.length_map]; omega

end
end Yd
set_option Elab.async false
set_option linter.all false
set_option maxRecDepth 100000
set_option maxHeartbeats 4000000
namespace Yd
open PySem PySem.Spec L2

def testW (way n : Nat) (ls : List Road) (k : Str) (m : Nat) (ms : List Road) (d : PyData) : Bool := if way = 0 then testOn n ls k m ms d else testBack n ls k m ms d
def caughtD (way n : Nat) (ls : List Road) (k : Str) (m : Nat) (ms : List Road) (d : PyData) : PyData := if testW way n ls k m ms d = true then .none else .list [d]
def preCaught (K : PySem.W.Frag) : List V → Hp → Pm → Prop := fun vs G p => ∃ (way n : Nat) (ls : List Road) (k : Str) (m : Nat) (ms : List Road) (d : PyData), DyeArg n ls k m ms d ∧ AllP [dat (.int (way : Int)), web K n ls, dat (.str k), web K m ms, dat d] vs G ∧ p = dat (caughtD way n ls k m ms d)
section
variable {P : Program} {w : World} {K : PySem.W.Frag} {mg : Str → Option Value} {base : Heap}
theorem sc_lcaught : FnScope ["_law_way", "_law_web", "_law_kind", "_law_dyes", "_law_value", "_law_caught_here", "error"] ["_law_way", "_law_web", "_law_kind", "_law_dyes", "_law_value"] (defScope (top 63)) := ⟨rfl, rfl, rfl, by decide +kernel, rfl, by decide +kernel, by decide +kernel⟩
theorem has_lcaught {C fI : Addr} (T : Tx K mg) (LX : LeadTxt P K mg C fI) : Has P w K mg base CX0 10 "_law_caught" ["_law_way", "_law_web", "_law_kind", "_law_dyes", "_law_value"] (PureSp (preCaught K)) := by
  refine T.has 48 (fun fd F => F.ok sc_lcaught (fun vs H Q E h => ?_) fun cdv A outer s H vs Q E hr h => ?_) (fun fd F => F.bindsN fun _ _ _ _ _ _ us hl => match us, hl with | [_, _, _, _, _], _ => rfl)
  · obtain ⟨G, p, _, ⟨_, _, _, _, _, _, _, _, a, _⟩, _⟩ := h; exact a.len
  · obtain ⟨G, p, z, ⟨way, n, ls, kd, m, ms, d, da, a, rfl⟩, k⟩ := h
    obtain ⟨v0, v1, v2, v3, v4, rfl, d0', d1, d2, d3, d4⟩ := allp5 a
    obtain ⟨f1, fd1, F1, hm1, hk1, hb1⟩ := has_dyed_on (P := P) (w := w) (base := base) T LX
    obtain ⟨f2, fd2, F2, hm2, hk2, hb2⟩ := has_dyed_back (P := P) (w := w) (base := base) T LX
    refine ⟨_, pss_cons (ps_set (i := 5) sc_lcaught.nd rfl (by first | exact Or.inl rfl | exact Or.inr rfl) pe_non)
      (pss_cons (ps_try_as (i := 6) (tb := fun W => tIfS (tTest (tOp (rEqD K) (tVar 0) (tC (.int 0)))) (tDrop (tCallS (spDyed K C testOn resOn) (WE W) (tCons (tVar 1) (tCons (tVar 2) (tCons (tVar 3) (tCons (tVar 4) tNil)))))) (tDrop (tCallS (spDyed K C testBack resBack) (WE W) (tCons (tVar 1) (tCons (tVar 2) (tCons (tVar 3) (tCons (tVar 4) tNil))))))) (ts := fun a cls d => tAsg (tLst (tCons (tValLead C a cls d (tVar 6)) tNil)) (gName 5)) (Wout := fun _ _ _ _ => False) rfl rfl sc_lcaught.nd rfl rfl ⟨rfl, by decide, Or.inl LX.gC⟩ takes0
        (fun W pn xe tk _ => pss_one (ps_if (pt_cmpR (op_eqDK (K := K) rfl (un70 hr)) (pv 0) pe_int (nomark _)) (pss_one (ps_expr (by exact (pe_callS F1 (hr.mono (by decide)) rfl hm1 hk1 hb1 (fun σ => passAt tk σ) (by exact (pa_cons (pv 1) (pa_cons (pv 2) (pa_cons (pv 3) (pa_cons (pv 4) pa_nil))))))))) (pss_one (ps_expr (by exact (pe_callS F2 (hr.mono (by decide)) rfl hm2 hk2 hb2 (fun σ => passAt tk σ) (by exact (pa_cons (pv 1) (pa_cons (pv 2) (pa_cons (pv 3) (pa_cons (pv 4) pa_nil)))))))))))
        (fun a oe cls d pn hz hf => pss_one (ps_set (i := 5) sc_lcaught.nd rfl (by first | exact Or.inl rfl | exact Or.inr rfl) (by exact (pe_lst (pa_cons (pe_valLead LX hz hf (pv 6)) pa_nil))))))
      (pss_one (ps_ret (pv 5)))), ?_⟩
    refine set_is is_non z fun v5 G1 H1 g1 p5 => ?_
    obtain rfl := (show DV G1 v5 .none from p5).non_inv
    have key : ∀ G2 H2, Gr0 G1 H1 G2 H2 → ∀ test res, testW way n ls kd m ms d = test n ls kd m ms d → spDyed K C test res [v1, v2, v3, v4] H2 (fun _ H3 => tRet (tVar 5) { nx := fun _ H' => Q .non H', rt := Q } [some v0, some v1, some v2, some v3, some v4, some .non, none] H3)
        (WE (wAs K (.ref C) 6 (fun a cls d => tAsg (tLst (tCons (tValLead C a cls d (tVar 6)) tNil)) (gName 5)) (fun _ _ _ _ => False) { nx := tRet (tVar 5) { nx := fun _ H' => Q .non H', rt := Q }, rt := Q }) [some v0, some v1, some v2, some v3, some v4, some .non, none]) := by
      intro G2 H2 g2 test res et
      have g12 := g1.trans g2
      refine ⟨G2, n, ls, kd, m, ms, d, v1, v2, v3, v4, g2.gh, da, rfl, (web K n ls).mono _ _ _ g12.gg d1, d2.mono g12.gg, (web K m ms).mono _ _ _ g12.gg d3, d4.mono g12.gg, fun ht G3 H3 dd g3 gd hd => ?_, fun g _ ht l G3 H3 g3 _ _ _ => ?_⟩
      · refine ⟨true, LX.te, fun _ a ha => ?_, fun hb => nomatch hb⟩
        refine ⟨_, rfl, rfl, rfl, dd, v4, rfl, hd, by show 1 ≤ sizeLine; decide, fun l hl => ?_⟩
        refine ⟨_, rfl, k _ (upd G3 l (.lst [v4])) _ (g12.trans (g3.trans (.new g3.gh hl))) ?_⟩
        have e : caughtD way n ls kd m ms d = .list [d] := by unfold caughtD; rw [et, ht]; rfl
        rw [e]
        exact .lst upd_same (.one (d4.mono (g12.trans (g3.trans (Gr.new (M := No) (o := .lst [v4]) g3.gh hl))).gg))
      · refine ⟨_, rfl, k _ G3 H3 (g12.trans g3) ?_⟩
        have e : caughtD way n ls kd m ms d = .none := by unfold caughtD; rw [et, ht]; rfl
        rw [e]
        exact .non
    refine if_is (b := decide ((way : Int) = 0)) (IsT.eqb (ist_test (is_op (is_d rfl (d0'.mono g1.gg)) (is_int 0) (ri_eqD (Sd.sh (n := 1) (sd_int _)) (Sd.sh (n := 1) (sd_int _))))) (eqv_int _ _)) g1.gh (fun hb G2 H2 g2 => ?_) fun hb G2 H2 g2 => ?_
    · exact ⟨_, rfl, _, rfl, _, rfl, _, rfl, key G2 H2 g2 testOn resOn (by unfold testW; rw [if_pos (by have := of_decide_eq_true hb; omega)])⟩
    · exact ⟨_, rfl, _, rfl, _, rfl, _, rfl, key G2 H2 g2 testBack resBack (by unfold testW; rw [if_neg (by have := of_decide_eq_false hb; omega)])⟩
end
end Yd
set_option Elab.async false
set_option linter.all false
set_option maxRecDepth 100000
set_option maxHeartbeats 4000000
namespace Yd
open PySem PySem.Spec L2

/-- the text's own == of Web, where the class looks it up -/
structure TxE (K : PySem.W.Frag) : Prop where
  m : Meth K (He.ga K "Web") "__eq__" (He.ma K (He.ga K "Web") "__eq__")
def webR (K : PySem.W.Frag) : Addr → Addr → Hp → Prop := fun a b H => ∃ n ls, (∀ r ∈ ls, KindOk r.1) ∧ WebV K n ls (.ref a) H ∧ WebV K n ls (.ref b) H
theorem webEq_sd {n : Nat} {ls : List Road} (h : ∀ r ∈ ls, KindOk r.1) : SeqAt.shaped (.tuple [.int (n : Int), .list (ls.map rd)]) = true := Sd.sh (n := 6) (sd_tup fun d hd => by
  simp only [List.mem_cons, List.not_mem_nil, or_false] at hd
  rcases hd with rfl | rfl
  · exact sd_int _
  · exact sd_rds h)
theorem webEq_pl (n : Nat) (ls : List Road) : Pl (.tuple [.int (n : Int), .list (ls.map rd)]) := .tup fun d hd => by
  simp only [List.mem_cons, List.not_mem_nil, or_false] at hd
  rcases hd with rfl | rfl
  · exact .int _
  · exact pl_rds _
section
variable {P : Program} {w : World} {K : PySem.W.Frag} {mg : Str → Option Value} {base : Heap}
theorem sc_Web___eq : FnScope ["self", "other"] ["self", "other"] (defScope (inClass (top 21) 9)) := ⟨rfl, rfl, rfl, by decide +kernel, rfl, by decide +kernel, by decide +kernel⟩
theorem has_Web___eq (T : Tx K mg) : HasM P w K mg base CX0 1 "__eq__" ["self", "other"] (spEq (webR K)) := by
  refine T.hasM (q := "Web.__eq__") (j := 9) 55 (fun fd F => F.ok sc_Web___eq (fun vs H Q E h => ?_) fun cdv A outer s H vs Q E hr h => ?_) (fun fd F => F.bindsN fun _ _ _ _ _ _ us hl => match us, hl with | [_, _], _ => rfl)
  · obtain ⟨_, _, rfl, _⟩ := h; rfl
  · obtain ⟨a, b, rfl, ⟨n, ls, hk, ha, hb⟩, k⟩ := h
    refine ⟨_, PSs.nox (pss_one (ps_ret (pe_and (pe_callB (call_isiK (K := K) rfl) (by rfl) (T.free "isinstance") (by decide +kernel) (pa_cons (pv 1) (pa_cons (pe_glob (v := .ref (He.ga K "Web")) rfl T.gWeb rfl) (pa_nil)))) (pe_one (pe_cmpR (op_eqDK (K := K) rfl (un70 hr)) (pe_tup (pa_cons (pe_fldK (K := K) rfl (pv 0) rfl) (pa_cons (pe_fldK (K := K) rfl (pv 0) rfl) (pa_nil)))) (pe_tup (pa_cons (pe_fldK (K := K) rfl (pv 1) rfl) (pa_cons (pe_fldK (K := K) rfl (pv 1) rfl) (pa_nil)))) (nomark _)))))), ?_⟩
    have ha' : (web K n ls).P (.ref a) H := ha
    have hb' : (web K n ls).P (.ref b) H := hb
    refine ret_is (p := dat (.bool true)) (G := H) (Is.eqd (is_andV (is_cb (isa_cons (is_var rfl hb') (isa_cons is_web_cls isa_nil)) (rc_isWeb T)) fun _ => is_op (is_tup (ds := [.int (n : Int), .list (ls.map rd)]) (isa_cons (is_many T (is_var rfl ha')) (isa_cons (is_lines T (is_var rfl ha')) isa_nil)) (by simp)) (is_tup (ds := [.int (n : Int), .list (ls.map rd)]) (isa_cons (is_many T (is_var rfl hb')) (isa_cons (is_lines T (is_var rfl hb')) isa_nil)) (by simp)) (ri_eqD (webEq_sd hk) (webEq_sd hk))) ?_) (Same.refl _) fun v G2 H2 g2 pv => ?_
    · rw [((webEq_pl n ls).eqv (webEq_pl n ls)).mpr rfl]; rfl
    · obtain rfl := (show DV G2 v (.bool true) from pv).bl_inv
      exact k H2 g2.same

end
theorem op_eqWeb {X : Cx} (T : Tx X.K X.mg) (E : TxE X.K) (hr : Room 1 X.A) : OpR X (compareOp .Eq) (rEqG (DIns (He.ga X.K "Web") (webR X.K))) := by
  obtain ⟨fd, F, hb⟩ := has_Web___eq (P := X.prog) (w := X.w) (base := X.base) T
  exact op_eqG (rcG_ins F E.m.at_ E.m.fn hb pass0) hr
section
variable {K : PySem.W.Frag} {G : Hp} {n : Nat} {ls : List Road}
theorem ri_eqWeb (hk : ∀ r ∈ ls, KindOk r.1) : RI (rEqG (DIns (He.ga K "Web") (webR K))) (web K n ls) (web K n ls) G (dat (.bool true)) := fun x y G1 H1 s1 s2 px py Q k => by
  obtain ⟨a, dx, fs, ex, ha, _⟩ := id px
  obtain ⟨c, dy, gs, ey, hc, _⟩ := id py
  subst ex ey
  refine ⟨⟨a, c, dx, dy, fs, gs, rfl, rfl, s2 _ _ ha, s2 _ _ hc, n, ls, hk, (web K n ls).mono _ _ _ s2 px, (web K n ls).mono _ _ _ s2 py⟩, fun H' e => ?_⟩
  exact k _ G1 H' (Gr.mk0 s2 (Same.refl _) (fun b o q => e b o (s2 b o q)) (fun b o q => e b o q) fun b q z => absurd q z) (.bl true)
end
end Yd
set_option Elab.async false
set_option linter.all false
set_option maxRecDepth 100000
set_option maxHeartbeats 4000000
namespace Yd
open PySem PySem.Spec L2

def preKindsR : List V → Hp → Pm → Prop := fun vs G p => ∃ (m : Nat) (ms : List Road) (ks : List Str), m ≤ 5 ∧ WebOk m ms ∧ (∀ k ∈ ks, KindOk k) ∧ ks.length ≤ 1000 ∧ AllP [dat (lwD m ms), dat (.list (ks.map .str))] vs G ∧ p = dat (.bool true)
theorem sm_pairs {ps : List (List Nat × List Nat)} (h : ps.length ≤ 32) (hp : ∀ p ∈ ps, p.1.length ≤ 40 ∧ p.2.length ≤ 40 ∧ (∀ x ∈ p.1, x < 1000) ∧ ∀ x ∈ p.2, x < 1000) : Sm 3 (.list (ps.map prD)) := sm_lst (by rw [List.length_map]; omega) fun e he => by
  obtain ⟨p, hm, rfl⟩ := List.mem_map.mp he
  obtain ⟨h1, h2, h3, h4⟩ := hp p hm
  exact sm_tupl (by simp) fun e he => by
    simp only [List.mem_cons, List.not_mem_nil, or_false] at he
    rcases he with rfl | rfl
    · exact sm_nums h1 h3
    · exact sm_nums h2 h4
theorem pairs_sm {m : Nat} {k : Str} {ms : List Road} (hm : m ≤ 5) {p : List Nat × List Nat} (h : p ∈ pairsL m k ms) : p.1.length ≤ 40 ∧ p.2.length ≤ 40 ∧ (∀ x ∈ p.1, x < 1000) ∧ ∀ x ∈ p.2, x < 1000 := by
  obtain ⟨a, c⟩ := p
  obtain ⟨h1, _, rfl⟩ := mem_pairs.mp h
  obtain ⟨h2, h3⟩ := mem_subs.mp h1
  have hl := asc_len h2 h3
  have hl2 := ahead_len m k ms a
  refine ⟨by show a.length ≤ 40; omega, by show (aheadL m k ms a).length ≤ 40; omega, fun x hx => by have := h3 x hx; omega, fun x hx => ?_⟩
  have := (mem_ahead.mp hx).1
  omega
theorem at_last {xs : List V} {v : V} (h : xs[xs.length - 1]? = some v) : atI xs (-1) = some v := by
  have hl : 0 < xs.length := by
    cases xs with
    | nil => simp at h
    | cons a r => simp
  unfold atI ixN
  rw [if_neg (by omega), if_pos (by omega)]
  show xs[((-1 : Int) + (xs.length : Int)).toNat]? = some v
  rw [show ((-1 : Int) + (xs.length : Int)).toNat = xs.length - 1 by omega]
  exact h
theorem pr_parts {F : Hp} {v : V} {p : List Nat × List Nat} (h : DV F v (prD p)) : ∃ t l r, v = .ref t ∧ F t = some (.tup [.ref l, .ref r]) ∧ F l = some (.lst (p.1.map vN)) ∧ F r = some (.lst (p.2.map vN)) := by
  obtain ⟨t, us, rfl, ht, dv⟩ := h.tup_inv
  cases dv with
  | cons h1 t1 =>
    cases t1 with
    | cons h2 t2 =>
      cases t2
      obtain ⟨l, xs, rfl, hl, dl⟩ := (show DV F _ (.list _) from h1).lst_inv
      obtain ⟨r, ys, rfl, hr, dr⟩ := (show DV F _ (.list _) from h2).lst_inv
      exact ⟨t, l, r, rfl, ht, by rw [hl, dvs_nums_inv dl], by rw [hr, dvs_nums_inv dr]⟩
theorem told_parts {F : Hp} {v : V} {ps : List (List Nat × List Nat)} (h : DV F v (.list (ps.map prD))) (hne : ps ≠ []) : ∃ a xs t0 l0 r0 n0 t1 l1 r1 n1, v = .ref a ∧ F a = some (.lst xs) ∧ xs.length = ps.length ∧ xs[0]? = some (.ref t0) ∧ F t0 = some (.tup [.ref l0, r0]) ∧ F l0 = some (.lst (n0.map vN)) ∧
    (∃ p ∈ ps, n0 = p.1) ∧ xs[xs.length - 1]? = some (.ref t1) ∧ F t1 = some (.tup [l1, .ref r1]) ∧ F r1 = some (.lst (n1.map vN)) ∧ ∃ p ∈ ps, n1 = p.2 := by
  obtain ⟨a, xs, rfl, ha, dv⟩ := h.lst_inv
  have hl := dv.length
  rw [List.length_map] at hl
  have hp : 0 < ps.length := List.length_pos_iff.mpr hne
  obtain ⟨x0, hx0, d0⟩ := dv.get (i := 0) (d := prD ps[0]) (by rw [List.getElem?_map, List.getElem?_eq_getElem hp]; rfl)
  obtain ⟨x1, hx1, d1⟩ := dv.get (i := ps.length - 1) (d := prD (ps[ps.length - 1]'(by omega))) (by rw [List.getElem?_map, List.getElem?_eq_getElem (by omega)]; rfl)
  obtain ⟨t0, l0, r0, rfl, e1, e2, e3⟩ := pr_parts d0
  obtain ⟨t1, l1, r1, rfl, e4, e5, e6⟩ := pr_parts d1
  exact ⟨a, xs, t0, l0, _, _, t1, _, r1, _, rfl, ha, hl, hx0, e1, e2, ⟨_, List.getElem_mem hp, rfl⟩, by rw [hl]; exact hx1, e4, e6, ⟨_, List.getElem_mem (by omega), rfl⟩⟩
theorem ref_vN {ns : List Nat} {a : Addr} {i : Nat} (h : (ns.map vN)[i]? = some (.ref a)) : False := by
  rw [List.getElem?_map, Option.map_eq_some_iff] at h
  obtain ⟨x, _, e⟩ := h
  cases e
section
variable {σ : L2.St} {G F H U H2 H3 : Hp} {te te2 : TE} {tt : TT} {i j : Nat} {p : Pm} {b : Bool} {D : Ends} {K : PySem.W.Frag} {E : XK} {ta : TA} {m : Nat} {ms : List Road} {k : Str}
/-- a test over what is seen and a region of its own -/
theorem uni_test (s : Same G H) (f : Same F H) (h : IsT tt σ (uni G F) b) : AtT tt σ G H b := fun Q kk => h (uni G F) H (Same.refl _) (uni_s s f) _ fun G2 H2 g2 => kk G2 H2 |> fun kk' => by
  exact kk G H2 (g2.hidE s)
/-- x, y = e, pairs(..): the pairs in a region of their own -/
theorem par_region (h : Is te σ G p) (ha : IsA ta σ G [web K m ms, dat (.str k)]) (hm : m ≤ 5) (hz : ms.length ≤ 1024) (hk : KindOk k) (s : Same G H) (kk : ∀ v w G2 H2 F, Gr0 G H G2 H2 → p.P v G2 → Same F H2 → (∀ c o, F c = some o → G2 c = none ∧ H c = none) → DV F w (.list ((pairsL m k ms).map prD)) → D.nx ((σ.set i (some v)).set j (some w)) H2) :
    tPar i j (tCons te (tCons (tCall (spPairs K) [] E ta) tNil)) D σ H :=
  h G H (Same.refl _) s _ fun v G2 H2 g2 pv => ha G2 H2 g2.gg g2.gh _ fun us G3 H3 g3 pu => by
    show spPairs K (us ++ []) H3 _ E
    rw [List.append_nil]
    refine ⟨G3, m, ms, k, g3.gh, hm, hz, hk, pu, fun w F H4 g4 dv => ?_⟩
    have g5 : Gr0 G3 H3 G3 H4 := g4.hidE g3.gh
    refine ⟨_, _, rfl, kk v w G3 H4 F (g2.trans (g3.trans g5)) (p.mono _ _ _ g3.gg pv) g4.gh (fun c o e => ?_) dv⟩
    have hn : H3 c = none := g4.nw c rfl (by rw [e]; exact fun z => nomatch z)
    exact ⟨g3.gh.free hn, (g2.trans g3).th _ hn⟩
end
section
variable {P : Program} {w : World} {K : PySem.W.Frag} {mg : Str → Option Value} {base : Heap}
theorem sc_lkinds_right : FnScope ["_law_dyes", "_law_kinds", "_law_same_dyes", "_law_kind", "_law_some", "_law_told", "_law_pair_web_here", "_law_made"] ["_law_dyes", "_law_kinds"] (defScope (top 65)) := ⟨rfl, rfl, rfl, by decide +kernel, rfl, by decide +kernel, by decide +kernel⟩
theorem has_lkinds_right (TE : TxE K) (T : Tx K mg) : HasG P w K mg base CX0 10 "_law_kinds_right" ["_law_dyes", "_law_kinds"] (PureSp preKindsR) := by
  refine T.hasG 50 (fun fd F => okG F sc_lkinds_right (fun vs H Q E h => ?_) fun cdv A outer s H vs Q E hr hgd h => ?_) (fun fd F => F.bindsN fun _ _ _ _ _ _ us hl => match us, hl with | [_, _], _ => rfl)
  · obtain ⟨G, p, _, ⟨_, _, _, _, _, _, _, a, _⟩, _⟩ := h; exact a.len
  · obtain ⟨G, p, z, ⟨m, ms, ks, hm, hw, hks, hkz, a, rfl⟩, k⟩ := h
    obtain ⟨v0, v1, rfl, d0', d1⟩ := allp2 a
    refine ⟨_, PSs.nox (pss_cons (ps_set (i := 2) sc_lkinds_right.nd rfl (by first | exact Or.inl rfl | exact Or.inr rfl) (pe_callH (has_lobject T) (hr.mono (by decide)) pass0 (pa_cons (pv 0) (pa_nil))))
      (pss_cons (ps_for PassesOwn.never rfl (pi_listK (K := K) rfl (pe_op op_addU (pv 1) (pe_revK (K := K) rfl (pv 1)))) (pg_name (i := 3) sc_lkinds_right.nd rfl (by first | exact Or.inl rfl | exact Or.inr rfl)) (pss_cons (ps_par (i := 4) (j := 5) rfl sc_lkinds_right.nd rfl rfl (by decide) rfl rfl (pa_cons (pe_callH (has_lpairs_of T) (hr.mono (by decide)) pass0 (pa_cons (pv 0) (pa_cons (pv 3) (pa_nil)))) (pa_cons (pe_callH (has_pairs T) (hr.mono (by decide)) pass0 (pa_cons (pv 2) (pa_cons (pv 3) (pa_nil)))) (pa_nil))) (by rfl))
        (pss_cons (ps_par (i := 6) (j := 7) rfl sc_lkinds_right.nd rfl rfl (by decide) rfl rfl (pa_cons (pe_callH (has_lpair_web T) (hr.mono (by decide)) pass0 (pa_cons (pv 4) (pa_cons (pv 3) (pa_nil)))) (pa_cons (pe_callH (has_road_dyes T) (hr.mono (by decide)) pass0 (pa_cons (pv 2) (pa_cons (pv 3) (pa_nil)))) (pa_nil))) (by rfl))
        (pss_cons (ps_if (PW.pt (pw_or (pt_cmpR op_ne (pe_callB (call_reprD hgd (un70 hr)) (by rfl) (T.free "repr") (by decide +kernel) (pa_cons (pv 5) (pa_nil))) (pe_callB (call_reprD hgd (un70 hr)) (by rfl) (T.free "repr") (by decide +kernel) (pa_cons (pv 4) (pa_nil))) (nomark _)) (pw_or (pt_cmpR (op_neDK (K := K) rfl (un70 hr)) (pe_methW T T.size (has_Web_size T) (hr.mono (by decide)) (pv 7)) (pe_ix (ix_seqK (K := K) rfl) (pv 6) (pe_int) (fun _ _ => rfl)) (nomark _)) (pw_or1 (pt_cmpR (op_neDK (K := K) rfl (un70 hr)) (pe_methW T T.roads (has_Web_roads T) (hr.mono (by decide)) (pv 7)) (pe_callB (cr_sortD (un70 hr)) (by rfl) (T.free "sorted") (by decide +kernel) (pa_cons (pe_ix (ix_seqK (K := K) rfl) (pv 6) (pe_int) (fun _ _ => rfl)) (pa_nil))) (nomark _)))))) (pss_one (ps_ret (pe_bl))) (pss_nil))
        (pss_cons (ps_expr (pe_bm PySem.F.plainAttrs_list PySem.F.slot_list_append PySem.F.type_list_append mt_append (pe_ix (ix_seqK (K := K) rfl) (pe_ix (ix_seqK (K := K) rfl) (pv 5) (pe_int) (fun _ _ => rfl)) (pe_int) (fun _ _ => rfl)) (pa_cons (pe_non) (pa_nil))))
        (pss_cons (ps_expr (pe_bm PySem.F.plainAttrs_list PySem.F.slot_list_append PySem.F.type_list_append mt_append (pe_ix (ix_seqK (K := K) rfl) (pe_ix (ix_seqK (K := K) rfl) (pv 5) (pe_un un_neg (pe_int)) (fun _ _ => rfl)) (pe_int) (fun _ _ => rfl)) (pa_cons (pe_non) (pa_nil))))
        (pss_one (ps_expr (pe_bm PySem.F.plainAttrs_list PySem.F.slot_list_append PySem.F.type_list_append mt_append (pv 5) (pa_cons (pe_non) (pa_nil)))))))))))
      (pss_one (ps_ret (pe_cmpR (op_eqWeb T TE (hr.mono (by decide))) (pv 2) (pe_callH (has_lobject T) (hr.mono (by decide)) pass0 (pa_cons (pv 0) (pa_nil))) (nomark _)))))), ?_⟩
    have hmk : ∀ r ∈ ms, KindOk r.1 := fun r hr => (hw.road r hr).kind
    have hwf := hw.few
    refine set_is (p := web K m (rsort ms)) (is_call (isa_cons (is_d rfl d0') isa_nil) fun vs G1 _ a => ⟨m, ms, hw, a, rfl⟩) z fun v2 G1 H1 g1 p2 => ?_
    have hrl : (rsort ms).length ≤ 1024 := by rw [(rsort_perm ms).length_eq]; exact hw.few
    refine for_dat (ds := ks.map .str ++ (ks.map .str).reverse) (G := G1) (is_op (is_d rfl (d1.mono g1.gg)) (is_rev (is_d rfl (d1.mono g1.gg))) (ri_addL (by rw [List.length_reverse, List.length_map]; omega))) g1.gh (fun i σ' G' H' => (∃ x3 x4 x5 x6 x7, σ' = [some v0, some v1, some v2, x3, x4, x5, x6, x7]) ∧ Gr0 G H G' H')
      (fun G2 H2 g2 => ⟨⟨_, _, _, _, _, rfl⟩, g1.trans g2⟩) ?_ ?_
    · rintro i y d σ' G2 H2 hi hy zs zg ⟨⟨x3, x4, x5, x6, x7, rfl⟩, gA⟩
      obtain ⟨kd, hkd, rfl⟩ : ∃ kd, KindOk kd ∧ d = .str kd := by
        have hmem := List.mem_of_getElem? hi
        rcases List.mem_append.mp hmem with h | h
        · obtain ⟨x, hx, rfl⟩ := List.mem_map.mp h
          exact ⟨x, hks x hx, rfl⟩
        · obtain ⟨x, hx, rfl⟩ := List.mem_map.mp (List.mem_reverse.mp h)
          exact ⟨x, hks x hx, rfl⟩
      have p2' := (web K m (rsort ms)).mono _ _ _ zg p2
      have d0'' := d0'.mono gA.gg
      refine ⟨_, gt_name, fun N hN => ?_⟩
      obtain ⟨ps, eps⟩ : ∃ ps, ps = pairsL m kd ms := ⟨_, rfl⟩
      have hp32 : ps.length ≤ 32 := eps ▸ pairs_32 hm
      have hps : ∀ p ∈ ps, p.2.length ≤ 1000 := fun p hp => pairs_small (k := kd) (ms := ms) hm (eps ▸ hp)
      refine par_region (p := dat (.list (ps.map prD))) (m := m) (ms := rsort ms) (k := kd) (is_call (isa_cons (is_d rfl d0'') (isa_cons (is_d rfl hy) isa_nil)) fun vs G3 _ a => ⟨m, ms, kd, hm, hkd, hmk, a, by rw [eps]⟩) (isa_cons (is_var rfl p2') (isa_cons (is_d rfl hy) isa_nil)) hm hrl hkd zs fun v4 v5 G3 H3 F g3 p4 f3 hF d5 => ?_
      rw [pairsL_sort, ← eps] at d5
      have y3 := hy.mono g3.gg
      refine par_is (p := dat (lwD ps.length (pairEdges ps kd))) (q := web K ps.length (rsort (pairEdges ps kd))) (is_call (isa_cons (is_d rfl p4) (isa_cons (is_d rfl y3) isa_nil)) fun vs G4 _ a => ⟨ps, kd, hkd, hp32, hps, a, rfl⟩) (is_call (isa_cons (is_var rfl ((web K m (rsort ms)).mono _ _ _ g3.gg p2')) (isa_cons (is_d rfl y3) isa_nil)) fun vs G4 _ a => ⟨m, rsort ms, kd, hm, hrl, hkd, a, by rw [pairsL_sort, ← eps]; rfl⟩) g3.gh fun v6 v7 G4 H4 g4 p6 p7 => ?_
      have f4 : Same F H4 := f3.trans g4.same
      have hF4 : ∀ c o, F c = some o → G4 c = none := fun c o e => g4.out (hF c o e).1 (f3 _ _ e)
      have d5u : DV (uni G4 F) v5 (.list (ps.map prD)) := d5.mono (uni_sr hF4)
      have sU : Same G4 (uni G4 F) := uni_sl
      have hsm : Sm 3 (.list (ps.map prD)) := sm_pairs hp32 fun p hp => pairs_sm (k := kd) (ms := ms) hm (eps ▸ hp)
      have pw := pairWeb_ok hkd hp32 (ps := ps)
      have pek : ∀ r ∈ pairEdges ps kd, KindOk r.1 := fun r hr => (pw.road r hr).kind
      have pel : (rsort (pairEdges ps kd)).length ≤ 1024 := by rw [(rsort_perm _).length_eq]; exact pw.few
      have pwf := pw.few
      have pek2 : ∀ r ∈ rsort (pairEdges ps kd), KindOk r.1 := fun r hr => pek r (mem_rsort.mp hr)
      refine if_at (b := false) (uni_test g4.gh f4 (IsT.eqb (ist_or (b := !decide ((PyData.list (ps.map prD)).shown = (PyData.list (ps.map prD)).shown)) (c := (!PyData.eqv (.int (ps.length : Int)) (.int (ps.length : Int))) || !PyData.eqv (.list ((rsort (pairEdges ps kd)).map rd)) (.list ((rsort (pairEdges ps kd)).map rd))) (ist_test (is_op (is_cb (isa_cons (is_d rfl d5u) isa_nil) (rc_repr (.inl ⟨⟨_, rfl⟩, hsm⟩))) (is_cb (isa_cons (is_d rfl ((p4.mono g4.gg).mono sU)) isa_nil) (rc_repr (.inl ⟨⟨_, rfl⟩, hsm⟩))) ri_neS)) fun _ => ist_or (ist_test (is_op (is_meth0 (s := dat (.int (ps.length : Int))) (is_var (p := web K ps.length (rsort (pairEdges ps kd))) rfl ((web K _ _).mono _ _ _ sU p7)) (.inl rfl) fun v G5 _ hv => ⟨ps.length, _, ⟨_, _, rfl, hv, rfl⟩, rfl⟩) (is_lw0 (is_d rfl (p6.mono sU))) (ri_neD (Sd.sh (n := 1) (sd_int _)) (Sd.sh (n := 1) (sd_int _))))) fun _ => ist_test (is_op (is_meth0 (s := dat (.list ((rsort (pairEdges ps kd)).map rd))) (is_var (p := web K ps.length (rsort (pairEdges ps kd))) rfl ((web K _ _).mono _ _ _ sU p7)) (.inr rfl) fun v G5 _ hv => ⟨ps.length, _, ⟨_, _, rfl, hv, rfl⟩, by omega, rfl⟩) (Is.eqd (is_cb (isa_cons (is_lw1 (is_d rfl (p6.mono sU))) isa_nil) (rc_sortD (alike_rds _) (sortable_rds _) (fun d hd => ?_) (by rw [List.length_map]; omega))) (congrArg PyData.list (dsort_rds _))) (ri_neD (Sd.sh (n := 5) (sd_rds pek2)) (Sd.sh (n := 5) (sd_rds pek2))))) ?_)) (fun h => nomatch h) fun _ G5 H5 g5 => ?_
      · obtain ⟨r, _, rfl⟩ := List.mem_map.mp hd
        exact ⟨noDict_rd r, depth_rd r⟩
      · rw [decide_eq_true rfl, eqv_int, ((pl_rds _).eqv (pl_rds _)).mpr rfl]
        simp
      · unfold tNext
        dsimp only
        have f5 : Same F H5 := f4.trans g5.same
        have hF5 : ∀ c o, F c = some o → G5 c = none ∧ H c = none := fun c o e => ⟨g5.out (hF4 c o e) (f4 _ _ e), gA.th _ (hF c o e).2⟩
        obtain ⟨a, xs, t0, l0, r0, n0, t1, l1, r1, n1, rfl, ha, hxl, hx0, ht0, hl0, ⟨q0, hq0, rfl⟩, hx1, ht1, hr1, ⟨q1, hq1, rfl⟩⟩ := told_parts d5 (eps ▸ pairs_ne)
        have gB : Gr0 G H G5 H5 := gA.trans (g3.trans (g4.trans g5))
        have na0 : a ≠ l0 := fun e => by
          rw [e, hl0] at ha
          have ex : xs = q0.1.map vN := by cases ha; rfl
          rw [ex] at hx0
          exact ref_vN hx0
        have na1 : a ≠ r1 := fun e => by
          rw [e, hr1] at ha
          have ex : xs = q1.2.map vN := by cases ha; rfl
          rw [ex] at hx0
          exact ref_vN hx0
        have nt : t1 ≠ l0 := fun e => by rw [e, hl0] at ht1; cases ht1
        have hq0l : q0.1.length ≤ 40 := (pairs_sm (k := kd) (ms := ms) hm (eps ▸ hq0)).1
        have hq1l : q1.2.length ≤ 40 := (pairs_sm (k := kd) (ms := ms) hm (eps ▸ hq1)).2.1
        -- told[0][0].append(None)
        refine ⟨_, rfl, .inl ⟨a, xs, 0, .ref t0, rfl, rfl, SqL.of (f5 _ _ ha), at_of (j := 0) rfl hx0, .inr (.inl ⟨t0, _, 0, .ref l0, rfl, rfl, SqT.of (f5 _ _ ht0), at_of (j := 0) rfl rfl, .inl ⟨rfl, _, SqL.of (f5 _ _ hl0)⟩, l0, _, .non, rfl, rfl, f5 _ _ hl0, sz_lt (by rw [List.length_map]; omega), ?_⟩)⟩⟩
        have g6 : Gr0 G H G5 (upd H5 l0 (.lst (q0.1.map vN ++ [.non]))) := gB.wr (.inl (hF5 _ _ hl0).2) (hF5 _ _ hl0).1
        obtain ⟨H6, e6⟩ : ∃ H6, H6 = upd H5 l0 (.lst (q0.1.map vN ++ [.non])) := ⟨_, rfl⟩
        rw [← e6] at g6
        have a6 : H6 a = some (.lst xs) := by rw [e6, upd_ne na0]; exact f5 _ _ ha
        have t6 : H6 t1 = some (.tup [l1, .ref r1]) := by rw [e6, upd_ne nt]; exact f5 _ _ ht1
        obtain ⟨ys, r6, hys⟩ : ∃ ys, H6 r1 = some (.lst ys) ∧ ys.length ≤ 41 := by
          by_cases c : r1 = l0
          · exact ⟨q0.1.map vN ++ [.non], by rw [e6, c]; exact upd_same, by rw [List.length_append, List.length_map]; simp only [List.length_cons, List.length_nil]; omega⟩
          · exact ⟨q1.2.map vN, by rw [e6, upd_ne c]; exact f5 _ _ hr1, by rw [List.length_map]; omega⟩
        rw [← e6]
        -- told[-1][1].append(None)
        refine ⟨_, rfl, ⟨1, rfl, ?_⟩⟩
        refine .inl ⟨a, xs, -1, .ref t1, rfl, rfl, SqL.of a6, at_last hx1, .inr (.inl ⟨t1, _, 1, .ref r1, rfl, rfl, SqT.of t6, at_of (j := 1) rfl rfl, .inl ⟨rfl, _, SqL.of r6⟩, r1, _, .non, rfl, rfl, r6, sz_lt (by omega), ?_⟩)⟩
        have g7 : Gr0 G H G5 (upd H6 r1 (.lst (ys ++ [.non]))) := g6.wr (.inl (hF5 _ _ hr1).2) (hF5 _ _ hr1).1
        have a7 : upd H6 r1 (.lst (ys ++ [.non])) a = some (.lst xs) := by rw [upd_ne na1]; exact a6
        -- told.append(None)
        refine ⟨_, rfl, .inl ⟨rfl, _, SqL.of a7⟩, a, _, .non, rfl, rfl, a7, sz_lt (by omega), ?_⟩
        have g8 := g7.wr (o := .lst (xs ++ [.non])) (.inl (hF5 _ _ ha).2) (hF5 _ _ ha).1
        exact hN _ G5 _ (g3.gg.trans (g4.gg.trans g5.gg)) g8.gh ⟨⟨_, _, _, _, _, rfl⟩, g8⟩
    · rintro σ' G2 H2 zs zg ⟨⟨x3, x4, x5, x6, x7, rfl⟩, gA⟩
      dsimp only
      have hrk : ∀ r ∈ rsort ms, KindOk r.1 := fun r hr => hmk r (mem_rsort.mp hr)
      refine ret_is (p := dat (.bool true)) (G := G2) (is_op (is_var (p := web K m (rsort ms)) rfl ((web K m (rsort ms)).mono _ _ _ zg p2)) (is_call (s := web K m (rsort ms)) (isa_cons (is_d rfl (d0'.mono gA.gg)) isa_nil) fun vs G1 _ a => ⟨m, ms, hw, a, rfl⟩) (ri_eqWeb hrk)) zs fun v G3 H3 g3 pv => k v G3 H3 (gA.trans g3) pv

end
end Yd
set_option Elab.async false
set_option linter.all false
set_option maxRecDepth 100000
set_option maxHeartbeats 4000000
/-! plain: the two ways -/
namespace Yd
open PySem PySem.W
theorem mem_ofK {k : Str} {ls : List Road} {r : Road} : r ∈ ofK k ls ↔ r ∈ ls ∧ r.1 = k := by
  unfold ofK
  rw [List.mem_filter, decide_eq_true_iff]
theorem ledB_ext {g : List Nat} {ls ls' ms ms' : List Road} (h1 : ∀ r, r ∈ ls ↔ r ∈ ls') (h2 : ∀ r, r ∈ ms ↔ r ∈ ms') : ledB g ls ms = ledB g ls' ms' := by
  rw [Bool.eq_iff_iff, ledB_iff, ledB_iff]
  simp only [h1, h2]
theorem isLead_ext {n m : Nat} {ls ls' ms ms' : List Road} {d : PyData} (h1 : ∀ r, r ∈ ls ↔ r ∈ ls') (h2 : ∀ r, r ∈ ms ↔ r ∈ ms') : isLeadD n ls m ms d = isLeadD n ls' m ms' d := by
  unfold isLeadD
  rw [ledB_ext h1 h2]
theorem Leads.ext {n m : Nat} {ls ls' ms ms' : List Road} {g : List Nat} (h : Leads n ls m ms g) (h1 : ∀ r, r ∈ ls ↔ r ∈ ls') (h2 : ∀ r, r ∈ ms ↔ r ∈ ms') : Leads n ls' m ms' g := ⟨h.len, h.lt, fun r hr => (h2 _).mp (h.ok r ((h1 r).mpr hr))⟩
structure Side where
  n : Nat
  rs : List Road
  m : Nat
  qs : List Road
def sideL (rs : List Road) (k : Str) (m : Nat) (ms : List Road) : Side := ⟨(ofK k (rsort rs)).length, lineEdges (ofK k (rsort rs)) k, m, ms⟩
def sideP (n : Nat) (rs : List Road) (k : Str) (m : Nat) (ms : List Road) : Side := ⟨n, ofK k rs, (pairsL m k ms).length, pairEdges (pairsL m k ms) k⟩
def nearS (way n : Nat) (rs : List Road) (k : Str) (m : Nat) (ms : List Road) : Side := if way = 0 then sideL rs k m ms else sideP n rs k m ms
def farS (way n : Nat) (rs : List Road) (k : Str) (m : Nat) (ms : List Road) : Side := if way = 0 then sideP n rs k m ms else sideL rs k m ms
def resW (way n : Nat) (ls : List Road) (k : Str) (m : Nat) (ms : List Road) (g : List Nat) : List Nat := if way = 0 then resOn n ls k m ms g else resBack n ls k m ms g
structure WayArg (n : Nat) (rs : List Road) (k : Str) (m : Nat) (ms : List Road) : Prop where
  w : WebOk n rs
  n6 : n ≤ 6
  r6 : rs.length ≤ 6
  u : WebOk m ms
  m5 : m ≤ 5
  k : KindOk k
structure SideOk (s : Side) : Prop where
  n6 : s.n ≤ 6
  m32 : s.m ≤ 32
  len : s.rs.length ≤ 1024
  qlen : s.qs.length ≤ 1024
  road : ∀ r ∈ s.rs, KindOk r.1 ∧ r.2.1 < s.n ∧ r.2.2 < s.n
  kind : ∀ r ∈ s.qs, KindOk r.1
section
variable {n : Nat} {rs : List Road} {k : Str} {m : Nat} {ms : List Road}
theorem ofK_len (ls : List Road) : (ofK k ls).length ≤ ls.length := List.length_filter_le _ _
theorem WayArg.l6 (a : WayArg n rs k m ms) : (ofK k (rsort rs)).length ≤ 6 := by
  have h1 := ofK_len (k := k) (rsort rs)
  rw [(rsort_perm rs).length_eq] at h1
  have := a.r6
  omega
theorem WayArg.sideL (a : WayArg n rs k m ms) : SideOk (sideL rs k m ms) := by
  have hl := a.l6
  have hw := lineWeb_ok a.k (L := ofK k (rsort rs)) (by omega)
  refine ⟨hl, by show m ≤ 32; have := a.m5; omega, hw.few, a.u.few, fun r hr => ?_, fun r hr => (a.u.road r hr).kind⟩
  exact ⟨(hw.road r hr).kind, (hw.road r hr).near, (hw.road r hr).far⟩
theorem WayArg.sideP (a : WayArg n rs k m ms) : SideOk (sideP n rs k m ms) := by
  have hp := pairs_32 (k := k) (ms := ms) a.m5
  have hw := pairWeb_ok a.k hp
  have h1 := ofK_len (k := k) rs
  refine ⟨a.n6, hp, by show (ofK k rs).length ≤ 1024; have := a.r6; omega, hw.few, fun r hr => ?_, fun r hr => (hw.road r hr).kind⟩
  have h := a.w.road r (mem_ofK.mp hr).1
  exact ⟨h.kind, h.near, h.far⟩
theorem WayArg.near (a : WayArg n rs k m ms) (way : Nat) : SideOk (nearS way n rs k m ms) := by
  unfold nearS
  by_cases c : way = 0
  · rw [if_pos c]; exact a.sideL
  · rw [if_neg c]; exact a.sideP
theorem WayArg.far (a : WayArg n rs k m ms) (way : Nat) : SideOk (farS way n rs k m ms) := by
  unfold farS
  by_cases c : way = 0
  · rw [if_pos c]; exact a.sideP
  · rw [if_neg c]; exact a.sideL
theorem way_test (way : Nat) (d : PyData) : testW way n (rsort rs) k m (rsort ms) d = isLeadD (nearS way n rs k m ms).n (nearS way n rs k m ms).rs (nearS way n rs k m ms).m (nearS way n rs k m ms).qs d := by
  unfold testW nearS
  by_cases c : way = 0
  · rw [if_pos c, if_pos c]
    exact isLead_ext (fun _ => Iff.rfl) fun _ => mem_rsort
  · rw [if_neg c, if_neg c]
    unfold testBack
    rw [pairsL_sort]
    exact isLead_ext (fun r => by rw [mem_ofK, mem_rsort]; exact mem_ofK.symm) fun _ => Iff.rfl
theorem way_res (a : WayArg n rs k m ms) (way : Nat) {g : List Nat} (h : Leads (nearS way n rs k m ms).n (nearS way n rs k m ms).rs (nearS way n rs k m ms).m (nearS way n rs k m ms).qs g) :
    Leads (farS way n rs k m ms).n (farS way n rs k m ms).rs (farS way n rs k m ms).m (farS way n rs k m ms).qs (resW way n (rsort rs) k m (rsort ms) g) := by
  have hL : ∀ r ∈ ofK k (rsort rs), r.1 = k ∧ r.2.1 < n ∧ r.2.2 < n := fun r hr => by
    obtain ⟨h1, h2⟩ := mem_ofK.mp hr
    have h3 := a.w.road r (mem_rsort.mp h1)
    exact ⟨h2, h3.near, h3.far⟩
  unfold nearS at h
  unfold farS resW
  by_cases c : way = 0
  · rw [if_pos c] at h ⊢
    rw [if_pos c]
    have h' : Leads (ofK k (rsort rs)).length (lineEdges (ofK k (rsort rs)) k) m (rsort ms) g := Leads.ext h (fun _ => Iff.rfl) fun _ => mem_rsort.symm
    have := dyedOn_leads hL h'
    rw [pairsL_sort] at this
    exact Leads.ext this (fun r => by rw [mem_ofK, mem_rsort]; exact mem_ofK.symm) fun _ => Iff.rfl
  · rw [if_neg c] at h ⊢
    rw [if_neg c]
    have h' : Leads n (ofK k (rsort rs)) (pairsL m k ms).length (pairEdges (pairsL m k ms) k) g := Leads.ext h (fun r => by rw [mem_ofK, mem_rsort]; exact mem_ofK) fun _ => Iff.rfl
    have := dyedBack_leads hL h'
    unfold resBack
    rw [pairsL_sort]
    exact this
/-- the two sides are led alike -/
theorem way_both (a : WayArg n rs k m ms) : (∃ g, Leads (sideL rs k m ms).n (sideL rs k m ms).rs (sideL rs k m ms).m (sideL rs k m ms).qs g) ↔ ∃ g, Leads (sideP n rs k m ms).n (sideP n rs k m ms).rs (sideP n rs k m ms).m (sideP n rs k m ms).qs g :=
  ⟨fun ⟨g, h⟩ => ⟨_, way_res a 0 h⟩, fun ⟨g, h⟩ => ⟨_, way_res a 1 h⟩⟩
end
end Yd
set_option Elab.async false
set_option linter.all false
set_option maxRecDepth 100000
set_option maxHeartbeats 4000000
namespace Yd
open PySem PySem.Spec L2

theorem passF {X : Cx} : Passes (L2.CX X.prog X.w) X (fun _ _ _ => False) := passes_call takes0 fun _ _ _ _ h => h
def sdD (s : Side) : PyData := .list [lwD s.n s.rs, lwD s.m s.qs]
def sidesD (n : Nat) (rs : List Road) (k : Str) (m : Nat) (ms : List Road) : PyData := .list [sdD (sideL rs k m ms), sdD (sideP n rs k m ms)]
def askedD (n : Nat) (rs : List Road) (k : Str) (m : Nat) (ms : List Road) : PyData := .tuple [lwD n rs, .str k, lwD m ms]
def preWay : List V → Hp → Pm → Prop := fun vs G p => ∃ (way n : Nat) (rs : List Road) (k : Str) (m : Nat) (ms : List Road), way ≤ 1 ∧ WayArg n rs k m ms ∧ (pairsL m k ms).length ≤ 6 ∧ AllP [dat (.int (way : Int)), dat (sidesD n rs k m ms), dat (askedD n rs k m ms)] vs G ∧ p = dat (.bool true)
theorem Od.sdl {d : PyData} (h : Od d) : SdL d := fun ds e => by
  subst e
  rcases h with h | h
  · cases h
  · have o := sm_ok h
    rcases h with h | ⟨es, he, hl, hs⟩
    · rcases h with h | ⟨es, he, hl, hs⟩
      · rcases h with h | ⟨_, h⟩ | ⟨_, _, h⟩ | h <;> cases h
      · rcases he with he | he
        · cases he
          exact ⟨by omega, fun e hm => ((sm_ok (hs e hm)).sd).up (by decide)⟩
        · cases he
    · rcases he with he | he
      · cases he
        exact ⟨by omega, fun e hm => ((sm_ok (hs e hm)).sd).up (by decide)⟩
      · cases he
theorem sdl_nums (g : List Nat) (h : g.length ≤ 1000) : SdL (nums g) := fun ds e => by
  have e' : (g.map fun n : Nat => PyData.int (n : Int)) = ds := by injection e
  subst e'
  refine ⟨by rw [List.length_map]; omega, fun d hd => ?_⟩
  obtain ⟨x, _, rfl⟩ := List.mem_map.mp hd
  exact sd_int _
theorem WayArg.dye {n : Nat} {rs : List Road} {k : Str} {m : Nat} {ms : List Road} (a : WayArg n rs k m ms) {d : PyData} (hd : SdL d) : DyeArg n (rsort rs) k m (rsort ms) d := ⟨a.w.sort, a.u.sort, by have := a.l6; omega, a.k, a.m5, hd⟩
/-- some leadings, told -/
def ledE (s : Side) (z : Nat) : Pm := ⟨fun v G => ∃ es : List PyData, es.length ≤ z ∧ (∀ e ∈ es, ∃ g, Leads s.n s.rs s.m s.qs g ∧ e = nums g) ∧ DV G v (.list es), fun _ _ _ z ⟨es, h1, h2, h3⟩ => ⟨es, h1, h2, h3.mono z⟩⟩
def smallP : Pm := ⟨fun v G => ∃ g : List Nat, g.length ≤ 6 ∧ (∀ x ∈ g, x < 1000) ∧ DV G v (nums g), fun _ _ _ z ⟨g, h1, h2, h3⟩ => ⟨g, h1, h2, h3.mono z⟩⟩
section
variable {K : PySem.W.Frag} {σ : L2.St} {G H G2 H2 : Hp} {ta : TA} {tt : TT} {C l : Addr} {way n m : Nat} {ls ms : List Road} {k : Str} {g : List Nat} {ds : List PyData} {i : Nat} {D : Ends}
theorem Hid.grow (O : Hid G H l ds) (g : Gr0 G H G2 H2) : Hid G2 H2 l ds := by
  obtain ⟨vs, h1, h2⟩ := O.ex
  exact ⟨g.gh, g.out O.gn h1, vs, g.same _ _ h1, h2.mono g.gg⟩
theorem dyed_go (test : Nat → List Road → Str → Nat → List Road → PyData → Bool) (res : Nat → List Road → Str → Nat → List Road → List Nat → List Nat) (h : IsA ta σ G [web K n ls, dat (.str k), web K m ms, dat (nums g)]) (da : DyeArg n ls k m ms (nums g)) (ht : test n ls k m ms (nums g) = true) (s : Same G H) (Q : VK)
    (kk : ∀ l G2 H2, Gr0 G H G2 H2 → H l = none → Hid G2 H2 l ((res n ls k m ms g).map fun n : Nat => PyData.int (n : Int)) → Q (.ref l) H2) : tCall (spDyed K C test res) [] E0 ta σ H Q :=
  h G H (Same.refl _) s _ fun vs G3 H3 g3 pv => by
    show spDyed K C test res (vs ++ []) H3 _ _
    rw [List.append_nil]
    obtain ⟨a, b, c, v, rfl, pa, pb, pc, pd⟩ := allp4 pv
    refine ⟨G3, n, ls, k, m, ms, nums g, a, b, c, v, g3.gh, da, rfl, pa, pb, pc, pd, fun hf => (by rw [ht] at hf; cases hf), fun g' e _ l G4 H4 g4 h1 h2 h3 => ?_⟩
    obtain rfl := nums_inj e
    exact kk l G4 H4 (g3.trans g4) (g3.th _ h1) ⟨g4.gh, h2, _, h3, dvs_nums _⟩
theorem set_dyedIf (hw : Is (tVar 1) σ G (dat (.int (way : Int)))) (h : IsA ta σ G [web K n ls, dat (.str k), web K m ms, dat (nums g)]) (da : DyeArg n ls k m ms (nums g)) (ht : testW way n ls k m ms (nums g) = true) (s : Same G H)
    (kk : ∀ l G2 H2, Gr0 G H G2 H2 → H l = none → Hid G2 H2 l ((resW way n ls k m ms g).map fun n : Nat => PyData.int (n : Int)) → D.nx (σ.set i (some (.ref l))) H2) :
    tAsg (tIf (tTest (tOp (rEqD K) (tVar 1) (tC (.int 0)))) (tCall (spDyed K C testOn resOn) [] E0 ta) (tCall (spDyed K C testBack resBack) [] E0 ta)) (gName i) D σ H := by
  have ht2 : IsT (tTest (tOp (rEqD K) (tVar 1) (tC (.int 0)))) σ G (decide ((way : Int) = 0)) := IsT.eqb (ist_test (is_op hw (is_int 0) (ri_eqD (Sd.sh (n := 1) (sd_int _)) (Sd.sh (n := 1) (sd_int _))))) (eqv_int _ _)
  unfold testW at ht
  unfold resW at kk
  refine ht2 G H (Same.refl _) s _ fun G3 H3 g3 => ?_
  by_cases c : way = 0
  · rw [decide_eq_true (by omega : (way : Int) = 0), if_pos rfl]
    rw [if_pos c] at ht kk
    exact dyed_go testOn resOn (fun G1 H1 s1 => h G1 H1 (g3.gg.trans s1)) da ht g3.gh _ fun l G4 H4 g4 h1 O => kk l G4 H4 (g3.trans g4) (g3.th _ h1) O
  · rw [decide_eq_false (by omega : ¬ (way : Int) = 0), if_neg Bool.false_ne_true]
    rw [if_neg c] at ht kk
    exact dyed_go testBack resBack (fun G1 H1 s1 => h G1 H1 (g3.gg.trans s1)) da ht g3.gh _ fun l G4 H4 g4 h1 O => kk l G4 H4 (g3.trans g4) (g3.th _ h1) O
theorem if_dyed (hw : Is (tVar 1) σ G (dat (.int (way : Int)))) (h : IsA ta σ G [web K n ls, dat (.str k), web K m ms, dat (nums g)]) (da : DyeArg n ls k m ms (nums g)) (ht : testW way n ls k m ms (nums g) = true) (s : Same G H)
    (kk : ∀ l G2 H2, Gr0 G H G2 H2 → H l = none → Hid G2 H2 l ((resW way n ls k m ms g).map fun n : Nat => PyData.int (n : Int)) → D.nx (σ.set i (some (.ref l))) H2) :
    tIfS (tTest (tOp (rEqD K) (tVar 1) (tC (.int 0)))) (tAsg (tCall (spDyed K C testOn resOn) [] E0 ta) (gName i)) (tAsg (tCall (spDyed K C testBack resBack) [] E0 ta) (gName i)) D σ H := by
  have ht2 : IsT (tTest (tOp (rEqD K) (tVar 1) (tC (.int 0)))) σ G (decide ((way : Int) = 0)) := IsT.eqb (ist_test (is_op hw (is_int 0) (ri_eqD (Sd.sh (n := 1) (sd_int _)) (Sd.sh (n := 1) (sd_int _))))) (eqv_int _ _)
  unfold testW at ht
  unfold resW at kk
  refine if_is ht2 s (fun hb G3 H3 g3 => ?_) fun hb G3 H3 g3 => ?_
  · have c : way = 0 := by have := of_decide_eq_true hb; omega
    rw [if_pos c] at ht kk
    exact dyed_go testOn resOn (fun G1 H1 s1 => h G1 H1 (g3.gg.trans s1)) da ht g3.gh _ fun l G4 H4 g4 h1 O => kk l G4 H4 (g3.trans g4) (g3.th _ h1) O
  · have c : ¬ way = 0 := by have := of_decide_eq_false hb; omega
    rw [if_neg c] at ht kk
    exact dyed_go testBack resBack (fun G1 H1 s1 => h G1 H1 (g3.gg.trans s1)) da ht g3.gh _ fun l G4 H4 g4 h1 O => kk l G4 H4 (g3.trans g4) (g3.th _ h1) O
end
theorem side_ix {n : Nat} {rs : List Road} {k : Str} {m : Nat} {ms : List Road} {way : Nat} (h : way ≤ 1) : ([sdD (sideL rs k m ms), sdD (sideP n rs k m ms)] : List PyData)[way]? = some (sdD (nearS way n rs k m ms)) ∧ ([sdD (sideL rs k m ms), sdD (sideP n rs k m ms)] : List PyData)[1 - way]? = some (sdD (farS way n rs k m ms)) := by
  match way, h with
  | 0, _ => exact ⟨rfl, rfl⟩
  | 1, _ => exact ⟨rfl, rfl⟩
end Yd
set_option Elab.async false
set_option linter.all false
set_option maxRecDepth 100000
set_option maxHeartbeats 4000000
namespace Yd
open PySem PySem.Spec L2
section
variable {P : Program} {w : World} {K : PySem.W.Frag} {mg : Str → Option Value} {base : Heap}
theorem sc_lway_right : FnScope ["_law_purse_here", "_law_way", "_law_sides", "_law_asked", "_law_web", "_law_kind", "_law_dyes", "_law_near", "_law_far", "_law_found", "_law_first", "_law_second", "_law_value", "_law_noted", "_law_told", "_law_same_web", "_law_same_dyes", "_law_again", "_law_start", "_law_turn", "_law_odd", "_law_due"] ["_law_purse_here", "_law_way", "_law_sides", "_law_asked"] (defScope (top 64)) := ⟨rfl, rfl, rfl, by decide +kernel, rfl, by decide +kernel, by decide +kernel⟩
theorem has_lway_right {C fI : Addr} (TE : TxE K) (LX : LeadTxt P K mg C fI) (T : Tx K mg) : HasG P w K mg base CX0 11 "_law_way_right" ["_law_purse_here", "_law_way", "_law_sides", "_law_asked"] (PurseSp 60000 preWay) := by
  refine T.hasG 49 (fun fd F => okG F sc_lway_right (fun vs H Q E h => ?_) fun cdv A outer s H vs Q E hr hgd h => ?_) (fun fd F => F.bindsN fun _ _ _ _ _ _ us hl => match us, hl with | [_, _, _, _], _ => rfl)
  · obtain ⟨G, pu, us, T, p, rfl, _, _, ⟨_, _, _, _, _, _, _, _, _, a, _⟩, _⟩ := h; exact congrArg Nat.succ a.len
  · obtain ⟨G, pu, us, Tm, p, rfl, P0, hT, ⟨way, n, rs, kd, m, ms, hw1, wa, hp6, a, rfl⟩, k⟩ := h
    have hLT : LT = 1000000000 := rfl
    obtain ⟨v1, v2, v3, rfl, d1, d2, d3⟩ := allp3 a
    refine ⟨_, PSs.nox (pss_cons (ps_asg (pv 3) (pg_tupK (K := K) (n := 3) rfl rfl (pgs_cons (pg_name (i := 4) sc_lway_right.nd rfl (by first | exact Or.inl rfl | exact Or.inr rfl)) (pgs_cons (pg_name (i := 5) sc_lway_right.nd rfl (by first | exact Or.inl rfl | exact Or.inr rfl)) (pgs_cons (pg_name (i := 6) sc_lway_right.nd rfl (by first | exact Or.inl rfl | exact Or.inr rfl)) (pgs_nil))))))
      (pss_cons (ps_par (i := 7) (j := 8) rfl sc_lway_right.nd rfl rfl (by decide) rfl rfl (pa_cons (pe_ix (ix_seqK (K := K) rfl) (pv 2) (pv 1) (fun _ _ => rfl)) (pa_cons (pe_ix (ix_seqK (K := K) rfl) (pv 2) (pe_op op_sub (pe_int) (pv 1)) (fun _ _ => rfl)) (pa_nil))) (by rfl))
      (pss_cons (ps_set (i := 9) sc_lway_right.nd rfl (by first | exact Or.inl rfl | exact Or.inr rfl) (pe_callH (has_lleadings T) (hr.mono (by decide)) pass0 (pa_cons (pe_ix (ix_seqK (K := K) rfl) (pe_ix (ix_seqK (K := K) rfl) (pv 7) (pe_int) (fun _ _ => rfl)) (pe_int) (fun _ _ => rfl)) (pa_cons (pe_ix (ix_seqK (K := K) rfl) (pe_ix (ix_seqK (K := K) rfl) (pv 7) (pe_int) (fun _ _ => rfl)) (pe_int) (fun _ _ => rfl)) (pa_cons (pe_ix (ix_seqK (K := K) rfl) (pe_ix (ix_seqK (K := K) rfl) (pv 7) (pe_int) (fun _ _ => rfl)) (pe_int) (fun _ _ => rfl)) (pa_cons (pe_ix (ix_seqK (K := K) rfl) (pe_ix (ix_seqK (K := K) rfl) (pv 7) (pe_int) (fun _ _ => rfl)) (pe_int) (fun _ _ => rfl)) (pa_nil)))))))
      (pss_cons (ps_par (i := 10) (j := 11) rfl sc_lway_right.nd rfl rfl (by decide) rfl rfl (pa_cons (pe_callH (has_lobject T) (hr.mono (by decide)) pass0 (pa_cons (pv 4) (pa_nil))) (pa_cons (pe_callH (has_lobject T) (hr.mono (by decide)) pass0 (pa_cons (pv 6) (pa_nil))) (pa_nil))) (by rfl))
      (pss_cons (ps_for PassesOwn.never rfl (pi_listK (K := K) rfl (pe_slice (sl_listK (K := K) rfl) (pe_callH (has_lshuffled T) (hr.mono (by decide)) pass0 (pa_cons (pv 0) (pa_cons (pv 9) (pa_nil)))) (po_none) (po_some (pe_int)))) (pg_name (i := 12) sc_lway_right.nd rfl (by first | exact Or.inl rfl | exact Or.inr rfl)) (pss_cons (ps_set (i := 13) sc_lway_right.nd rfl (by first | exact Or.inl rfl | exact Or.inr rfl) (pe_callB (call_reprD hgd (un70 hr)) (by rfl) (T.free "repr") (by decide +kernel) (pa_cons (pv 12) (pa_nil))))
        (pss_cons (ps_set (i := 14) sc_lway_right.nd rfl (by first | exact Or.inl rfl | exact Or.inr rfl) (pe_ifExp (pt_cmpR (op_eqDK (K := K) rfl (un70 hr)) (pv 1) (pe_int) (nomark _)) (pe_callH (has_dyed_on T LX) (hr.mono (by decide)) passF (pa_cons (pv 10) (pa_cons (pv 5) (pa_cons (pv 11) (pa_cons (pv 12) (pa_nil)))))) (pe_callH (has_dyed_back T LX) (hr.mono (by decide)) passF (pa_cons (pv 10) (pa_cons (pv 5) (pa_cons (pv 11) (pa_cons (pv 12) (pa_nil))))))))
        (pss_cons (ps_if (PW.pt (pw_or (pt_not (pt_val (pe_callH (has_lis_leading T) (hr.mono (by decide)) pass0 (pa_cons (pe_ix (ix_seqK (K := K) rfl) (pv 8) (pe_int) (fun _ _ => rfl)) (pa_cons (pe_ix (ix_seqK (K := K) rfl) (pv 8) (pe_int) (fun _ _ => rfl)) (pa_cons (pv 14) (pa_nil))))))) (pw_or1 (pt_cmpR op_ne (pe_callB (call_reprD hgd (un70 hr)) (by rfl) (T.free "repr") (by decide +kernel) (pa_cons (pv 12) (pa_nil))) (pv 13) (nomark _))))) (pss_one (ps_ret (pe_bl))) (pss_nil))
        (pss_cons (ps_set (i := 13) sc_lway_right.nd rfl (by first | exact Or.inl rfl | exact Or.inr rfl) (pe_callB (call_reprD hgd (un70 hr)) (by rfl) (T.free "repr") (by decide +kernel) (pa_cons (pv 14) (pa_nil))))
        (pss_cons (ps_expr (pe_bm PySem.F.plainAttrs_list PySem.F.slot_list_append PySem.F.type_list_append mt_append (pv 14) (pa_cons (pe_non) (pa_nil))))
        (pss_cons (ps_par (i := 15) (j := 16) rfl sc_lway_right.nd rfl rfl (by decide) rfl rfl (pa_cons (pe_makeK (K := K) rfl T (has_Web___init T) (hr.mono (by decide)) (pa_cons (pe_ix (ix_seqK (K := K) rfl) (pv 4) (pe_int) (fun _ _ => rfl)) (pa_cons (pe_revK (K := K) rfl (pe_ix (ix_seqK (K := K) rfl) (pv 4) (pe_int) (fun _ _ => rfl))) (pa_nil)))) (pa_cons (pe_makeK (K := K) rfl T (has_Web___init T) (hr.mono (by decide)) (pa_cons (pe_ix (ix_seqK (K := K) rfl) (pv 6) (pe_int) (fun _ _ => rfl)) (pa_cons (pe_revK (K := K) rfl (pe_ix (ix_seqK (K := K) rfl) (pv 6) (pe_int) (fun _ _ => rfl))) (pa_nil)))) (pa_nil))) (by rfl))
        (pss_cons (ps_if (pt_cmpR (op_eqDK (K := K) rfl (un70 hr)) (pv 1) (pe_int) (nomark _)) (pss_one (ps_set (i := 17) sc_lway_right.nd rfl (by first | exact Or.inl rfl | exact Or.inr rfl) (pe_callH (has_dyed_on T LX) (hr.mono (by decide)) passF (pa_cons (pv 15) (pa_cons (pv 5) (pa_cons (pv 16) (pa_cons (pv 12) (pa_nil)))))))) (pss_one (ps_set (i := 17) sc_lway_right.nd rfl (by first | exact Or.inl rfl | exact Or.inr rfl) (pe_callH (has_dyed_back T LX) (hr.mono (by decide)) passF (pa_cons (pv 15) (pa_cons (pv 5) (pa_cons (pv 16) (pa_cons (pv 12) (pa_nil)))))))))
        (pss_one (ps_if (pt_cmpR op_ne (pe_callB (call_reprD hgd (un70 hr)) (by rfl) (T.free "repr") (by decide +kernel) (pa_cons (pv 17) (pa_nil))) (pv 13) (nomark _)) (pss_one (ps_ret (pe_bl))) (pss_nil)))))))))))
      (pss_cons (ps_set (i := 18) sc_lway_right.nd rfl (by first | exact Or.inl rfl | exact Or.inr rfl) (pe_ifExp (pt_cmpR (op_neDK (K := K) rfl (un70 hr)) (pv 9) (pe_lst (pa_nil)) (nomark _)) (pe_ix (ix_seqK (K := K) rfl) (pv 9) (pe_int) (fun _ _ => rfl)) (pe_lc (own := [("_law_turn", 19)]) rfl sc_lway_right.nd (pi_range1 rfl (T.free "range") (pa_cons (pe_ix (ix_seqK (K := K) rfl) (pe_ix (ix_seqK (K := K) rfl) (pv 7) (pe_int) (fun _ _ => rfl)) (pe_int) (fun _ _ => rfl)) (pa_nil))) (blkOk_by (by rfl)) (fun _ _ _ _ _ => pg_name (i := 19) sc_lway_right.nd rfl (by first | exact Or.inl rfl | exact Or.inr rfl)) (fun _ _ _ _ _ => pts_nil) (fun _ _ _ _ _ => pe_int))))
      (pss_cons (ps_for PassesOwn.never rfl (pi_listK (K := K) rfl (pe_callHG (has_lodd_lists T) (hr.mono (by decide)) hgd pass0 (pa_cons (pv 0) (pa_cons (pv 18) (pa_cons (pe_ix (ix_seqK (K := K) rfl) (pe_ix (ix_seqK (K := K) rfl) (pv 7) (pe_int) (fun _ _ => rfl)) (pe_int) (fun _ _ => rfl)) (pa_nil)))))) (pg_name (i := 20) sc_lway_right.nd rfl (by first | exact Or.inl rfl | exact Or.inr rfl)) (pss_cons (ps_set (i := 21) sc_lway_right.nd rfl (by first | exact Or.inl rfl | exact Or.inr rfl) (pe_ifExp (pt_val (pe_callH (has_lis_leading T) (hr.mono (by decide)) pass0 (pa_cons (pe_ix (ix_seqK (K := K) rfl) (pv 7) (pe_int) (fun _ _ => rfl)) (pa_cons (pe_ix (ix_seqK (K := K) rfl) (pv 7) (pe_int) (fun _ _ => rfl)) (pa_cons (pv 20) (pa_nil)))))) (pe_non) (pe_lst (pa_cons (pv 20) (pa_nil)))))
        (pss_one (ps_if (pt_cmpR op_ne (pe_callB (call_reprD hgd (un70 hr)) (by rfl) (T.free "repr") (by decide +kernel) (pa_cons (pe_callH (has_lcaught T LX) (hr.mono (by decide)) pass0 (pa_cons (pv 1) (pa_cons (pv 10) (pa_cons (pv 5) (pa_cons (pv 11) (pa_cons (pv 20) (pa_nil))))))) (pa_nil))) (pe_callB (call_reprD hgd (un70 hr)) (by rfl) (T.free "repr") (by decide +kernel) (pa_cons (pv 21) (pa_nil))) (nomark _)) (pss_one (ps_ret (pe_bl))) (pss_nil)))))
      (pss_one (ps_ret (pe_and (pe_cmpR (op_eqWeb T TE (hr.mono (by decide))) (pv 10) (pe_callH (has_lobject T) (hr.mono (by decide)) pass0 (pa_cons (pv 4) (pa_nil))) (nomark _)) (pe_one (pe_cmpR (op_eqWeb T TE (hr.mono (by decide))) (pv 11) (pe_callH (has_lobject T) (hr.mono (by decide)) pass0 (pa_cons (pv 6) (pa_nil))) (nomark _))))))))))))), ?_⟩
    obtain ⟨ns, ens⟩ : ∃ ns, ns = nearS way n rs kd m ms := ⟨_, rfl⟩
    obtain ⟨fs, efs⟩ : ∃ fs, fs = farS way n rs kd m ms := ⟨_, rfl⟩
    have nok : SideOk ns := ens ▸ wa.near way
    have fok : SideOk fs := efs ▸ wa.far way
    have nm6 : ns.m ≤ 6 := by
      rw [ens]; unfold nearS
      by_cases c : way = 0
      · rw [if_pos c]; show m ≤ 6; have := wa.m5; omega
      · rw [if_neg c]; exact hp6
    have htest : ∀ d, testW way n (rsort rs) kd m (rsort ms) d = isLeadD ns.n ns.rs ns.m ns.qs d := fun d => by rw [ens]; exact way_test way d
    have hres : ∀ g, Leads ns.n ns.rs ns.m ns.qs g → Leads fs.n fs.rs fs.m fs.qs (resW way n (rsort rs) kd m (rsort ms) g) := fun g h => by rw [efs]; exact way_res wa way (ens ▸ h)
    -- web, kind, dyes = asked
    refine asg_is (is_d rfl d3) P0.s fun w3 G1 H1 g1 p3 => ?_
    obtain ⟨ta, tx, rfl, hta, dvt⟩ := p3.tup_inv
    obtain ⟨v4, v5, v6, rfl, d4, d5, d6⟩ := allp3 (allp_of dvt)
    refine gt_tup3 hta H1 g1.gh _ ?_
    obtain rfl := (show DV G1 v5 (.str kd) from d5).str_inv
    obtain ⟨ix1, ix2⟩ := side_ix (n := n) (rs := rs) (k := kd) (m := m) (ms := ms) hw1
    rw [← ens] at ix1
    rw [← efs] at ix2
    have d1a := d1.mono g1.gg
    refine par_is (p := dat (sdD ns)) (q := dat (sdD fs)) (is_op (is_d rfl (d2.mono g1.gg)) (is_d rfl d1a) (ri_ixL (j := way) rfl ix1)) (is_op (is_d rfl (d2.mono g1.gg)) (Is.eqd (is_op (is_int 1) (is_d rfl d1a) (ri_I (g := fun i j => i - j))) (congrArg PyData.int (show (1 : Int) - (way : Int) = ((1 - way : Nat) : Int) by omega))) (ri_ixL (j := 1 - way) rfl ix2)) g1.gh fun v7 v8 G2 H2 g2 p7 p8 => ?_
    have i0 : ∀ {σ : L2.St} {i : Nat} {v : V} {G3 : Hp} {s : Side}, σ[i]? = some (some v) → DV G3 v (sdD s) → Is (tOp (rIx K) (tVar i) (tC (.int 0))) σ G3 (dat (lwD s.n s.rs)) := fun h1 h2 => is_op (is_d h1 h2) (is_int 0) (ri_ixL (j := 0) rfl rfl)
    have i1 : ∀ {σ : L2.St} {i : Nat} {v : V} {G3 : Hp} {s : Side}, σ[i]? = some (some v) → DV G3 v (sdD s) → Is (tOp (rIx K) (tVar i) (tC (.int 1))) σ G3 (dat (lwD s.m s.qs)) := fun h1 h2 => is_op (is_d h1 h2) (is_int 1) (ri_ixL (j := 1) rfl rfl)
    refine set_is (p := ledsP ns.n ns.rs ns.m ns.qs) (is_call (isa_cons (is_lw0 (i0 rfl p7)) (isa_cons (is_lw1 (i0 rfl p7)) (isa_cons (is_lw0 (i1 rfl p7)) (isa_cons (is_lw1 (i1 rfl p7)) isa_nil)))) fun vs G3 _ a => ⟨ns.n, ns.rs, ns.m, ns.qs, nok.n6, nm6, nok.len, nok.road, nok.kind, a, rfl⟩) g2.gh fun v9 G3 H3 g3 p9 => ?_
    obtain ⟨gs, hgl, hgs, d9⟩ := p9
    have g13 := g1.trans (g2.trans g3)
    refine par_is (p := web K n (rsort rs)) (q := web K m (rsort ms)) (is_call (isa_cons (is_d rfl (d4.mono (g2.gg.trans g3.gg))) isa_nil) fun vs G4 _ a => ⟨n, rs, wa.w, a, rfl⟩) (is_call (isa_cons (is_d rfl (d6.mono (g2.gg.trans g3.gg))) isa_nil) fun vs G4 _ a => ⟨m, ms, wa.u, a, rfl⟩) g3.gh fun v10 v11 G4 H4 g4 p10 p11 => ?_
    have g14 := g13.trans g4
    have P4 := P0.grow g14
    have s24 : Same G2 G4 := g3.gg.trans g4.gg
    have s14 : Same G1 G4 := g2.gg.trans s24
    have hperm : ∀ v G6, (permP (gs.map nums)).P v G6 → (ledE ns 46656).P v G6 := fun v G6 hv => by
      obtain ⟨es, hp, dv⟩ := hv
      refine ⟨es, by rw [hp.length_eq, List.length_map]; exact hgl, fun e he => ?_, dv⟩
      obtain ⟨g, hg, rfl⟩ := List.mem_map.mp (hp.mem_iff.mp he)
      exact ⟨g, hgs g hg, rfl⟩
    refine dr_for_lst (c := 0 + 50000) (p := ledE ns 8) ((dr_slice (p := ledE ns 46656) (s := ledE ns 8) (dr_call (s := ledE ns 46656) rfl (dra_of (isa_cons (is_d rfl (d9.mono g4.gg)) isa_nil)) fun us G5 s5 a => ⟨permP (gs.map nums), ⟨gs.map nums, by rw [List.length_map]; omega, a, rfl⟩, hperm⟩) fun v G5 s5 ⟨es, h1, h2, dv⟩ => (is_slice (lo := none) (hi := some 8) (is_c (p := dat (.list es)) dv) (fun G1 H1 s1 s2 Q k => ip_none s1 s2 Q k) (fun G1 H1 s1 s2 Q k => ip_some (is_int 8) s1 s2 Q k)).imp fun u G6 s6 hu => ⟨_, ?_, fun e he => h2 e (slL_mem he), hu⟩)) P4 (by omega) fun vl G5 H5 g5 P5 pl => ?_
    · unfold slL
      rw [List.length_take]
      show min (HT.sIx es.length es.length (some ((8 : Nat) : Int)) - 0) _ ≤ 8
      rw [HT.sIx_nat]; omega
    obtain ⟨es, hel, hes, dl⟩ := pl
    have gM5 : Gr (Mp pu) G H G5 H5 := g14.up.trans g5
    refine for_dat (ds := es) (G := G5) (is_c dl) g5.gh (fun i σ' G' H' => (∃ x12 x13 x14 x15 x16 x17, σ' = [some (.ref pu), some v1, some v2, some v3, some v4, some (.str kd), some v6, some v7, some v8, some v9, some v10, some v11, x12, x13, x14, x15, x16, x17, none, none, none, none]) ∧ Gr (Mp pu) G H G' H' ∧ PuS pu (Tm + 50000) G' H')
      (fun G6 H6 g6 => ⟨⟨_, _, _, _, _, _, rfl⟩, gM5.tr0 g6, (P5.grow g6).up (by omega)⟩) ?_ ?_
    · rintro i x d σ' G6 H6 hi hx zs zg ⟨⟨x12, x13, x14, x15, x16, x17, rfl⟩, gM6, P6⟩
      obtain ⟨g, hg, rfl⟩ := hes d (List.mem_of_getElem? hi)
      have hg6 : g.length ≤ 6 := by have := hg.len; have := nok.n6; omega
      have hgx : ∀ x ∈ g, x < 1000 := fun x hx => by have := hg.lt x hx; omega
      have hsg : Sm 3 (nums g) := (sm_nums (by omega) hgx).up (by decide)
      have ht : testW way n (rsort rs) kd m (rsort ms) (nums g) = true := by rw [htest]; exact isLead_nums.mpr hg
      have da : DyeArg n (rsort rs) kd m (rsort ms) (nums g) := wa.dye (sdl_nums g (by omega))
      obtain ⟨rg, erg⟩ : ∃ rg, rg = resW way n (rsort rs) kd m (rsort ms) g := ⟨_, rfl⟩
      have hrg : Leads fs.n fs.rs fs.m fs.qs rg := erg ▸ hres g hg
      have hrl : rg.length ≤ 6 := by have := hrg.len; have := fok.n6; omega
      have hrx : ∀ x ∈ rg, x < 1000 := fun x hx => by have := hrg.lt x hx; have := fok.m32; omega
      have hsr : Sm 3 (nums rg) := (sm_nums (by omega) hrx).up (by decide)
      have s46 : Same G4 G6 := g5.gg.trans zg
      have q10 := (web K n (rsort rs)).mono _ _ _ s46 p10
      have q11 := (web K m (rsort ms)).mono _ _ _ s46 p11
      have q8 := (p8.mono s24).mono s46
      have q1 := (d1a.mono s14).mono s46
      refine ⟨_, gt_name, fun N hN => ?_⟩
      refine set_is (p := dat (.str (nums g).shown)) (is_cb (isa_cons (is_d rfl hx) isa_nil) (rc_repr (.inl ⟨⟨_, rfl⟩, hsg⟩))) zs fun v13 G7 H7 g7 p13 => ?_
      refine set_dyedIf (C := C) (way := way) (g := g) (is_d rfl (q1.mono g7.gg)) (isa_cons (is_var rfl ((web K n (rsort rs)).mono _ _ _ g7.gg q10)) (isa_cons (is_d rfl (.str kd)) (isa_cons (is_var rfl ((web K m (rsort ms)).mono _ _ _ g7.gg q11)) (isa_cons (is_d rfl (hx.mono g7.gg)) isa_nil)))) da ht g7.gh fun l G8 H8 g8 hl O8 => ?_
      rw [← erg] at O8
      have g78 := g7.trans g8
      have P8 := P6.grow g78
      have hlH6 : H6 l = none := g7.th _ hl
      have hlH : H l = none := gM6.th _ hlH6
      have nl : l ≠ pu := fun e => by
        obtain ⟨pb, ps, pt, pa, e1, _⟩ := P6.ex
        rw [e, e1] at hlH6; cases hlH6
      refine if_at (b := false) (hid_test O8 fun G9 s9 dvl => IsT.eqb (ist_or (b := !isLeadD fs.n fs.rs fs.m fs.qs (nums rg)) (c := !decide ((nums g).shown = (nums g).shown)) (ist_not (ist_B (is_call (s := dat (.bool (isLeadD fs.n fs.rs fs.m fs.qs (nums rg)))) (isa_cons (i0 rfl (q8.mono (g78.gg.trans s9))) (isa_cons (i1 rfl (q8.mono (g78.gg.trans s9))) (isa_cons (is_d (d := nums rg) rfl dvl) isa_nil))) fun vs G10 _ a => ⟨fs.n, fs.rs, fs.m, fs.qs, nums rg, by have := fok.len; omega, fok.road, fok.kind, sdl_nums rg (by omega), a, rfl⟩))) fun _ => ist_test (is_op (is_cb (isa_cons (is_d rfl (hx.mono (g78.gg.trans s9))) isa_nil) (rc_repr (.inl ⟨⟨_, rfl⟩, hsg⟩))) (is_d rfl (p13.mono (g8.gg.trans s9))) ri_neS)) ?_) (fun h => nomatch h) fun _ G9 H9 g9 => ?_
      · rw [isLead_nums.mpr hrg, decide_eq_true rfl]; rfl
      unfold tNext
      dsimp only
      have O9 := O8.grow g9
      refine set_at (p := dat (.str (nums rg).shown)) (hid_flat O9 (flat_str _) fun G10 s10 dvl => is_cb (isa_cons (is_d (d := nums rg) rfl dvl) isa_nil) (rc_repr (.inl ⟨⟨_, rfl⟩, hsr⟩))) fun v13b G10 H10 g10 p13b => ?_
      obtain rfl := (show DV G10 v13b (.str _) from p13b).str_inv
      have O10 := O9.grow g10
      have g610 := g78.trans (g9.trans g10)
      obtain ⟨us, hu1, hu2⟩ := O10.ex
      refine ⟨_, rfl, .inl ⟨rfl, _, SqL.of hu1⟩, l, us, .non, rfl, rfl, hu1, sz_lt (by rw [hu2.length, List.length_map]; omega), ?_⟩
      have gM11 : Gr (Mp pu) G H G10 (upd H10 l (.lst (us ++ [.non]))) := (gM6.tr0 g610).wr (.inl hlH) O10.gn
      have P11 : PuS pu (Tm + 50000) G10 (upd H10 l (.lst (us ++ [.non]))) := (P6.grow g610).wr nl O10.gn
      have s610 := s46.trans g610.gg
      have r4 := (d4.mono s14).mono s610
      have r6 := (d6.mono s14).mono s610
      have perm1 : WebOk n rs.reverse := wa.w.perm (List.reverse_perm rs)
      have perm2 : WebOk m ms.reverse := wa.u.perm (List.reverse_perm ms)
      refine par_is (p := web K n (rsort rs.reverse)) (q := web K m (rsort ms.reverse)) (is_make (isa_cons (is_lw0 (is_d rfl r4)) (isa_cons (Is.eqd (is_rev (is_lw1 (is_d rfl r4))) (congrArg PyData.list List.map_reverse.symm)) isa_nil)) perm1) (is_make (isa_cons (is_lw0 (is_d rfl r6)) (isa_cons (Is.eqd (is_rev (is_lw1 (is_d rfl r6))) (congrArg PyData.list List.map_reverse.symm)) isa_nil)) perm2) gM11.gh fun v15 v16 G12 H12 g12 p15 p16 => ?_
      rw [rsort_of_perm (List.reverse_perm rs)] at p15
      rw [rsort_of_perm (List.reverse_perm ms)] at p16
      have s612 := g610.gg.trans g12.gg
      refine if_dyed (C := C) (way := way) (g := g) (is_d rfl (q1.mono s612)) (isa_cons (is_var rfl p15) (isa_cons (is_d rfl (.str kd)) (isa_cons (is_var rfl p16) (isa_cons (is_d rfl (hx.mono s612)) isa_nil)))) da ht g12.gh fun l2 G13 H13 g13' hl2 O13 => ?_
      rw [← erg] at O13
      refine if_at (b := false) (hid_test O13 fun G14 s14' dvl => IsT.eqb (ist_test (is_op (is_cb (isa_cons (is_d (d := nums rg) rfl dvl) isa_nil) (rc_repr (.inl ⟨⟨_, rfl⟩, hsr⟩))) (is_d rfl (.str _)) ri_neS)) (by rw [decide_eq_true rfl]; rfl)) (fun h => nomatch h) fun _ G14 H14 g14' => ?_
      exact hN _ G14 H14 (s612.trans (g13'.gg.trans g14'.gg)) g14'.gh ⟨⟨_, _, _, _, _, _, rfl⟩, (gM11.tr0 g12).tr0 (g13'.trans g14'), (P11.grow g12).grow (g13'.trans g14')⟩
    · rintro σ' G6 H6 zs zg ⟨⟨x12, x13, x14, x15, x16, x17, rfl⟩, gM6, P6⟩
      dsimp only
      have s46 : Same G4 G6 := g5.gg.trans zg
      have q7 := (p7.mono s24).mono s46
      have q9 := (d9.mono g4.gg).mono s46
      have q10 := (web K n (rsort rs)).mono _ _ _ s46 p10
      have q11 := (web K m (rsort ms)).mono _ _ _ s46 p11
      have q1 := (d1a.mono s14).mono s46
      have q4 := (d4.mono s14).mono s46
      have q6 := (d6.mono s14).mono s46
      have sdg : SeqAt.shaped (.list (gs.map nums)) = true := Sd.sh (n := 3) (sd_list fun d hd => by
        obtain ⟨x, _, rfl⟩ := List.mem_map.mp hd
        exact sd_nums _)
      refine set_is (p := smallP) (is_if (b := !gs.isEmpty) (IsT.eqb (ist_test (is_op (is_d rfl q9) (is_lst (ds := []) isa_nil (Nat.zero_le _)) (ri_neD sdg (Sd.sh (n := 1) sd_nil)))) (by rw [eqv_nil, List.isEmpty_map])) (fun hb => ?_) fun hb => ?_) zs fun v18 G7 H7 g7 p18 => ?_
      · cases gs with
        | nil => cases hb
        | cons g r =>
          have hg := hgs g List.mem_cons_self
          exact (is_op (is_d rfl q9) (is_int 0) (ri_ixL (j := 0) rfl rfl)).imp fun v G8 _ hv => ⟨g, by have := hg.len; have := nok.n6; omega, fun x hx => by have := hg.lt x hx; omega, hv⟩
      · refine (Is.eqd (is_lcR (n := ns.n) (f := fun _ => true) (o := fun _ => .int 0) (isa_cons (is_lw0 (i0 rfl q7)) isa_nil) (by have := nok.n6; omega) fun i G8 hi s8 => ⟨_, gt_name, rfl, fun G4 H4 _ s4 Q q => q G4 H4 (.refl s4), fun _ => is_int 0⟩) (e := nums (List.replicate ns.n 0)) ?_).imp fun v G8 _ hv => ⟨List.replicate ns.n 0, by rw [List.length_replicate]; exact nok.n6, fun x hx => by rw [(List.mem_replicate.mp hx).2]; decide, hv⟩
        show PyData.list _ = .list _
        congr 1
        unfold outI
        rw [List.filter_eq_self.mpr fun _ _ => rfl, List.map_replicate]
        refine List.ext_getElem (by simp) fun i h1 h2 => ?_
        simp
      obtain ⟨g0, hg0l, hg0x, d18⟩ := p18
      have P7 := P6.grow g7
      refine dr_for_lst (c := 0 + 10) (p := oddP) (dr_call (s := oddP) rfl (dra_of (isa_cons (is_d (d := nums g0) rfl d18) (isa_cons (is_lw0 (i1 rfl (q7.mono g7.gg))) isa_nil))) fun us G8 s8 a => ⟨oddP, ⟨g0, ns.m, hg0l, hg0x, by omega, a, rfl⟩, fun v G9 h => h⟩) P7 (by omega) fun vo G8 H8 g8 P8 po => ?_
      obtain ⟨es2, hes2, hel2, dlo⟩ := po
      have gM8 : Gr (Mp pu) G H G8 H8 := (gM6.tr0 g7).trans g8
      refine for_dat (ds := es2) (G := G8) (is_c dlo) g8.gh (fun i σ' G' H' => (∃ x20 x21, σ' = [some (.ref pu), some v1, some v2, some v3, some v4, some (.str kd), some v6, some v7, some v8, some v9, some v10, some v11, x12, x13, x14, x15, x16, x17, some v18, none, x20, x21]) ∧ Gr (Mp pu) G H G' H' ∧ PuS pu (Tm + 60000) G' H')
        (fun G9 H9 g9 => ⟨⟨_, _, rfl⟩, gM8.tr0 g9, (P8.grow g9).up (by omega)⟩) ?_ ?_
      · rintro i x d σ' G9 H9 hi hx zs9 zg9 ⟨⟨x20, x21, rfl⟩, gM9, P9⟩
        have hd := hes2 d (List.mem_of_getElem? hi)
        have s69 : Same G6 G9 := g7.gg.trans (g8.gg.trans zg9)
        refine ⟨_, gt_name, fun N hN => ?_⟩
        obtain ⟨cd, ecd⟩ : ∃ cd, cd = caughtD way n (rsort rs) kd m (rsort ms) d := ⟨_, rfl⟩
        have hcd : (∃ ds, cd = .list ds) ∧ Sm 3 cd ∨ cd = .none ∨ cd = .list [.dict []] := by
          rw [ecd]; unfold caughtD
          by_cases c : testW way n (rsort rs) kd m (rsort ms) d = true
          · rw [if_pos c]; exact .inr (.inl rfl)
          · rw [if_neg c]
            rcases hd with rfl | hd
            · exact .inr (.inr rfl)
            · exact .inl ⟨⟨_, rfl⟩, sm_lst (by simp) fun e he => by rw [List.mem_singleton.mp he]; exact hd⟩
        refine set_is (p := dat cd) (is_if (b := isLeadD ns.n ns.rs ns.m ns.qs d) (ist_B (is_call (s := dat (.bool (isLeadD ns.n ns.rs ns.m ns.qs d))) (isa_cons (i0 rfl (q7.mono s69)) (isa_cons (i1 rfl (q7.mono s69)) (isa_cons (is_d rfl hx) isa_nil))) fun vs G10 _ a => ⟨ns.n, ns.rs, ns.m, ns.qs, d, by have := nok.len; omega, nok.road, nok.kind, hd.sdl, a, rfl⟩)) (fun hb => ?_) fun hb => ?_) zs9 fun v21 G10 H10 g10 p21 => ?_
        · rw [ecd]; unfold caughtD
          rw [if_pos (by rw [htest]; exact hb)]
          exact is_non
        · rw [ecd]; unfold caughtD
          rw [if_neg (by rw [htest, hb]; exact Bool.false_ne_true)]
          exact is_lst (ds := [d]) (isa_cons (is_d rfl hx) isa_nil) (by simp)
        have s610 := s69.trans g10.gg
        refine if_is (b := false) (IsT.eqb (ist_test (is_op (is_cb (isa_cons (is_call (s := dat cd) (isa_cons (is_d rfl (q1.mono s610)) (isa_cons (is_var rfl ((web K n (rsort rs)).mono _ _ _ s610 q10)) (isa_cons (is_d rfl (.str kd)) (isa_cons (is_var rfl ((web K m (rsort ms)).mono _ _ _ s610 q11)) (isa_cons (is_d rfl (hx.mono g10.gg)) isa_nil))))) fun vs G11 _ a => ⟨way, n, rsort rs, kd, m, rsort ms, d, wa.dye hd.sdl, a, by rw [ecd]⟩) isa_nil) (rc_repr hcd)) (is_cb (isa_cons (is_d rfl p21) isa_nil) (rc_repr hcd)) ri_neS)) (by rw [decide_eq_true rfl]; rfl)) g10.gh (fun h => nomatch h) fun _ G11 H11 g11 => ?_
        exact hN _ G11 H11 (g10.gg.trans g11.gg) g11.gh ⟨⟨_, _, rfl⟩, gM9.tr0 (g10.trans g11), P9.grow (g10.trans g11)⟩
      · rintro σ' G9 H9 zs9 zg9 ⟨⟨x20, x21, rfl⟩, gM9, P9⟩
        dsimp only
        have s69 : Same G6 G9 := g7.gg.trans (g8.gg.trans zg9)
        refine ret_is (p := dat (.bool (true && true))) (G := G9) (is_andV (is_op (is_var (p := web K n (rsort rs)) rfl ((web K n (rsort rs)).mono _ _ _ s69 q10)) (is_call (s := web K n (rsort rs)) (isa_cons (is_d rfl (q4.mono s69)) isa_nil) fun vs G10 _ a => ⟨n, rs, wa.w, a, rfl⟩) (ri_eqWeb fun r hr => (wa.w.road r (mem_rsort.mp hr)).kind)) fun _ => is_op (is_var (p := web K m (rsort ms)) rfl ((web K m (rsort ms)).mono _ _ _ s69 q11)) (is_call (s := web K m (rsort ms)) (isa_cons (is_d rfl (q6.mono s69)) isa_nil) fun vs G10 _ a => ⟨m, ms, wa.u, a, rfl⟩) (ri_eqWeb fun r hr => (wa.u.road r (mem_rsort.mp hr)).kind)) zs9 fun v G10 H10 g10 pv => k v G10 H10 (gM9.tr0 g10) (P9.grow g10) pv

end
end Yd
set_option Elab.async false
set_option linter.all false
set_option maxRecDepth 100000
set_option maxHeartbeats 4000000
namespace Yd
open PySem PySem.Spec L2

def spLaw (K : PySem.W.Frag) : Sp := fun vs H Q _ => ∃ (a : Addr) (ns : List Int), vs = [.ref a] ∧ SqL K H a (ns.map V.int) ∧ ∀ H2, Q (.bl true) H2
/-- more than one purse may change -/
def Mas (as : List Addr) : Addr → Prop := fun b => b ∈ as
structure PusS (as : List Addr) (T : Nat) (G H : Hp) : Prop where
  s : Same G H
  each : ∀ a ∈ as, G a = none ∧ Pu T (H a)
theorem PusS.one {as : List Addr} {T : Nat} {G H : Hp} (P : PusS as T G H) {a : Addr} (h : a ∈ as) : PuS a T G H := ⟨P.s, (P.each a h).1, (P.each a h).2⟩
/-- one purse has changed: all stand, with its bound -/
theorem PusS.step {as : List Addr} {T T2 : Nat} {G H G2 H2 : Hp} (P : PusS as T G H) {a : Addr} (g : Gr (Mp a) G H G2 H2) (P2 : PuS a T2 G2 H2) (hT : T ≤ T2) : PusS as T2 G2 H2 := ⟨g.gh, fun c hc => by
  by_cases e : c = a
  · subst e; exact ⟨P2.gn, P2.ex⟩
  · obtain ⟨h1, pb, ps, pt, pa, h2, h3⟩ := P.each c hc
    refine ⟨g.out h1 h2, Pu.up ⟨pb, ps, pt, pa, g.hh _ _ h2 e, h3⟩ hT⟩⟩
theorem ledP_one {n many : Nat} {rs qs : List Road} {v : V} {G : Hp} (h : (ledP n many rs qs).P v G) : (v = .non ∧ ¬ ∃ g, Leads n rs many qs g) ∨ (v ≠ .non ∧ ∃ g, Leads n rs many qs g) := by
  rcases h with ⟨h1, h2⟩ | ⟨g, h1, h2⟩
  · exact .inl ⟨h1.non_inv, fun ⟨g, hg⟩ => h2 g hg⟩
  · refine .inr ⟨fun e => ?_, g, h1⟩
    subst e
    cases h2
noncomputable def hasLead (s : Side) : Bool := open Classical in decide (∃ g, Leads s.n s.rs s.m s.qs g)
theorem hasLead_iff (s : Side) : hasLead s = true ↔ ∃ g, Leads s.n s.rs s.m s.qs g := by
  unfold hasLead
  exact @decide_eq_true_iff _ (Classical.propDecidable _)
theorem ri_notNLed {G : Hp} {s : Side} : RI (fun x y H Q => y = .non ∧ Q (.bl (!decide (x = .non))) H) (ledP s.n s.m s.rs s.qs) (dat .none) G (dat (.bool (hasLead s))) := fun x y G1 H1 s1 s2 px py Q k => by
  refine ⟨py.non_inv, ?_⟩
  have e : (!decide (x = V.non)) = hasLead s := by
    rw [Bool.eq_iff_iff, hasLead_iff]
    rcases ledP_one px with ⟨h1, h2⟩ | ⟨h1, h2⟩
    · rw [decide_eq_true h1]; exact ⟨fun h => (by cases h), fun h => absurd h h2⟩
    · rw [decide_eq_false h1]; exact ⟨fun _ => h2, fun _ => rfl⟩
  rw [e]
  exact k _ G1 H1 (.refl s2) (.bl _)
theorem dr_drawJ {σ : L2.St} {pu : Addr} {G : Hp} {te : TE} {j m : Nat} {E : XK} (hσ : σ[j]? = some (some (.ref pu))) (h : Is te σ G (dat (.int (m : Int)))) (h1 : 1 ≤ m) (h2 : m ≤ 100000) : Dr (tCall (PurseSp 1 preDraw) [] E (tCons (tVar j) (tCons te tNil))) σ pu 1 G (belP m) :=
  (dr_call (c1 := 0) (s := belP m) hσ (dra_of (isa_cons h isa_nil)) fun us G1 s1 a => ⟨_, ⟨m, h1, h2, a, rfl⟩, fun v G2 h => h⟩).up (by omega)
def kindP : Pm := ⟨fun v _ => ∃ k, KindOk k ∧ v = .str k, fun _ _ _ _ h => h⟩
def mostP : Pm := ⟨fun v _ => ∃ n : Nat, (n = 5 ∨ n = 3) ∧ v = .int (n : Int), fun _ _ _ _ h => h⟩
theorem web_le {a b c d : Nat} (h1 : a ≤ c) (h2 : b ≤ d) : ∀ v G, (webP a b).P v G → (webP c d).P v G := fun v G ⟨n, rs, e1, e2, e3, e4⟩ => ⟨n, rs, by omega, e2, by omega, e4⟩
theorem for_purses {K : PySem.W.Frag} {σ : L2.St} {H : Hp} {a : Addr} {ns : List Int} {g : TG} {t1 : TS} {D0 : Ends} (hσ : σ[0]? = some (some (.ref a))) (hs : (scriptP K ns).P (.ref a) H)
    (k : ∀ (D : Addr) (as : List Addr) G1 H1, Gr0 H H G1 H1 → G1 D = some (.lst (as.map V.ref)) → (∀ a ∈ as, G1 a = none ∧ Pu 0 (H1 a)) → as.length ≤ 101 → tFor (iList K (tC (.ref D))) g t1 D0 σ H1) :
    tFor (iList K (tCall (spPurses K) [] E0 (tCons (tVar 0) (tCons (tC (.int 3)) tNil)))) g t1 D0 σ H := by
  have key : ∀ Q : VK, (∀ (D : Addr) (as : List Addr) G1 H1, Gr0 H H G1 H1 → G1 D = some (.lst (as.map V.ref)) → (∀ a ∈ as, G1 a = none ∧ Pu 0 (H1 a)) → as.length ≤ 101 → Q (.ref D) H1) → tCall (spPurses K) [] E0 (tCons (tVar 0) (tCons (tC (.int 3)) tNil)) σ H Q := fun Q kk => by
    refine ⟨_, hσ, ?_⟩
    show spPurses K ([.ref a, .int 3] ++ []) H Q E0
    rw [List.append_nil]
    exact ⟨H, ns, 3, Same.refl _, by decide, ⟨_, _, rfl, hs, _, _, rfl, .int 3, rfl⟩, kk⟩
  exact key _ fun D as G1 H1 h1 h2 h3 h4 => k D as G1 H1 h1 h2 h3 h4
theorem if_not_dr {σ : L2.St} {pu : Addr} {G H : Hp} {T c : Nat} {te : TE} {t1 t2 : TS} {D0 : Ends} (h : Dr te σ pu c G (dat (.bool true))) (P : PuS pu T G H) (hT : T + c ≤ LT) (k : ∀ G2 H2, Gr (Mp pu) G H G2 H2 → PuS pu (T + c) G2 H2 → t2 D0 σ H2) : tIfS (tNot (tB te)) t1 t2 D0 σ H :=
  h G H T (Same.refl _) P hT _ fun v G2 H2 g2 P2 pv => ⟨true, pv.bl_inv, by show t2 D0 σ H2; exact k G2 H2 g2 P2⟩
theorem kinds_back {ks : List Str} {k : Str} (hk : ∀ x ∈ ks, KindOk x) (h : KindOk k) : ∀ x ∈ ks ++ [k], KindOk x := fun x hx => by
  rcases List.mem_append.mp hx with hx | hx
  · exact hk x hx
  · rw [List.mem_singleton.mp hx]; exact h
section
variable {P : Program} {w : World} {K : PySem.W.Frag} {mg : Str → Option Value} {base : Heap}
theorem sc_law : FnScope ["_law_script", "_law_purse_here", "_law_kinds", "_law_kind", "_law_web", "_law_dyes", "_law_some", "_law_pair_web_here", "_law_line", "_law_plain", "_law_road", "_law_sides", "_law_led_here", "_law_side", "_law_way"] ["_law_script"] (defScope (top 66)) := ⟨rfl, rfl, rfl, by decide +kernel, rfl, by decide +kernel, by decide +kernel⟩
theorem ok_law {C fI : Addr} (TE : TxE K) (LX : LeadTxt P K mg C fI) (T : Tx K mg) {fd : FuncData} (F : FunD K "law" "law" (defArgs (top 66)) (defBody (top 66)) (defScope (top 66)) [] [] (He.ga K "law") fd) : FnOkG P w K mg base CX0 12 (He.ga K "law") fd ["_law_script"] (spLaw K) := by
  refine okG F sc_law (fun vs H Q E h => ?_) fun cdv A outer s H vs Q E hr hgd h => ?_
  · obtain ⟨a, ns, rfl, _⟩ := h; rfl
  · obtain ⟨a, script, rfl, hsq, k⟩ := h
    have hLT : LT = 1000000000 := rfl
    refine ⟨_, PSs.nox (pss_cons (ps_for PassesOwn.never rfl (pi_listK (K := K) rfl (pe_callH (has_lpurses T) (hr.mono (by decide)) pass0 (pa_cons (pv 0) (pa_cons (pe_int) (pa_nil))))) (pg_name (i := 1) sc_law.nd rfl (by first | exact Or.inl rfl | exact Or.inr rfl)) (pss_cons (ps_set (i := 2) sc_law.nd rfl (by first | exact Or.inl rfl | exact Or.inr rfl) (pe_callH (has_lkinds_of T) (hr.mono (by decide)) pass0 (pa_cons (pv 1) (pa_cons (pe_op op_addU (pe_int) (pe_callH (has_ldraw T) (hr.mono (by decide)) pass0 (pa_cons (pv 1) (pa_cons (pe_int) (pa_nil))))) (pa_nil)))))
        (pss_cons (ps_asg (pe_tup (pa_cons (pe_callH (has_lone_of T) (hr.mono (by decide)) pass0 (pa_cons (pv 1) (pa_cons (pv 2) (pa_nil)))) (pa_cons (pe_callH (has_lsmall_web T) (hr.mono (by decide)) pass0 (pa_cons (pv 1) (pa_cons (pv 2) (pa_cons (pe_int) (pa_cons (pe_int) (pa_nil)))))) (pa_nil)))) (pg_tupK (K := K) (n := 2) rfl rfl (pgs_cons (pg_name (i := 3) sc_law.nd rfl (by first | exact Or.inl rfl | exact Or.inr rfl)) (pgs_cons (pg_name (i := 4) sc_law.nd rfl (by first | exact Or.inl rfl | exact Or.inr rfl)) (pgs_nil)))))
        (pss_cons (ps_set (i := 5) sc_law.nd rfl (by first | exact Or.inl rfl | exact Or.inr rfl) (pe_callH (has_lsmall_web T) (hr.mono (by decide)) pass0 (pa_cons (pv 1) (pa_cons (pv 2) (pa_cons (pe_ifExp (pt_cmpR (op_eqDK (K := K) rfl (un70 hr)) (pe_callH (has_ldraw T) (hr.mono (by decide)) pass0 (pa_cons (pv 1) (pa_cons (pe_int) (pa_nil)))) (pe_int) (nomark _)) (pe_int) (pe_int)) (pa_cons (pe_int) (pa_nil)))))))
        (pss_cons (ps_set (i := 6) sc_law.nd rfl (by first | exact Or.inl rfl | exact Or.inr rfl) (pe_callH (has_lpairs_of T) (hr.mono (by decide)) pass0 (pa_cons (pv 5) (pa_cons (pv 3) (pa_nil)))))
        (pss_cons (ps_set (i := 7) sc_law.nd rfl (by first | exact Or.inl rfl | exact Or.inr rfl) (pe_callH (has_lpair_web T) (hr.mono (by decide)) pass0 (pa_cons (pv 6) (pa_cons (pv 3) (pa_nil)))))
        (pss_cons (ps_if (pt_not (pt_val (pe_callHG (has_lkinds_right TE T) (hr.mono (by decide)) hgd pass0 (pa_cons (pv 5) (pa_cons (pe_op op_addU (pv 2) (pe_lst (pa_cons (pv 3) (pa_nil)))) (pa_nil)))))) (pss_one (ps_ret (pe_bl))) (pss_nil))
        (pss_cons (ps_par (i := 8) (j := 9) rfl sc_law.nd rfl rfl (by decide) rfl rfl (pa_cons (pe_callH (has_lline_web T) (hr.mono (by decide)) pass0 (pa_cons (pv 4) (pa_cons (pv 3) (pa_nil)))) (pa_cons (pe_lst (pa_cons (pe_ix (ix_seqK (K := K) rfl) (pv 4) (pe_int) (fun _ _ => rfl)) (pa_cons (pe_lc (own := [("_law_road", 10)]) rfl sc_law.nd (pi_listK (K := K) rfl (pe_ix (ix_seqK (K := K) rfl) (pv 4) (pe_int) (fun _ _ => rfl))) (blkOk_by (by rfl)) (fun _ _ _ _ _ => pg_name (i := 10) sc_law.nd rfl (by first | exact Or.inl rfl | exact Or.inr rfl)) (fun _ _ _ _ _ => pts_one (pt_cmpR (op_eqDK (K := K) rfl (un70 hr)) (pe_ix (ix_seqK (K := K) rfl) (pv 10) (pe_int) (fun _ _ => rfl)) (pv 3) (nomark _))) (fun _ _ _ _ _ => pv 10)) (pa_nil)))) (pa_nil))) (by rfl))
        (pss_cons (ps_set (i := 11) sc_law.nd rfl (by first | exact Or.inl rfl | exact Or.inr rfl) (pe_lst (pa_cons (pe_lst (pa_cons (pv 8) (pa_cons (pv 5) (pa_nil)))) (pa_cons (pe_lst (pa_cons (pv 9) (pa_cons (pv 7) (pa_nil)))) (pa_nil)))))
        (pss_cons (ps_setLc (i := 12) (own := [("_law_side", 13)]) rfl sc_law.nd rfl rfl (sw_true rfl rfl rfl (by rfl)) (pi_listK (K := K) rfl (pv 11)) (blkOk_by (by rfl)) (fun _ _ _ _ _ => pg_name (i := 13) sc_law.nd rfl (by first | exact Or.inl rfl | exact Or.inr rfl)) (fun _ _ _ _ _ => pts_nil) (fun _ _ _ _ _ => pe_cmpR op_notN (pe_callH (has_lled T) (hr.mono (by decide)) pass0 (pa_cons (pe_ix (ix_seqK (K := K) rfl) (pe_ix (ix_seqK (K := K) rfl) (pv 13) (pe_int) (fun _ _ => rfl)) (pe_int) (fun _ _ => rfl)) (pa_cons (pe_ix (ix_seqK (K := K) rfl) (pe_ix (ix_seqK (K := K) rfl) (pv 13) (pe_int) (fun _ _ => rfl)) (pe_int) (fun _ _ => rfl)) (pa_cons (pe_ix (ix_seqK (K := K) rfl) (pe_ix (ix_seqK (K := K) rfl) (pv 13) (pe_int) (fun _ _ => rfl)) (pe_int) (fun _ _ => rfl)) (pa_cons (pe_ix (ix_seqK (K := K) rfl) (pe_ix (ix_seqK (K := K) rfl) (pv 13) (pe_int) (fun _ _ => rfl)) (pe_int) (fun _ _ => rfl)) (pa_nil)))))) pe_non (nomark _)))
        (pss_cons (ps_if (pt_cmpR (op_neDK (K := K) rfl (un70 hr)) (pe_ix (ix_seqK (K := K) rfl) (pv 12) (pe_int) (fun _ _ => rfl)) (pe_ix (ix_seqK (K := K) rfl) (pv 12) (pe_int) (fun _ _ => rfl)) (nomark _)) (pss_one (ps_ret (pe_bl))) (pss_nil))
        (pss_one (ps_for PassesOwn.never rfl (pi_range1 rfl (T.free "range") (pa_cons (pe_op op_mulU (pe_int) (pe_callTy call_int1 (by rfl) (T.free "int") (by decide +kernel) (pa_cons (pe_cmpR op_lt (pe_callB (call_lenK (K := K) rfl) (by rfl) (T.free "len") (by decide +kernel) (pa_cons (pv 6) (pa_nil))) (pe_int) (nomark _)) (pa_nil)))) (pa_nil))) (pg_name (i := 14) sc_law.nd rfl (by first | exact Or.inl rfl | exact Or.inr rfl)) (pss_one (ps_if (pt_not (pt_val (pe_callHG (has_lway_right TE LX T) (hr.mono (by decide)) hgd pass0 (pa_cons (pv 1) (pa_cons (pv 14) (pa_cons (pv 11) (pa_cons (pe_tup (pa_cons (pv 4) (pa_cons (pv 3) (pa_cons (pv 5) (pa_nil))))) (pa_nil)))))))) (pss_one (ps_ret (pe_bl))) (pss_nil))))))))))))))))
      (pss_one (ps_ret (pe_bl)))), ?_⟩
    have hsc : (scriptP K script).P (.ref a) H := ⟨a, rfl, hsq⟩
    -- for purse in purses(script, 3)
    refine for_purses (ns := script) rfl hsc fun D as G1 H1 g1 hD hpu hal => ?_
    refine ⟨D, rfl, ⟨as.map V.ref, SqL.of (g1.gh _ _ hD)⟩, ?_⟩
    refine for_list (K := K) (a := D) (xs := as.map V.ref) (fun i σ' H' => ∃ G', (∃ x1 x2 x3 x4 x5 x6 x7 x8 x9 x11 x12 x14, σ' = [some (.ref a), x1, x2, x3, x4, x5, x6, x7, x8, x9, none, x11, x12, none, x14]) ∧ Same G1 G' ∧ PusS as (i * 200000) G' H') ⟨G1, ⟨_, _, _, _, _, _, _, _, _, _, _, _, rfl⟩, Same.refl _, g1.gh, fun c hc => ⟨(hpu c hc).1, (hpu c hc).2.up (Nat.zero_le _)⟩⟩ ?_ ?_ ?_
    · rintro i σ' H' _ ⟨G', _, s, P⟩
      exact SqL.of (P.s _ _ (s _ _ hD))
    · rintro i y σ' H' hi ⟨G', ⟨x1, x2, x3, x4, x5, x6, x7, x8, x9, x11, x12, x14, rfl⟩, s1, PP⟩
      have hil : i < as.length := by
        have := (List.getElem?_eq_some_iff.mp hi).1
        rwa [List.length_map] at this
      rw [List.getElem?_map, Option.map_eq_some_iff] at hi
      obtain ⟨pu, hpi, rfl⟩ := hi
      have hpm := List.mem_of_getElem? hpi
      obtain ⟨Tb, eTb⟩ : ∃ Tb, Tb = i * 200000 := ⟨_, rfl⟩
      have hTb : Tb + 200000 ≤ LT := by rw [hLT, eTb]; omega
      rw [← eTb] at PP
      have P0 := PP.one hpm
      show gName 1 _ _ _ _
      refine set_dr (c := ((0 + 1) + 0) + 60000) (p := kindsP) (dr_call (s := kindsP) rfl (dra_cons (p := someLen 3) (dr_op (Dr.of (is_int 1)) (dr_drawJ (m := 3) rfl (is_int 3) (by decide) (by decide)) (ri_belR fun m hm => (ri_addI (i := 1)).imp fun v G2 hv => ⟨1 + m, by omega, by omega, by rw [hv.int_inv]; simp⟩)) dra_nil) fun us G2 s2 aa => ?_) P0 (by omega) fun v2 G2 H2 g2 P2 p2 => ?_
      · obtain ⟨w, rfl, ⟨q, hq1, hq2, rfl⟩⟩ := allp1 aa
        exact ⟨kindsP, ⟨q, hq1, by omega, ⟨_, _, rfl, .int _, rfl⟩, rfl⟩, fun v G3 h => h⟩
      obtain ⟨ks, hks, hk1, hk8, d2⟩ := p2
      refine asg_pairD (c1 := 0 + 1) (c2 := 0 + 110) (p := kindP) (q := webP 4 6) (dr_call (s := kindP) rfl (dra_of (isa_cons (is_d rfl d2) isa_nil)) fun us G3 s3 aa => ⟨memP (ks.map .str), ⟨ks.map .str, by rw [List.length_map]; exact hk1, by rw [List.length_map]; omega, aa, rfl⟩, fun v G4 ⟨d, hd, dv⟩ => ?_⟩) (dr_call (s := webP 4 6) rfl (dra_of (isa_cons (is_d rfl d2) (isa_cons (is_int 4) (isa_cons (is_int 6) isa_nil)))) fun us G3 s3 aa => ⟨webP 4 6, ⟨ks, 4, 6, hks, by omega, by decide, by decide, by decide, aa, rfl⟩, fun v G4 h => h⟩) P2 (by omega) fun v3 v4 G3 H3 g3 P3 p3 p4 => ?_
      · obtain ⟨x, hx, rfl⟩ := List.mem_map.mp hd
        exact ⟨x, hks x hx, dv.str_inv⟩
      obtain ⟨kd, hkd, rfl⟩ := p3
      obtain ⟨n, rs, hn4, hw, hr6, d4⟩ := p4
      have d23 := d2.mono g3.gg
      refine set_dr (c := (0 + (((1 + 0) + 0) + (0 + 0))) + 110) (p := webP 5 9) (dr_call (s := webP 5 9) rfl (dra_cons (Dr.of (is_d rfl d23)) (dra_cons (p := mostP) (dr_if (dr_test (dr_op (s := boolP) (dr_drawJ (m := 4) rfl (is_int 4) (by decide) (by decide)) (Dr.of (is_int 0)) (ri_bel fun m hm => (ri_eqD (Sd.sh (n := 1) (sd_int _)) (Sd.sh (n := 1) (sd_int _))).imp fun v G1 hv => ⟨_, hv.bl_inv⟩))) ((Dr.of (is_int 5)).imp (q := mostP) fun v G4 _ hv => ⟨5, .inl rfl, hv.int_inv⟩) ((Dr.of (is_int 3)).imp (q := mostP) fun v G4 _ hv => ⟨3, .inr rfl, hv.int_inv⟩)) (dra_of (isa_cons (is_int 9) isa_nil)))) fun us G4 s4 aa => ?_) P3 (by omega) fun v5 G4 H4 g4 P4 p5 => ?_
      · obtain ⟨a1, a2, a3, rfl, q1, ⟨mo, hmo, rfl⟩, q3⟩ := allp3 aa
        exact ⟨webP mo 9, ⟨ks, mo, 9, hks, by omega, by omega, by omega, by decide, ⟨_, _, rfl, q1, _, _, rfl, .int _, _, _, rfl, q3, rfl⟩, rfl⟩, web_le (by omega) (by decide)⟩
      obtain ⟨m, ms, hm5, hu, hm9, d5⟩ := p5
      have d24 := d23.mono g4.gg
      have d44 := d4.mono g4.gg
      have wa : WayArg n rs kd m ms := ⟨hw, by omega, hr6, hu, hm5, hkd⟩
      have hmk : ∀ r ∈ ms, KindOk r.1 := fun r hr => (hu.road r hr).kind
      have hrk : ∀ r ∈ rs, KindOk r.1 := fun r hr => (hw.road r hr).kind
      obtain ⟨ps, eps⟩ : ∃ ps, ps = pairsL m kd ms := ⟨_, rfl⟩
      have hp32 : ps.length ≤ 32 := eps ▸ pairs_32 hm5
      have hps : ∀ p ∈ ps, p.2.length ≤ 1000 := fun p hp => pairs_small (k := kd) (ms := ms) hm5 (eps ▸ hp)
      refine set_is (p := dat (.list (ps.map prD))) (is_call (isa_cons (is_d rfl d5) (isa_cons (is_d rfl (.str kd)) isa_nil)) fun vs G5 _ aa => ⟨m, ms, kd, hm5, hkd, hmk, aa, by rw [eps]⟩) g4.gh fun v6 G5 H5 g5 p6 => ?_
      refine set_is (p := dat (lwD ps.length (pairEdges ps kd))) (is_call (isa_cons (is_d rfl p6) (isa_cons (is_d rfl (.str kd)) isa_nil)) fun vs G6 _ aa => ⟨ps, kd, hkd, hp32, hps, aa, rfl⟩) g5.gh fun v7 G6 H6 g6 p7 => ?_
      have s46 := g5.gg.trans g6.gg
      refine if_is (b := false) (ist_not (b := true) (ist_B (is_call (s := dat (.bool true)) (isa_cons (is_d rfl (d5.mono s46)) (isa_cons (Is.eqd (is_op (is_d rfl (d24.mono s46)) (is_lst (ds := [.str kd]) (isa_cons (is_d rfl (.str kd)) isa_nil) (by simp)) (ri_addL (by rw [List.length_map]; simp only [List.length_cons, List.length_nil]; omega))) (show PyData.list (ks.map .str ++ [.str kd]) = .list ((ks ++ [kd]).map .str) by rw [List.map_append]; rfl)) isa_nil)) fun vs G7 _ aa => ⟨m, ms, ks ++ [kd], hm5, hu, kinds_back hks hkd, by rw [List.length_append]; simp only [List.length_cons, List.length_nil]; omega, aa, rfl⟩))) g6.gh (fun h => nomatch h) fun _ G7 H7 g7 => ?_
      unfold tNext
      dsimp only
      have s47 := s46.trans g7.gg
      have hofk := ofK_len (k := kd) rs
      refine par_is (p := dat (lwD (sideL rs kd m ms).n (sideL rs kd m ms).rs)) (q := dat (lwD n (ofK kd rs))) (is_call (isa_cons (is_d rfl (d44.mono s47)) (isa_cons (is_d rfl (.str kd)) isa_nil)) fun vs G8 _ aa => ⟨n, rs, kd, hkd, hrk, by omega, aa, rfl⟩) (is_lst (ds := [.int (n : Int), .list ((ofK kd rs).map rd)]) (isa_cons (is_lw0 (is_d rfl (d44.mono s47))) (isa_cons (is_lcA rd (xs := rs) (p := fun r => decide (r.1 = kd)) (q := rd) (is_lw1 (is_d rfl (d44.mono s47))) (by omega) fun w r G8 hr s8 hwv => ⟨_, gt_name, rfl, IsT.eqb (ist_test (is_op (is_op (is_d rfl hwv) (is_int 0) (ri_ixT (j := 0) rfl rfl)) (is_d rfl (.str kd)) (ri_eqD (Sd.sh (n := 1) (sd_str (hrk r hr).sok)) (Sd.sh (n := 1) (sd_str hkd.sok))))) (eqv_str _ _), fun _ => is_d rfl hwv⟩) isa_nil)) (by simp)) g7.gh fun v8 v9 G8 H8 g8 p8 p9 => ?_
      have s48 := s47.trans g8.gg
      refine set_is (p := dat (sidesD n rs kd m ms)) (is_lst (ds := [sdD (sideL rs kd m ms), sdD (sideP n rs kd m ms)]) (isa_cons (is_lst (ds := [lwD (sideL rs kd m ms).n (sideL rs kd m ms).rs, lwD m ms]) (isa_cons (is_d rfl p8) (isa_cons (is_d rfl (d5.mono s48)) isa_nil)) (by simp)) (isa_cons (is_lst (ds := [lwD n (ofK kd rs), lwD (pairsL m kd ms).length (pairEdges (pairsL m kd ms) kd)]) (isa_cons (is_d rfl p9) (isa_cons (is_d rfl (eps ▸ p7.mono (g7.gg.trans g8.gg))) isa_nil)) (by simp)) isa_nil)) (by simp)) g8.gh fun v11 G9 H9 g9 p11 => ?_
      have sok : ∀ s ∈ [sideL rs kd m ms, sideP n rs kd m ms], SideOk s := fun s hs => by
        simp only [List.mem_cons, List.not_mem_nil, or_false] at hs
        rcases hs with rfl | rfl
        · exact wa.sideL
        · exact wa.sideP
      refine set_is (p := dat (.list [.bool (hasLead (sideL rs kd m ms)), .bool (hasLead (sideP n rs kd m ms))])) (Is.eqd (is_lcA sdD (xs := [sideL rs kd m ms, sideP n rs kd m ms]) (p := fun _ => true) (q := fun s => .bool (hasLead s)) (is_d rfl p11) (by simp) fun w s G10 hs s10 hwv => ⟨_, gt_name, rfl, fun G4 H4 _ s4 Q q => q G4 H4 (.refl s4), fun _ => is_op (is_call (s := ledP s.n s.m s.rs s.qs) (isa_cons (is_lw0 (is_op (is_d rfl hwv) (is_int 0) (ri_ixL (j := 0) rfl rfl))) (isa_cons (is_lw1 (is_op (is_d rfl hwv) (is_int 0) (ri_ixL (j := 0) rfl rfl))) (isa_cons (is_lw0 (is_op (is_d rfl hwv) (is_int 1) (ri_ixL (j := 1) rfl rfl))) (isa_cons (is_lw1 (is_op (is_d rfl hwv) (is_int 1) (ri_ixL (j := 1) rfl rfl))) isa_nil)))) fun vs G11 _ aa => ⟨s.n, s.m, s.rs, s.qs, by have := (sok s hs).n6; omega, (sok s hs).m32, (sok s hs).len, (sok s hs).qlen, (sok s hs).road, aa, rfl⟩) is_non ri_notNLed⟩) rfl) g9.gh fun v12 G10 H10 g10 p12 => ?_
      have hboth : hasLead (sideL rs kd m ms) = hasLead (sideP n rs kd m ms) := by
        rw [Bool.eq_iff_iff, hasLead_iff, hasLead_iff]; exact way_both wa
      refine if_is (b := false) (IsT.eqb (ist_test (is_op (is_op (is_d rfl p12) (is_int 0) (ri_ixL (j := 0) rfl rfl)) (is_op (is_d rfl p12) (is_int 1) (ri_ixL (j := 1) rfl rfl)) (ri_neD (Sd.sh (n := 1) (sd_bool _)) (Sd.sh (n := 1) (sd_bool _))))) (by rw [hboth]; cases hasLead (sideP n rs kd m ms) <;> simp [PyData.eqv])) g10.gh (fun h => nomatch h) fun _ G11 H11 g11 => ?_
      dsimp only
      have g411 := g5.trans (g6.trans (g7.trans (g8.trans (g9.trans (g10.trans g11)))))
      have P11 := P4.grow g411
      have gM11 : Gr (Mp pu) G' H' G11 H11 := (g2.trans (g3.trans g4)).tr0 g411
      have s611 : Same G5 G11 := (g6.trans (g7.trans (g8.trans (g9.trans (g10.trans g11))))).gg
      have s911 : Same G9 G11 := (g10.trans g11).gg
      obtain ⟨nw, enw⟩ : ∃ nw : Nat, nw = if ps.length < 7 then 2 else 0 := ⟨_, rfl⟩
      have hnw : nw ≤ 2 := by rw [enw]; by_cases c : ps.length < 7 <;> simp [c]
      refine for_rng (n := nw) (G := G11) (isa_cons (Is.eqd (is_op (is_int 2) (is_cb (isa_cons (is_op (is_cb (isa_cons (is_d rfl (p6.mono s611)) isa_nil) (len_map prD ps)) (is_int 7) (ri_B (g := fun i j => decide (i < j)))) isa_nil) rc_int1) (ri_mulI (cmul (n := 2) (m := 1) (by decide) ?_ (by decide)))) (congrArg PyData.int ?_)) isa_nil) (by omega) g11.gh (fun t σ' G'' H'' => (∃ x14, σ' = [some (.ref a), some (.ref pu), some v2, some (.str kd), some v4, some v5, some v6, some v7, some v8, some v9, none, some v11, some v12, none, x14]) ∧ Gr (Mp pu) G' H' G'' H'' ∧ PuS pu (Tb + 60400 + t * 60000) G'' H'')
        (fun G12 H12 g12 => ⟨⟨_, rfl⟩, gM11.tr0 g12, (P11.grow g12).up (by omega)⟩) ?_ ?_
      · by_cases c : (ps.length : Int) < 7
        · rw [decide_eq_true c]; decide
        · rw [decide_eq_false c]; decide
      · rw [enw]
        by_cases c : (ps.length : Int) < 7
        · rw [decide_eq_true c, if_pos (by omega : ps.length < 7)]; rfl
        · rw [decide_eq_false c, if_neg (by omega : ¬ ps.length < 7)]; rfl
      · rintro t σ' G12 H12 ht zs12 zg12 ⟨⟨x14, rfl⟩, gM12, P12⟩
        have hp6 : (pairsL m kd ms).length ≤ 6 := by
          rw [← eps]
          by_cases c : ps.length < 7
          · omega
          · rw [enw, if_neg c] at ht; omega
        refine ⟨_, gt_name, fun N hN => ?_⟩
        have s412 : Same G4 G12 := g411.gg.trans zg12
        refine if_not_dr (c := 0 + 60000) (dr_call (s := dat (.bool true)) rfl (dra_of (isa_cons (is_d (d := .int (t : Int)) rfl (.int _)) (isa_cons (is_d rfl (p11.mono (s911.trans zg12))) (isa_cons (is_tup (ds := [lwD n rs, .str kd, lwD m ms]) (isa_cons (is_d rfl (d44.mono s412)) (isa_cons (is_d rfl (.str kd)) (isa_cons (is_d rfl (d5.mono s412)) isa_nil))) (by simp)) isa_nil)))) fun us G13 s13 aa => ⟨dat (.bool true), ⟨t, n, rs, kd, m, ms, by omega, wa, hp6, aa, rfl⟩, fun v G14 h => h⟩) P12 (by omega) fun G13 H13 g13 P13 => ?_
        exact hN _ G13 H13 g13.gg g13.gh ⟨⟨_, rfl⟩, gM12.trans g13, P13.up (by omega)⟩
      · rintro σ' G12 H12 zs12 zg12 ⟨⟨x14, rfl⟩, gM12, P12⟩
        exact ⟨G12, ⟨_, _, _, _, _, _, _, _, _, _, _, _, rfl⟩, s1.trans gM12.gg, PP.step gM12 (P12.up (by omega)) (by omega)⟩
    · rintro σ' H' ⟨G', ⟨x1, x2, x3, x4, x5, x6, x7, x8, x9, x11, x12, x14, rfl⟩, s1, PP⟩
      dsimp only
      exact k H'

end
end Yd
set_option Elab.async false
set_option linter.all false
set_option maxRecDepth 100000
set_option maxHeartbeats 4000000
/-! the head's own Hook: hookD's facts and a Bool of the rest -/
namespace Yd
open PySem PySem.Spec L2
def fB (o : Option (Option Value)) (b : String) : Bool := match o with
  | some (some (.builtin x)) => decide (x = b)
  | _ => false
theorem fB_ok {o : Option (Option Value)} {b : String} (h : fB o b = true) : o = some (some (.builtin b)) := by
  unfold fB at h
  split at h
  · rw [of_decide_eq_true h]
  · cases h
def fN (o : Option (Option Value)) : Bool := match o with
  | some none => true
  | _ => false
theorem fN_ok {o : Option (Option Value)} (h : fN o = true) : o = some none := by
  unfold fN at h
  split at h
  · rfl
  · cases h
def fR (o : Option (Option Value)) (a : Addr) : Bool := match o with
  | some (some (.ref x)) => decide (x = a)
  | _ => false
theorem fR_ok {o : Option (Option Value)} {a : Addr} (h : fR o a = true) : o = some (some (.ref a)) := by
  unfold fR at h
  split at h
  · rw [of_decide_eq_true h]
  · cases h
def fT (o : Option Value) (b : String) : Bool := match o with
  | some (.type x) => decide (x = b)
  | _ => false
theorem fT_ok {o : Option Value} {b : String} (h : fT o b = true) : o = some (.type b) := by
  unfold fT at h
  split at h
  · rw [of_decide_eq_true h]
  · cases h
def bT (o : Option Bool) : Bool := match o with
  | some true => true
  | _ => false
theorem bT_ok {o : Option Bool} (h : bT o = true) : o = some true := by
  unfold bT at h
  split at h
  · rfl
  · cases h
abbrev AlX : Type := Bool × He.AlD
def asX (g : Addr → Option Obj) (n : Nat) : List Addr := He.asD g n ++ [cStatics]
def obsX (ex : PySem.W.Frag → Bool) (n : Nat) (g : Addr → Option Obj) : AlX := (ex (He.frG g (asX g n)), He.obsD fa fn (He.frG g (asX g n)))
def hookX (ex : PySem.W.Frag → Bool) (n : Nat) : PySem.W.Hook where
  α := AlX
  obs := fun s => obsX ex n s.heap.get?
  val := fun _ => (true, He.valD fn)
  says := fun _ h => ∃ K : PySem.W.Frag, K.In h ∧ He.SaysD fa fn K ∧ ex K = true
  of := fun _ _ e => ⟨_, He.frG_in, congrArg Prod.snd e, congrArg Prod.fst e⟩
  keeps := fun _ _ _ ⟨K, hK, c, d⟩ k => ⟨K, PySem.W.Frag.In.keeps hK k, c, d⟩
theorem obsX_eq {ex : PySem.W.Frag → Bool} {n : Nat} {g : Addr → Option Obj} {s : Shared} (h : ∀ a, g a = s.heap.get? a) : obsX ex n g = (hookX ex n).obs s := by
  have e : g = s.heap.get? := funext h
  rw [e] <;> rfl
end Yd
set_option Elab.async false
set_option linter.all false
set_option maxRecDepth 100000
set_option maxHeartbeats 4000000
/-! what the top leaves of InvalidLeading, read as Bools -/
namespace Yd
open PySem PySem.W PySem.Calls PySem.Spec PyProof.Rows PySem.HandSPX L2
def clsX (K : Frag) (C : Addr) : Bool := match K.lookup C with
  | some ⟨.type "type", _, .cls cd, sl⟩ => (match cd.mro, sl.toList with
    | .ref C' :: bm, [_, _, _, _, some (.builtin n), _] => C' == C && n == "ValueError.__new__" && !cd.hasDel && cd.hasDict && refsVE bm
    | _, _ => false)
  | _ => false
theorem clsX_ok {K : Frag} {C : Addr} (q : clsX K C = true) : ∃ nm q N bs bm sn sub ab col dd k0 k1 k2 k3 k5, K.lookup C = some (excClassObj nm q C N bs bm true sn sub ab col dd k0 k1 k2 k3 k5 "ValueError.__new__") ∧ refsVE bm = true := by
  unfold clsX at q
  split at q
  · rename_i dd cd sl ho
    split at q
    · rename_i C' bm k0 k1 k2 k3 n k5 hm hs
      simp only [Bool.and_eq_true, beq_iff_eq, Bool.not_eq_true'] at q
      obtain ⟨⟨⟨⟨rfl, rfl⟩, hdel⟩, hdict⟩, hr⟩ := q
      obtain ⟨nm, bs, mro, ns, qn, hd, sn, sub, ab, col, del⟩ := cd
      dsimp only at hm hdel hdict
      subst hm hdel hdict
      have hsl : sl = #[k0, k1, k2, k3, some (.builtin "ValueError.__new__"), k5] := by
        obtain ⟨l⟩ := sl
        simp only at hs
        rw [hs]
      subst hsl
      exact ⟨nm, qn, ns, bs, bm, sn, sub, ab, col, dd, k0, k1, k2, k3, k5, ho, hr⟩
    · cases q
  · cases q
abbrev FnI : Type := Option (Str × Str × Arguments × FuncBody × Scope × Addr × List Str × Addr)
def fnI (K : Frag) (f : Addr) : FnI := match K.lookup f with
  | some ⟨_, _, .func fd, _⟩ => some (fd.name, fd.qualname, fd.params, fd.body, fd.scope, fd.globals, fd.closure.map (·.1), fd.builtins)
  | _ => none
def fnIval : FnI := some ("__init__", "InvalidLeading.__init__", iA0, .stmts iB0, iS, mainGlobals, ["__class__"], builtinsNs)
def dfB (K : Frag) (v : Value) : Bool := match v with
  | .ref T => (match K.lookup T with
    | some ⟨_, _, .seq its _, _⟩ => (match its.toList with
      | [.none] => true
      | _ => false)
    | _ => false)
  | _ => false
def cdB (P : Program) (K : Frag) (v : Value) : Bool := match v with
  | .ref c => codeIn K (.ref c) "InvalidLeading.__init__" && (match K.lookup c with
    | some ⟨_, _, .fields vs, _⟩ => (match (vs[2]? : Option Value) with
      | some (.str f _) => P.main.file == f
      | _ => false)
    | _ => false)
  | _ => false
def clB (K : Frag) (cl : List (Str × Addr)) (C : Addr) : Bool := match cl with
  | [(_, cc)] => (match K.lookup cc with
    | some ⟨_, _, .cell (some (.ref x)), _⟩ => decide (x = C)
    | _ => false)
  | _ => false
def fnB (P : Program) (K : Frag) (C f : Addr) : Bool := match K.lookup f with
  | some ⟨_, _, .func fd, _⟩ => dfB K fd.defaults && (cdB P K fd.code && clB K fd.closure C)
  | _ => false
theorem dfB_ok {K : Frag} : ∀ {v : Value}, dfB K v = true → ∃ T ot n, v = .ref T ∧ K.lookup T = some ot ∧ ot.data = .seq #[.none] n := fun {v} h => by
  cases v with
  | ref T =>
    simp only [dfB] at h
    split at h
    · rename_i c1 c2 its n sl hT
      split at h
      · rename_i hits
        refine ⟨T, _, n, rfl, hT, ?_⟩
        obtain ⟨l⟩ := its
        simp only at hits
        rw [hits]
      · cases h
    · cases h
  | _ => simp [dfB] at h
theorem cdB_ok {P : Program} {K : Frag} : ∀ {v : Value}, cdB P K v = true → ∃ c, v = .ref c ∧ codeIn K (.ref c) "InvalidLeading.__init__" = true ∧ ∃ ccl cdd vs ccs file tf, K.lookup c = some ⟨ccl, cdd, .fields vs, ccs⟩ ∧ vs[2]? = some (.str file tf) ∧ (P.main.file == file) = true := fun {v} h => by
  cases v with
  | ref c =>
    simp only [cdB] at h
    obtain ⟨k1, k2⟩ := Bool.and_eq_true_iff.mp h
    refine ⟨c, rfl, k1, ?_⟩
    split at k2
    · rename_i ccl cdd vs ccs hcc
      split at k2
      · rename_i fl tf hv
        exact ⟨ccl, cdd, vs, ccs, fl, tf, hcc, hv, k2⟩
      · cases k2
    · cases k2
  | _ => simp [cdB] at h
theorem clB_ok {K : Frag} {cl : List (Str × Addr)} {C : Addr} (h : clB K cl C = true) : ∃ cc, (∃ y, cl = [(y, cc)]) ∧ ∃ c1 c2 c3, K.lookup cc = some ⟨c1, c2, .cell (some (.ref C)), c3⟩ := by
  unfold clB at h
  split at h
  · rename_i y cc
    split at h
    · rename_i c1 c2 x c3 hx
      have hx2 := of_decide_eq_true h
      subst hx2
      exact ⟨cc, ⟨y, rfl⟩, c1, c2, c3, hx⟩
    · cases h
  · cases h
theorem fnI_ok {P : Program} {K : Frag} {C f : Addr} (h : fnI K f = fnIval) (hb : fnB P K C f = true) : ∃ (oc : Value) (od : Option Addr) (T : Addr) (kV doc pm : Value) (an : Option Addr) (cda cc : Addr) (ct : Value) (osl : Array (Option Value)),
    K.lookup f = some ⟨oc, od, .func (ksFn "__init__" "InvalidLeading.__init__" iA0 iB0 iS (.ref T) kV doc pm an (.ref cda) ct cc), osl⟩ ∧ codeIn K (.ref cda) "InvalidLeading.__init__" = true ∧
    (∃ ot n, K.lookup T = some ot ∧ ot.data = .seq #[.none] n) ∧
    (∃ ccl cdd vs ccs file tf, K.lookup cda = some ⟨ccl, cdd, .fields vs, ccs⟩ ∧ vs[2]? = some (.str file tf) ∧ (P.main.file == file) = true) ∧
    ∃ cl cld csl, K.lookup cc = some ⟨cl, cld, .cell (some (.ref C)), csl⟩ := by
  unfold fnI fnIval at h
  unfold fnB at hb
  split at h
  · rename_i oc od fd osl ho
    rw [ho] at hb
    obtain ⟨h1, h23⟩ := Bool.and_eq_true_iff.mp hb
    obtain ⟨h2, h3⟩ := Bool.and_eq_true_iff.mp h23
    obtain ⟨nm, qn, pr, bd, sc, gl, cl, dv, kV, doc, pm, an, cd, ct, bl⟩ := fd
    simp only [Option.some.injEq, Prod.mk.injEq] at h
    obtain ⟨rfl, rfl, rfl, rfl, rfl, rfl, hcl, rfl⟩ := h
    have hd := dfB_ok h1
    have hc := cdB_ok h2
    obtain ⟨cc, ⟨y, hcl2⟩, hl⟩ := clB_ok h3
    simp only at hd hc hcl2
    subst hcl2
    simp only [List.map_cons, List.map_nil, List.cons.injEq, and_true] at hcl
    subst hcl
    obtain ⟨T, ot, n, rfl, k1, k2⟩ := hd
    obtain ⟨c, rfl, k3, k4⟩ := hc
    have k5 := hl
    exact ⟨oc, od, T, kV, doc, pm, an, c, cc, ct, osl, ho, k3, ⟨ot, n, k1, k2⟩, k4, k5⟩
  · cases h
end Yd
set_option Elab.async false
set_option linter.all false
set_option maxRecDepth 100000
set_option maxHeartbeats 4000000
/-! the facts of the head, by one Bool, and what they give -/
namespace Yd
open PySem PySem.W PySem.Calls PySem.Spec PyProof.Rows PySem.HandSPX L2
abbrev PP : Program := PySem.Challenge.pw_barsanddyes_k55_whole_road_dyes
abbrev aW (K : Frag) : Addr := He.ga K "Web"
abbrev aC (K : Frag) : Addr := He.ga K "InvalidLeading"
abbrev aI (K : Frag) : Addr := He.ma K (aC K) "__init__"
def exL (K : Frag) : List Bool := [
  fB (findIn K (.ref (aW K)) "__class__") "object.__class__",
  fB (specialIn K (.builtin "object.__class__") "__get__") "getset_descriptor.__get__",
  bT (takesIn K (.builtin "object.__class__")),
  bT (mroIn K (aW K) (.type "object")),
  (He.Fa.meth "Web" "__eq__").ok K,
  clsX K (aC K),
  fB (findIn K (.ref (aC K)) "__setattr__") "object.__setattr__",
  fB (findIn K (.ref (aC K)) "__getattribute__") "BaseException.__getattribute__",
  fN (findIn K (.ref (aC K)) "__getattr__"),
  fN (findIn K (.ref (aC K)) "value"),
  fR (findIn K (.ref (aC K)) "__init__") (aI K),
  fT (typeIn K (.ref (aI K))) "function",
  keepIn K (.ref (aC K)),
  bT (subIn K (.ref (aC K)) (.type "BaseException")),
  bT (subIn K (.ref (aC K)) (.type "ValueError")),
  bT (mroIn K (aC K) (.ref (aC K))),
  fT (typeIn K (.ref (aC K))) "type",
  hasDictIn K (aC K),
  bT (exmOne K (.ref (aC K)) (.ref (aC K))),
  fB (ks_superIn K (aC K) (aC K) "__init__") "ValueError.__init__",
  fN (nsIn K cStatics "thirdparty.any"),
  (He.Fa.free "super").ok K,
  fnB PP K (aC K) (aI K)]
def exB (K : Frag) : Bool := (exL K).all id
theorem exB_at {K : Frag} (h : exB K = true) (i : Nat) {b : Bool} (hi : (exL K)[i]? = some b) : b = true := List.all_eq_true.mp h b (List.mem_of_getElem? hi)
abbrev AlY : Type := (Bool × He.AlD) × FnI
def obsY (n : Nat) (g : Addr → Option Obj) : AlY := (obsX exB n g, fnI (He.frG g (asX g n)) (aI (He.frG g (asX g n))))
def hookY (n : Nat) : PySem.W.Hook where
  α := AlY
  obs := fun s => obsY n s.heap.get?
  val := fun _ => ((true, He.valD fn), fnIval)
  says := fun _ h => ∃ K : Frag, K.In h ∧ He.SaysD fa fn K ∧ exB K = true ∧ fnI K (aI K) = fnIval
  of := fun _ s e => ⟨He.frG s.heap.get? (asX s.heap.get? n), He.frG_in, congrArg (fun x : AlY => x.1.2) e, congrArg (fun x : AlY => x.1.1) e, congrArg (fun x : AlY => x.2) e⟩
  keeps := fun _ _ _ ⟨K, hK, c, d, e⟩ k => ⟨K, PySem.W.Frag.In.keeps hK k, c, d, e⟩
theorem obsY_eq {n : Nat} {g : Addr → Option Obj} {s : Shared} (h : ∀ a, g a = s.heap.get? a) : obsY n g = (hookY n).obs s := by
  have e : g = s.heap.get? := funext h
  rw [e] <;> rfl
section
variable {K : Frag} {mg : Str → Option Value} {h : Heap}
theorem tx_of (X : K.In h) (G : h.Ns mainGlobals mg) (c : He.SaysD fa fn K) (e : exB K = true) : Tx K mg where
  c := c
  h := ⟨h, X, G⟩
  ca := fB_ok (exB_at e 0 rfl)
  cn := fB_ok (exB_at e 1 rfl)
  ct := bT_ok (exB_at e 2 rfl)
  cm := bT_ok (exB_at e 3 rfl)
theorem txe_of (e : exB K = true) : TxE K := ⟨He.meth_ok (exB_at e 4 rfl)⟩
theorem lead_of (X : K.In h) (G : h.Ns mainGlobals mg) (c : He.SaysD fa fn K) (e : exB K = true) (f : fnI K (aI K) = fnIval) : LeadTxt PP K mg (aC K) (aI K) where
  gC := (tx_of X G c e).gloI 53
  cls := clsX_ok (exB_at e 5 rfl)
  sa := fB_ok (exB_at e 6 rfl)
  ga := fB_ok (exB_at e 7 rfl)
  gg := fN_ok (exB_at e 8 rfl)
  noN := fN_ok (exB_at e 9 rfl)
  iC := fR_ok (exB_at e 10 rfl)
  tC := fT_ok (exB_at e 11 rfl)
  kC := exB_at e 12 rfl
  exC := bT_ok (exB_at e 13 rfl)
  exV := bT_ok (exB_at e 14 rfl)
  exS := bT_ok (exB_at e 15 rfl)
  tyC := fT_ok (exB_at e 16 rfl)
  hdC := exB_at e 17 rfl
  te := bT_ok (exB_at e 18 rfl)
  su := fB_ok (exB_at e 19 rfl)
  op := fN_ok (exB_at e 20 rfl)
  gS := He.free_ok X G (exB_at e 21 rfl)
  top := by decide +kernel
  fn := fnI_ok f (exB_at e 22 rfl)
end
end Yd
set_option Elab.async false
set_option linter.all false
set_option maxRecDepth 100000
set_option maxHeartbeats 0
/-! the head: run, the end -/
namespace Yd
open PySem PySem.Spec PyProof.Rows L2
def names0 : List Str := [("_wall" : Str), ("__name__" : Str), ("LandError" : Str), ("InvalidSize" : Str), ("InvalidRoads" : Str), ("InvalidWeb" : Str), ("InvalidPlace" : Str), ("InvalidKind" : Str), ("InvalidLeading" : Str), ("LETTERS" : Str), ("is_kind" : Str), ("is_whole" : Str)]
def names1 : List Str := [("is_count" : Str), ("is_place" : Str), ("is_road" : Str), ("is_road_within" : Str), ("are_places" : Str), ("check_kind" : Str), ("check_place" : Str), ("Web" : Str), ("are_roads" : Str), ("ends_by" : Str), ("check_web" : Str), ("led" : Str)]
def names2 : List Str := [("is_leading" : Str), ("lines_of" : Str), ("web_of_lines" : Str), ("all_ahead" : Str), ("all_behind" : Str), ("closed_pairs" : Str), ("pairs" : Str), ("web_of_pairs" : Str), ("road_dyes" : Str), ("check_dyed" : Str), ("dyed_on" : Str), ("dyed_back" : Str)]
def names3 : List Str := [("_law_purse" : Str), ("_law_mixed" : Str), ("_law_draw" : Str), ("_law_purses" : Str), ("_law_one_of" : Str), ("_law_shuffled" : Str), ("_law_word" : Str), ("_law_kinds_of" : Str), ("_law_roads" : Str), ("_law_leads" : Str), ("_law_leadings" : Str), ("_law_pieces_of" : Str)]
def names4 : List Str := [("_law_thinned" : Str), ("_law_piece_led" : Str), ("_law_led" : Str), ("_law_small_web" : Str), ("_law_object" : Str), ("_law_lots" : Str), ("_law_line_web" : Str), ("_law_pairs_of" : Str), ("_law_pair_web" : Str), ("_law_is_leading" : Str), ("_law_odd_lists" : Str), ("_law_caught" : Str)]
def names5 : List Str := [("_law_way_right" : Str), ("_law_kinds_right" : Str)]
def names : List Str := names0 ++ names1 ++ names2 ++ names3 ++ names4 ++ names5
abbrev RR : PySem.W.OpenRow := PySem.W.OpenLaw.row PySem.Challenge.rw_barsanddyes_k55_whole_road_dyes
abbrev hk : PySem.W.Hook := hookY 5
def ob (s : PySem.W.SharedT) : AlY := obsY 5 (HandSHeadRun.getT s)
theorem ob_eq (s : PySem.W.SharedT) : ob s = hk.obs s.abs := obsY_eq (HandSHeadRun.getT_eq s)
theorem run (w : World) : HandSHeadRun.RunEq RR (PySem.W.view RR.prog [66]) hk ob 5000 names w := by
  intro os
  kernel_rfl
theorem facts {w : World} {K : PySem.W.Frag} {h : Heap} {mg : Str → Option Value} {f : Addr} (X : K.In h) (G : h.Ns mainGlobals mg) (hfa : mg ("law" : Str) = some (.ref f)) (c : He.SaysD fa fn K) (e : exB K = true) (ef : fnI K (aI K) = fnIval) :
    ∃ fd : FuncData, (∀ (s : Shared) (v : Value), BindsTo s fd ⟨[v], []⟩ [("_law_script", v)]) ∧ ∀ base : Heap, K.In base → base.Ns mainGlobals mg → FnOkG PP w K mg base CX0 12 f fd ["_law_script"] (spLaw K) := by
  have T := tx_of X G c e
  obtain ⟨fd, F⟩ := c.def_ 51 (d := fd0 "law" 66) rfl
  have e1 := hfa.symm.trans (T.gloI 51 (x := "law"))
  cases e1
  have b := FunD.bindsA (ps := ["_law_script"]) F fun _ _ _ _ _ _ us hl => match us, hl with | [_], _ => rfl
  refine ⟨fd, fun s v => b s [v] rfl, fun base _ _ => ?_⟩
  exact ok_law (txe_of e) (lead_of X G c e ef) T F
end Yd
set_option Elab.async false
set_option linter.all false
set_option maxRecDepth 100000
set_option maxHeartbeats 0
open PySem PySem.W PySem.Calls PyProof.Rows
theorem PySem.Challenge.cw_barsanddyes_k55_whole_road_dyes_holds : PySem.Challenge.rw_barsanddyes_k55_whole_road_dyes.Holds := by
  w_on; o_law
  refine HandSHeadRun.head_any (r := OpenLaw.row PySem.Challenge.rw_barsanddyes_k55_whole_road_dyes) (q := view (OpenLaw.row PySem.Challenge.rw_barsanddyes_k55_whole_road_dyes).prog [66]) (H := Yd.hk) (ob := Yd.ob) (M := 5000) (loose := Yd.names) (d := HandSHeadRun.topDef (OpenLaw.row PySem.Challenge.rw_barsanddyes_k55_whole_road_dyes).prog 66) (kwd := []) Yd.ob_eq
    (by kernel_rfl) (fun s => by kernel_rfl) Yd.run (by kernel_rfl) (by kernel_rfl) (by kernel_rfl) (by rfl) (by first | assumption | decide +kernel) (by decide +kernel) ⟨rfl, rfl, rfl, rfl, rfl, by decide +kernel⟩ ?hw ?hc
  case hw => w_witness2
  case hc =>
    refine Yd.walk_ofG (l := PySem.Challenge.rw_barsanddyes_k55_whole_road_dyes) (n := 63) (k := 12) (x := "_law_script") (CX := L2.CX0) rfl (by decide) (by kernel_rfl) ⟨rfl, by decide, by decide⟩ ?F (fun _ _ _ _ z => z)
    intro w mg fa h Y G hmg0
    obtain ⟨K, KX, c, e, ef⟩ := Y
    have hmg : mg ("law" : PySem.Str) = some (.ref fa) := by
      have e : (HandSHeadRun.topDef (OpenLaw.row PySem.Challenge.rw_barsanddyes_k55_whole_road_dyes).prog 66).name = ("law" : PySem.Str) := by kernel_rfl
      rw [← e]
      exact hmg0
    obtain ⟨fd, hb, hF⟩ := Yd.facts (w := w) KX G hmg c e ef
    exact ⟨K, fd, Yd.spLaw K, KX, hb, fun H a ns hl _ hS => ⟨a, ns, rfl, hS, fun _ => rfl⟩, hF⟩
