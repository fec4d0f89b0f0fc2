import PyProof.Rows.All
import Wide.All
import OpenK.AllK
import Wide.FinOn
import HandS.ForMost
import HandS.AnyAll
import HandS.GenList
import HandS.HeadWalk
import HandS.HeadHook4
import HandS.Head2
import HandS.Codes
import HandS.WrittenGet
import HandS.NoneIn
import HandS.Deep
import HandS.TupAny
import HandS.IsInst
import HandS.Conv
import HandS.SortInts
import HandS.Wide
import KE.SortData
import KE.KDictKeyed
import KE.KDictDisplayH
import KE.GoesEnum
import PySem.Challenge.RW_surelyread_k38_whole_certified_is_true
import PyProof.P3In
import KE.GoesMore
set_option Elab.async false
set_option linter.all false
set_option maxRecDepth 100000
set_option maxHeartbeats 0
/-! Fnd: how the heap may go on, described values, described slots, readings by description. -/
namespace SR
open PySem PySem.Spec PyProof.Rows L2

/-! ### how the heap goes on: all but L stays, tables of code grow, tuples and what is locked stay -/
structure Kp (L : Addr → Prop) (H H' : Hp) : Prop where
  keep : ∀ a o, H a = some o → ¬ L a → (∀ ps, o ≠ .tbl ps) → H' a = some o
  tab : ∀ P, GxR.TabG H P → GxR.TabG H' P
  there : ∀ a o, H a = some o → ∃ o', H' a = some o'
  tup : ∀ a xs, H a = some (.tup xs) → H' a = some (.tup xs)
  frz : ∀ a ob u, H a = some (.frz ob u) → H' a = some (.frz ob u)
abbrev No : Addr → Prop := fun _ => False
theorem Kp.refl (L : Addr → Prop) (H : Hp) : Kp L H H := ⟨fun _ _ h _ _ => h, fun _ h => h, fun _ o h => ⟨o, h⟩, fun _ _ h => h, fun _ _ _ h => h⟩
theorem Kp.trans {L : Addr → Prop} {H H1 H2 : Hp} (a : Kp L H H1) (b : Kp L H1 H2) : Kp L H H2 :=
  ⟨fun c o h n t => b.keep c o (a.keep c o h n t) n t, fun P h => b.tab P (a.tab P h), fun c o h => let ⟨o', h'⟩ := a.there c o h; b.there c o' h', fun c xs h => b.tup c xs (a.tup c xs h), fun c ob u h => b.frz c ob u (a.frz c ob u h)⟩
theorem Kp.new {L : Addr → Prop} {H : Hp} {p : Addr} {o : HO} (h : H p = none) : Kp L H (upd H p o) :=
  ⟨fun c u e _ _ => by rw [upd_ne (ne_of_none e h)]; exact e, fun P ⟨ps, e, t⟩ => ⟨ps, by rw [upd_ne (ne_of_none e h)]; exact e, t⟩,
    fun c u e => ⟨u, by rw [upd_ne (ne_of_none e h)]; exact e⟩, fun c u e => by rw [upd_ne (ne_of_none e h)]; exact e, fun c u v e => by rw [upd_ne (ne_of_none e h)]; exact e⟩
theorem Kp.mono {L M : Addr → Prop} {H H' : Hp} (a : Kp L H H') (h : ∀ b, L b → M b) : Kp M H H' := ⟨fun c o e n t => a.keep c o e (fun q => n (h c q)) t, a.tab, a.there, a.tup, a.frz⟩
theorem Kp.free {L : Addr → Prop} {H H' : Hp} {p : Addr} (a : Kp L H H') (h : H' p = none) : H p = none := by
  cases e : H p with
  | none => rfl
  | some o =>
    obtain ⟨o', h'⟩ := a.there p o e
    rw [h] at h'
    cases h'
/-- an object that may be written is written: it is loose, or the base does not know it -/
theorem Kp.put {L : Addr → Prop} {H H' : Hp} {p : Addr} {o : HO} (a : Kp L H H') (h : H p = none ∨ L p) (m : Mut (H' p)) : Kp L H (upd H' p o) := by
  have ne : ∀ c u, H' c = some u → ¬ Mut (some u) → c ≠ p := fun c u e nm z => by
    subst z
    rw [e] at m
    exact nm m
  refine ⟨fun c u e n q => ?_, fun P g => ?_, fun c u e => ?_, fun c xs e => ?_, fun c ob u e => ?_⟩
  · have hc : c ≠ p := fun z => by
      subst z
      rcases h with h | h
      · rw [h] at e; cases e
      · exact n h
    rw [upd_ne hc]
    exact a.keep c u e n q
  · obtain ⟨ps, e, tr⟩ := a.tab P g
    exact ⟨ps, by rw [upd_ne (ne _ _ e (fun z => z))]; exact e, tr⟩
  · by_cases hc : c = p
    · subst hc
      exact ⟨o, upd_same⟩
    · rw [upd_ne hc]
      exact a.there c u e
  · have e' := a.tup c xs e
    rw [upd_ne (ne _ _ e' (fun z => z))]
    exact e'
  · have e' := a.frz c ob u e
    rw [upd_ne (ne _ _ e' (fun z => z))]
    exact e'
theorem Kp.lst {L : Addr → Prop} {H H' : Hp} {a : Addr} {xs : List V} (k : Kp L H H') (n : ¬ L a) (h : H a = some (.lst xs)) : H' a = some (.lst xs) := k.keep a _ h n (fun _ z => by cases z)
theorem kp_rdT {L : Addr → Prop} {H H' : Hp} {a : Addr} {xs : List V} (k : Kp L H H') (h : Rd H a (.tup xs)) : Rd H' a (.tup xs) := by
  rcases h with h | ⟨o, h⟩
  · exact .inl (k.tup a _ h)
  · exact .inr ⟨o, k.frz a _ _ h⟩
theorem kp_sqT {L : Addr → Prop} {K : PySem.W.Frag} {H H' : Hp} {a : Addr} {xs : List V} (k : Kp L H H') (h : SqT K H a xs) : SqT K H' a xs := by
  rcases h with h | h
  · exact .inl (kp_rdT k h)
  · exact .inr h
theorem kp_sqL {L : Addr → Prop} {K : PySem.W.Frag} {H H' : Hp} {a : Addr} {xs : List V} (k : Kp L H H') (n : ¬ L a) (h : SqL K H a xs) : SqL K H' a xs := by
  rcases h with (h | ⟨o, h⟩) | h
  · exact .inl (.inl (k.lst n h))
  · exact .inl (.inr ⟨o, k.frz a _ _ h⟩)
  · exact .inr h
/-- what the base does not know may have changed -/
theorem Kp.hide {L M : Addr → Prop} {H H1 H2 : Hp} (a : Kp L H H1) (b : Kp M H1 H2) (h : ∀ c, M c → H c = none ∨ L c) : Kp L H H2 :=
  ⟨fun c u e n q => b.keep c u (a.keep c u e n q) (fun z => (h c z).elim (fun z => by rw [z] at e; cases e) n) q, fun P h => b.tab P (a.tab P h), fun c o h => let ⟨o', h'⟩ := a.there c o h; b.there c o' h', fun c xs h => b.tup c xs (a.tup c xs h), fun c ob u h => b.frz c ob u (a.frz c ob u h)⟩

/-! ### a world of description: K, the loose addresses, the step -/
structure Wd where
  K : PySem.W.Frag
  L : Addr → Prop
  W : Hp → Hp → Prop
structure Wd.Ok (C : Wd) : Prop where
  refl : ∀ H, C.W H H
  trans : ∀ {H H1 H2}, C.W H H1 → C.W H1 H2 → C.W H H2
  kp : ∀ {H H'}, C.W H H' → Kp C.L H H'
  of0 : ∀ {H H'}, Kp No H H' → C.W H H'
section
variable {C : Wd} (o : C.Ok) {H H' : Hp} {a : Addr} {xs : List V}
include o
theorem Wd.Ok.new {p : Addr} {u : HO} (h : H p = none) : C.W H (upd H p u) := o.of0 (Kp.new h)
theorem Wd.Ok.sqT (w : C.W H H') (h : SqT C.K H a xs) : SqT C.K H' a xs := kp_sqT (o.kp w) h
theorem Wd.Ok.lst (w : C.W H H') (n : ¬ C.L a) (h : H a = some (.lst xs)) : H' a = some (.lst xs) := (o.kp w).lst n h
theorem Wd.Ok.free {p : Addr} (w : C.W H H') (h : H' p = none) : H p = none := (o.kp w).free h
end
/-- the world in which M is written -/
abbrev Wv (K : PySem.W.Frag) (L M : Addr → Prop) : Wd := ⟨K, L, Kp M⟩
theorem wv (K : PySem.W.Frag) {L M : Addr → Prop} (h : ∀ a, M a → L a) : (Wv K L M).Ok := ⟨Kp.refl M, Kp.trans, fun k => k.mono h, fun k => k.mono fun _ z => z.elim⟩
/-- the plain world: nothing is written -/
abbrev W0 (K : PySem.W.Frag) (L : Addr → Prop) : Wd := Wv K L No
theorem w0 (K : PySem.W.Frag) (L : Addr → Prop) : (W0 K L).Ok := wv K fun _ z => z.elim

/-! ### described values -/
mutual
inductive DT (K : PySem.W.Frag) (L : Addr → Prop) (H : Hp) : V → PyData → Prop
  | non : DT K L H .non .none
  | bl (b : Bool) : DT K L H (.bl b) (.bool b)
  | int (i : Int) : DT K L H (.int i) (.int i)
  | str (x : Str) : DT K L H (.str x) (.str x)
  | lst {a : Addr} {xs : List V} {ds : List PyData} : ¬ L a → H a = some (.lst xs) → DTs K L H xs ds → DT K L H (.ref a) (.list ds)
  | tup {a : Addr} {xs : List V} {ds : List PyData} : H a = some (.tup xs) → DTs K L H xs ds → DT K L H (.ref a) (.tuple ds)
inductive DTs (K : PySem.W.Frag) (L : Addr → Prop) (H : Hp) : List V → List PyData → Prop
  | nil : DTs K L H [] []
  | cons {v : V} {vs : List V} {d : PyData} {ds : List PyData} : DT K L H v d → DTs K L H vs ds → DTs K L H (v :: vs) (d :: ds)
end
abbrev Dw (C : Wd) (H : Hp) : V → PyData → Prop := DT C.K C.L H
abbrev Dws (C : Wd) (H : Hp) : List V → List PyData → Prop := DTs C.K C.L H
mutual
theorem DT.mono {C : Wd} (o : C.Ok) {H H' : Hp} (w : C.W H H') : ∀ {d : PyData} {v : V}, Dw C H v d → Dw C H' v d
  | .none, _, h => by cases h; exact .non
  | .bool _, _, h => by cases h; exact .bl _
  | .int _, _, h => by cases h; exact .int _
  | .str _, _, h => by cases h; exact .str _
  | .list _, _, h => by cases h with | lst n e r => exact .lst n (o.lst w n e) (DTs.mono o w r)
  | .tuple _, _, h => by cases h with | tup e r => exact .tup ((o.kp w).tup _ _ e) (DTs.mono o w r)
  | .dict _, _, h => by cases h
theorem DTs.mono {C : Wd} (o : C.Ok) {H H' : Hp} (w : C.W H H') : ∀ {ds : List PyData} {vs : List V}, Dws C H vs ds → Dws C H' vs ds
  | [], _, h => by cases h; exact .nil
  | _ :: _, _, h => by cases h with | cons a b => exact .cons (DT.mono o w a) (DTs.mono o w b)
end
mutual
theorem DT.dp {K : PySem.W.Frag} {L : Addr → Prop} {H : Hp} : ∀ {d : PyData} {v : V}, DT K L H v d → Dp K H v d
  | .none, _, h => by cases h; exact .non
  | .bool _, _, h => by cases h; exact .bl _
  | .int _, _, h => by cases h; exact .int _
  | .str _, _, h => by cases h; exact .str _
  | .list _, _, h => by cases h with | lst n e r => exact .lst (SqL.of e) (DTs.dp r)
  | .tuple _, _, h => by cases h with | tup e r => exact .tup (SqT.of e) (DTs.dp r)
  | .dict _, _, h => by cases h
theorem DTs.dp {K : PySem.W.Frag} {L : Addr → Prop} {H : Hp} : ∀ {ds : List PyData} {vs : List V}, DTs K L H vs ds → DpAll K H vs ds
  | [], _, h => by cases h; exact .nil
  | _ :: _, _, h => by cases h with | cons a b => exact .cons (DT.dp a) (DTs.dp b)
end
mutual
/-- fewer loose addresses -/
theorem DT.less {K : PySem.W.Frag} {L M : Addr → Prop} {H : Hp} (s : ∀ a, M a → L a) : ∀ {d : PyData} {v : V}, DT K L H v d → DT K M H v d
  | .none, _, h => by cases h; exact .non
  | .bool _, _, h => by cases h; exact .bl _
  | .int _, _, h => by cases h; exact .int _
  | .str _, _, h => by cases h; exact .str _
  | .list _, _, h => by cases h with | lst n e r => exact .lst (fun z => n (s _ z)) e (DTs.less s r)
  | .tuple _, _, h => by cases h with | tup e r => exact .tup e (DTs.less s r)
  | .dict _, _, h => by cases h
theorem DTs.less {K : PySem.W.Frag} {L M : Addr → Prop} {H : Hp} (s : ∀ a, M a → L a) : ∀ {ds : List PyData} {vs : List V}, DTs K L H vs ds → DTs K M H vs ds
  | [], _, h => by cases h; exact .nil
  | _ :: _, _, h => by cases h with | cons a b => exact .cons (DT.less s a) (DTs.less s b)
end
mutual
/-- more loose addresses, which the heap does not know yet -/
theorem DT.more {K : PySem.W.Frag} {L M : Addr → Prop} {H : Hp} (s : ∀ a, M a → L a ∨ H a = none) : ∀ {d : PyData} {v : V}, DT K L H v d → DT K M H v d
  | .none, _, h => by cases h; exact .non
  | .bool _, _, h => by cases h; exact .bl _
  | .int _, _, h => by cases h; exact .int _
  | .str _, _, h => by cases h; exact .str _
  | .list _, _, h => by cases h with | lst n e r => exact .lst (fun z => (s _ z).elim n fun q => by rw [q] at e; cases e) e (DTs.more s r)
  | .tuple _, _, h => by cases h with | tup e r => exact .tup e (DTs.more s r)
  | .dict _, _, h => by cases h
theorem DTs.more {K : PySem.W.Frag} {L M : Addr → Prop} {H : Hp} (s : ∀ a, M a → L a ∨ H a = none) : ∀ {ds : List PyData} {vs : List V}, DTs K L H vs ds → DTs K M H vs ds
  | [], _, h => by cases h; exact .nil
  | _ :: _, _, h => by cases h with | cons a b => exact .cons (DT.more s a) (DTs.more s b)
end
section
variable {K : PySem.W.Frag} {L : Addr → Prop} {H : Hp} {v : V} {xs : List V} {ds : List PyData} {d : PyData}
theorem DTs.length : ∀ {ds : List PyData} {xs : List V}, DTs K L H xs ds → xs.length = ds.length
  | [], _, h => by cases h; rfl
  | _ :: _, _, h => by cases h with | cons a b => exact congrArg (· + 1) (DTs.length b)
theorem DTs.get : ∀ {ds : List PyData} {xs : List V} {i : Nat} {d : PyData}, DTs K L H xs ds → ds[i]? = some d → ∃ x, xs[i]? = some x ∧ DT K L H x d
  | [], _, _, _, _, e => by simp at e
  | d :: ds, _, 0, _, h, e => by
    cases h with
    | cons a b =>
      have e' : d = _ := Option.some.inj e
      subst e'
      exact ⟨_, rfl, a⟩
  | _ :: ds, _, i + 1, d, h, e => by
    cases h with
    | cons a b => exact DTs.get (i := i) b (by simpa using e)
theorem DTs.get' : ∀ {ds : List PyData} {xs : List V} {i : Nat} {x : V}, DTs K L H xs ds → xs[i]? = some x → ∃ d, ds[i]? = some d ∧ DT K L H x d
  | [], _, _, _, h, e => by cases h; simp at e
  | d :: ds, _, 0, _, h, e => by
    cases h with
    | cons a b =>
      have e' : _ = _ := Option.some.inj e
      subst e'
      exact ⟨_, rfl, a⟩
  | _ :: ds, _, i + 1, x, h, e => by
    cases h with
    | cons a b => exact DTs.get' (i := i) b (by simpa using e)
theorem DTs.append : ∀ {ds es : List PyData} {xs ys : List V}, DTs K L H xs ds → DTs K L H ys es → DTs K L H (xs ++ ys) (ds ++ es)
  | [], _, _, _, h, g => by cases h; exact g
  | _ :: _, _, _, _, h, g => by cases h with | cons a b => exact .cons a (DTs.append b g)
theorem DTs.take : ∀ (n : Nat) {ds : List PyData} {xs : List V}, DTs K L H xs ds → DTs K L H (xs.take n) (ds.take n)
  | 0, _, _, _ => .nil
  | n + 1, [], _, h => by cases h; exact .nil
  | n + 1, _ :: _, _, h => by cases h with | cons a b => exact .cons a (DTs.take n b)
theorem DTs.drop : ∀ (n : Nat) {ds : List PyData} {xs : List V}, DTs K L H xs ds → DTs K L H (xs.drop n) (ds.drop n)
  | 0, _, _, h => h
  | n + 1, [], _, h => by cases h; exact .nil
  | n + 1, _ :: _, _, h => by cases h with | cons a b => exact DTs.drop n b
theorem DT.tupX (h : DT K L H v (.tuple ds)) : ∃ a xs, v = .ref a ∧ H a = some (.tup xs) ∧ DTs K L H xs ds := by
  cases h with | tup e r => exact ⟨_, _, rfl, e, r⟩
theorem DT.tupI (h : DT K L H v (.tuple ds)) : ∃ a xs, v = .ref a ∧ SqT K H a xs ∧ DTs K L H xs ds := by
  cases h with | tup e r => exact ⟨_, _, rfl, SqT.of e, r⟩
theorem DT.lstI (h : DT K L H v (.list ds)) : ∃ a xs, v = .ref a ∧ ¬ L a ∧ H a = some (.lst xs) ∧ DTs K L H xs ds := by
  cases h with | lst n e r => exact ⟨_, _, rfl, n, e, r⟩
theorem DT.intI {i : Int} (h : DT K L H v (.int i)) : v = .int i := by cases h; rfl
theorem DT.blI {b : Bool} (h : DT K L H v (.bool b)) : v = .bl b := by cases h; rfl
theorem DT.strI {x : Str} (h : DT K L H v (.str x)) : v = .str x := by cases h; rfl
theorem DT.nonI (h : DT K L H v .none) : v = .non := by cases h; rfl
theorem DT.inj : ∀ {d e : PyData} {v : V}, (∀ b, d ≠ .dict b) → v = v → DT K L H v d → DT K L H v e → True := fun _ _ _ _ => trivial
theorem DTs.ints {ns : List Int} : DTs K L H (ns.map V.int) (ns.map PyData.int) := by
  induction ns with
  | nil => exact .nil
  | cons n r ih => exact .cons (.int n) ih
theorem DTs.intsI : ∀ {ns : List Int} {xs : List V}, DTs K L H xs (ns.map PyData.int) → xs = ns.map V.int
  | [], _, h => by cases h; rfl
  | n :: r, _, h => by
    cases h with
    | cons a b =>
      rw [DT.intI a, DTs.intsI b]
      rfl
end

/-! ### described slots -/
inductive Ds where
  | un
  | da (d : PyData)
  | va (v : V)
def Ds.at (C : Wd) (H : Hp) (o : Option V) : Ds → Prop
  | .un => True
  | .da d => ∃ v, o = some v ∧ Dw C H v d
  | .va v => o = some v
inductive Sl (C : Wd) (H : Hp) : L2.St → List Ds → Prop
  | nil : Sl C H [] []
  | cons {o : Option V} {σ : L2.St} {s : Ds} {ρ : List Ds} : s.at C H o → Sl C H σ ρ → Sl C H (o :: σ) (s :: ρ)
section
variable {C : Wd} {H H' : Hp} {σ : L2.St} {ρ : List Ds} {i : Nat} {v : V} {d : PyData}
theorem Ds.at.mono (o : C.Ok) (w : C.W H H') {x : Option V} : ∀ {s : Ds}, s.at C H x → s.at C H' x
  | .un, _ => trivial
  | .da _, ⟨v, e, h⟩ => ⟨v, e, DT.mono o w h⟩
  | .va _, h => h
theorem Sl.mono (o : C.Ok) (w : C.W H H') : ∀ {σ : L2.St} {ρ : List Ds}, Sl C H σ ρ → Sl C H' σ ρ
  | _, _, .nil => .nil
  | _, _, .cons a b => .cons (a.mono o w) (Sl.mono o w b)
theorem Sl.get : ∀ {σ : L2.St} {ρ : List Ds} {i : Nat} {s : Ds}, Sl C H σ ρ → ρ[i]? = some s → ∃ o, σ[i]? = some o ∧ s.at C H o
  | _, _, _, _, .nil, e => by simp at e
  | _, _, 0, _, .cons a b, e => by
    have e' : _ = _ := Option.some.inj e
    subst e'
    exact ⟨_, rfl, a⟩
  | _, _, i + 1, _, .cons a b, e => Sl.get (i := i) b (by simpa using e)
theorem Sl.da (S : Sl C H σ ρ) (e : ρ[i]? = some (.da d)) : ∃ v, σ[i]? = some (some v) ∧ Dw C H v d := by
  obtain ⟨o, h1, v, rfl, h2⟩ := S.get e
  exact ⟨v, h1, h2⟩
theorem Sl.va (S : Sl C H σ ρ) (e : ρ[i]? = some (.va v)) : σ[i]? = some (some v) := by
  obtain ⟨o, h1, rfl⟩ := S.get e
  exact h1
theorem Sl.put : ∀ {σ : L2.St} {ρ : List Ds} {i : Nat} {o : Option V} {s : Ds}, Sl C H σ ρ → s.at C H o → Sl C H (σ.set i o) (ρ.set i s)
  | _, _, _, _, _, .nil, _ => .nil
  | _, _, 0, _, _, .cons _ b, h => .cons h b
  | _, _, i + 1, _, _, .cons a b, h => .cons a (Sl.put (i := i) b h)
theorem Sl.putD (S : Sl C H σ ρ) (h : Dw C H v d) : Sl C H (σ.set i (some v)) (ρ.set i (.da d)) := S.put ⟨v, rfl, h⟩
theorem Sl.putV (S : Sl C H σ ρ) : Sl C H (σ.set i (some v)) (ρ.set i (.va v)) := S.put (s := .va v) rfl
theorem Sl.un (S : Sl C H σ ρ) (i : Nat) : Sl C H σ (ρ.set i .un) := by
  induction S generalizing i with
  | nil => exact .nil
  | cons a b ih =>
    cases i with
    | zero => exact .cons trivial b
    | succ i => exact .cons a (ih i)
theorem Ds.at.to {C' : Wd} (h : ∀ v d, Dw C H v d → Dw C' H' v d) {x : Option V} : ∀ {s : Ds}, s.at C H x → s.at C' H' x
  | .un, _ => trivial
  | .da _, ⟨v, e, r⟩ => ⟨v, e, h _ _ r⟩
  | .va v, e => e
theorem Sl.to {C' : Wd} (h : ∀ v d, Dw C H v d → Dw C' H' v d) : ∀ {σ : L2.St} {ρ : List Ds}, Sl C H σ ρ → Sl C' H' σ ρ
  | _, _, .nil => .nil
  | _, _, .cons a b => .cons (a.to h) (Sl.to h b)
/-- a block's own names forgotten -/
def wipeD (ρ : List Ds) : List Nat → List Ds
  | [] => ρ
  | v :: vs => (wipeD ρ vs).set v .un
theorem Sl.wipe (S : Sl C H σ ρ) : ∀ vs : List Nat, Sl C H (L2.wipe σ vs) (wipeD ρ vs)
  | [] => S
  | v :: vs => (S.wipe vs).put (s := .un) trivial
theorem Sl.ofD : ∀ {vs : List V} {ds : List PyData} (n : Nat), Dws C H vs ds → Sl C H (vs.map some ++ List.replicate n none) (ds.map Ds.da ++ List.replicate n Ds.un)
  | _, _, 0, .nil => .nil
  | _, _, n + 1, .nil => .cons trivial (Sl.ofD n .nil)
  | _, _, n, .cons a b => .cons ⟨_, rfl, a⟩ (Sl.ofD n b)
end

def isND : PyData → Bool
  | .none => true
  | _ => false
/-! ### what evaluates to what -/
section
variable {C : Wd} {H H1 : Hp} {σ : L2.St} {te ta tb tc : TE} {tt tu : TT} {tx : TA} {d e f : PyData} {v : V}
def EvP (C : Wd) (te : TE) (σ : L2.St) (H : Hp) (P : V → Hp → Prop) : Prop := ∀ H1, C.W H H1 → ∀ Q : VK, (∀ v H2, C.W H1 H2 → P v H2 → Q v H2) → te σ H1 Q
def EtP (C : Wd) (tt : TT) (σ : L2.St) (H : Hp) (P : Bool → Prop) : Prop := ∀ H1, C.W H H1 → ∀ Q : Bool → Hp → Prop, (∀ b H2, C.W H1 H2 → P b → Q b H2) → tt σ H1 Q
def EaP (C : Wd) (ta : TA) (σ : L2.St) (H : Hp) (P : List V → Hp → Prop) : Prop := ∀ H1, C.W H H1 → ∀ Q : List V → Hp → Prop, (∀ vs H2, C.W H1 H2 → P vs H2 → Q vs H2) → ta σ H1 Q
/-- a described value comes -/
abbrev Ed (C : Wd) (te : TE) (σ : L2.St) (H : Hp) (d : PyData) : Prop := EvP C te σ H fun v H' => Dw C H' v d
abbrev Ea (C : Wd) (ta : TA) (σ : L2.St) (H : Hp) (ds : List PyData) : Prop := EaP C ta σ H fun vs H' => Dws C H' vs ds
abbrev Et (C : Wd) (tt : TT) (σ : L2.St) (H : Hp) (b : Bool) : Prop := EtP C tt σ H fun c => c = b
abbrev Ee (C : Wd) (te : TE) (σ : L2.St) (H : Hp) (v : V) : Prop := EvP C te σ H fun u _ => u = v
theorem EvP.mono (o : C.Ok) {P : V → Hp → Prop} (h : EvP C te σ H P) (w : C.W H H1) : EvP C te σ H1 P := fun H2 w2 Q q => h H2 (o.trans w w2) Q q
theorem EvP.imp {P P' : V → Hp → Prop} (h : EvP C te σ H P) (i : ∀ v H', C.W H H' → P v H' → P' v H') (o : C.Ok) : EvP C te σ H P' := fun H2 w2 Q q => h H2 w2 Q fun v H3 w3 p => q v H3 w3 (i v H3 (o.trans w2 w3) p)
theorem EtP.mono (o : C.Ok) {P : Bool → Prop} (h : EtP C tt σ H P) (w : C.W H H1) : EtP C tt σ H1 P := fun H2 w2 Q q => h H2 (o.trans w w2) Q q
theorem EaP.mono (o : C.Ok) {P : List V → Hp → Prop} (h : EaP C tx σ H P) (w : C.W H H1) : EaP C tx σ H1 P := fun H2 w2 Q q => h H2 (o.trans w w2) Q q

variable (o : C.Ok)
include o
theorem e_var {ρ : List Ds} {i : Nat} (S : Sl C H σ ρ) (h : ρ[i]? = some (.da d)) : Ed C (tVar i) σ H d := fun H1 w Q q => by
  obtain ⟨v, e, r⟩ := S.da h
  exact ⟨v, e, q v H1 (o.refl _) (DT.mono o w r)⟩
theorem e_val {ρ : List Ds} {i : Nat} (S : Sl C H σ ρ) (h : ρ[i]? = some (.va v)) : Ee C (tVar i) σ H v := fun H1 w Q q => ⟨v, S.va h, q v H1 (o.refl _) rfl⟩
theorem e_int {i : Int} : Ed C (tC (.int i)) σ H (.int i) := fun H1 _ Q q => q _ H1 (o.refl _) (.int i)
theorem e_str {x : Str} : Ed C (tC (.str x)) σ H (.str x) := fun H1 _ Q q => q _ H1 (o.refl _) (.str x)
theorem e_bl {b : Bool} : Ed C (tC (.bl b)) σ H (.bool b) := fun H1 _ Q q => q _ H1 (o.refl _) (.bl b)
theorem e_non : Ed C (tC .non) σ H .none := fun H1 _ Q q => q _ H1 (o.refl _) .non
theorem a_nil : Ea C tNil σ H [] := fun H1 _ Q q => q _ H1 (o.refl _) .nil
theorem a_cons {ds : List PyData} (h : Ed C te σ H d) (r : Ea C tx σ H ds) : Ea C (tCons te tx) σ H (d :: ds) := fun H1 w Q q =>
  h H1 w _ fun v H2 w2 p => r H2 (o.trans w w2) _ fun vs H3 w3 ps => q _ H3 (o.trans w2 w3) (.cons (DT.mono o w3 p) ps)
theorem e_op {r : R2} (ha : Ed C ta σ H d) (hb : Ed C tb σ H e) (hr : ∀ x y H1, C.W H H1 → Dw C H1 x d → Dw C H1 y e → ∀ Q : VK, (∀ v H2, C.W H1 H2 → Dw C H2 v f → Q v H2) → r x y H1 Q) : Ed C (tOp r ta tb) σ H f := fun H1 w Q q =>
  ha H1 w _ fun x H2 w2 p => hb H2 (o.trans w w2) _ fun y H3 w3 p' => hr x y H3 (o.trans (o.trans w w2) w3) (DT.mono o w3 p) p' Q fun v H4 w4 p4 => q v H4 (o.trans (o.trans w2 w3) w4) p4
theorem e_tup {ds : List PyData} (h : Ea C tx σ H ds) (hl : Nat.ble ds.length 1000 = true := by rfl) : Ed C (tTup tx) σ H (.tuple ds) := fun H1 w Q q =>
  h H1 w _ fun vs H2 w2 p => ⟨by rw [p.length]; exact Nat.le_trans (Nat.le_of_ble_eq_true hl) (by decide), fun a ha => q _ _ (o.trans w2 (o.new ha)) (.tup upd_same (DTs.mono o (o.new ha) p))⟩
theorem e_lst {ds : List PyData} (hL : ∀ a, C.L a → H a ≠ none) (h : Ea C tx σ H ds) (hl : Nat.ble ds.length 1000 = true := by rfl) : Ed C (tLst tx) σ H (.list ds) := fun H1 w Q q =>
  h H1 w _ fun vs H2 w2 p => ⟨by rw [p.length]; exact Nat.le_trans (Nat.le_of_ble_eq_true hl) (by decide), fun a ha => q _ _ (o.trans w2 (o.new ha)) (.lst (fun z => hL a z (o.free (o.trans w w2) ha)) upd_same (DTs.mono o (o.new ha) p))⟩
theorem e_add {i j : Int} (ha : Ed C ta σ H (.int i)) (hb : Ed C tb σ H (.int j)) : Ed C (tOp (rI0 fun i j => .int (i + j)) ta tb) σ H (.int (i + j)) :=
  e_op o ha hb fun x y H1 _ p p' Q q => ⟨i, j, p.intI, p'.intI, q _ H1 (o.refl _) (.int _)⟩
theorem e_sub {i j : Int} (ha : Ed C ta σ H (.int i)) (hb : Ed C tb σ H (.int j)) : Ed C (tOp (rI0 fun i j => .int (i - j)) ta tb) σ H (.int (i - j)) :=
  e_op o ha hb fun x y H1 _ p p' Q q => ⟨i, j, p.intI, p'.intI, q _ H1 (o.refl _) (.int _)⟩
theorem e_mul {i j : Int} (ha : Ed C ta σ H (.int i)) (hb : Ed C tb σ H (.int j)) (hc : CMul i j) : Ed C (tOp (rI CMul fun i j => .int (i * j)) ta tb) σ H (.int (i * j)) :=
  e_op o ha hb fun x y H1 _ p p' Q q => ⟨i, j, p.intI, p'.intI, hc, q _ H1 (o.refl _) (.int _)⟩
theorem e_mod {i j : Int} (ha : Ed C ta σ H (.int i)) (hb : Ed C tb σ H (.int j)) (hc : 0 < j) : Ed C (tOp (rI (fun _ j => 0 < j) fun i j => .int (i % j)) ta tb) σ H (.int (i % j)) :=
  e_op o ha hb fun x y H1 _ p p' Q q => ⟨i, j, p.intI, p'.intI, hc, q _ H1 (o.refl _) (.int _)⟩
theorem e_fdiv {i j : Int} (ha : Ed C ta σ H (.int i)) (hb : Ed C tb σ H (.int j)) (hc : CDiv i j) : Ed C (tOp (rI CDiv fun i j => .int (i / j)) ta tb) σ H (.int (i / j)) :=
  e_op o ha hb fun x y H1 _ p p' Q q => ⟨i, j, p.intI, p'.intI, hc, q _ H1 (o.refl _) (.int _)⟩
theorem e_cmp {P : Int → Int → Bool} {i j : Int} (ha : Ed C ta σ H (.int i)) (hb : Ed C tb σ H (.int j)) : Ed C (tOp (rI0 fun i j => .bl (P i j)) ta tb) σ H (.bool (P i j)) :=
  e_op o ha hb fun x y H1 _ p p' Q q => ⟨i, j, p.intI, p'.intI, q _ H1 (o.refl _) (.bl _)⟩
/-- == and != -/
def rQ (K : PySem.W.Frag) : R2 := fun x y H Q => rEq x y H Q ∨ rEqD K x y H Q
def rNQ (K : PySem.W.Frag) : R2 := fun x y H Q => rNe x y H Q ∨ rNeD K x y H Q
omit o in
theorem op_Q {X : Cx} (hu : X.A.units + 64 < cLine) : OpR X (compareOp .Eq) (rQ X.K) := op_eq.or (op_eqD hu)
omit o in
theorem op_NQ {X : Cx} (hu : X.A.units + 64 < cLine) : OpR X (compareOp .NotEq) (rNQ X.K) := op_ne.or (op_neD hu)
theorem e_eqI {i j : Int} (ha : Ed C ta σ H (.int i)) (hb : Ed C tb σ H (.int j)) : Ed C (tOp (rQ C.K) ta tb) σ H (.bool (decide (i = j))) :=
  e_op o ha hb fun x y H1 _ p p' Q q => .inl ⟨by rw [p.intI, p'.intI]; rfl, by rw [p.intI, p'.intI, dec_int, Bool.beq_eq_decide_eq]; exact q _ H1 (o.refl _) (.bl _)⟩
theorem e_neI {i j : Int} (ha : Ed C ta σ H (.int i)) (hb : Ed C tb σ H (.int j)) : Ed C (tOp (rNQ C.K) ta tb) σ H (.bool (!decide (i = j))) :=
  e_op o ha hb fun x y H1 _ p p' Q q => .inl ⟨by rw [p.intI, p'.intI]; rfl, by rw [p.intI, p'.intI, dec_int, Bool.beq_eq_decide_eq]; exact q _ H1 (o.refl _) (.bl _)⟩
theorem e_eqS {i j : Str} (ha : Ed C ta σ H (.str i)) (hb : Ed C tb σ H (.str j)) : Ed C (tOp (rQ C.K) ta tb) σ H (.bool (decide (i = j))) :=
  e_op o ha hb fun x y H1 _ p p' Q q => .inl ⟨by rw [p.strI, p'.strI]; rfl, by rw [p.strI, p'.strI, show decide (V.str i = V.str j) = decide (i = j) by simp]; exact q _ H1 (o.refl _) (.bl _)⟩
theorem e_eqB {i j : Bool} (ha : Ed C ta σ H (.bool i)) (hb : Ed C tb σ H (.bool j)) : Ed C (tOp (rQ C.K) ta tb) σ H (.bool (i == j)) :=
  e_op o ha hb fun x y H1 _ p p' Q q => .inl ⟨by rw [p.blI, p'.blI]; rfl, by rw [p.blI, p'.blI, dec_bl]; exact q _ H1 (o.refl _) (.bl _)⟩
theorem e_neB {i j : Bool} (ha : Ed C ta σ H (.bool i)) (hb : Ed C tb σ H (.bool j)) : Ed C (tOp (rNQ C.K) ta tb) σ H (.bool (i != j)) :=
  e_op o ha hb fun x y H1 _ p p' Q q => .inl ⟨by rw [p.blI, p'.blI]; rfl, by rw [p.blI, p'.blI, dec_bl]; exact q _ H1 (o.refl _) (.bl _)⟩
theorem e_eqD (hd : SeqAt.shaped d = true) (he : SeqAt.shaped e = true) (ha : Ed C ta σ H d) (hb : Ed C tb σ H e) : Ed C (tOp (rQ C.K) ta tb) σ H (.bool (PyData.eqv d e)) :=
  e_op o ha hb fun x y H1 _ p p' Q q => .inr ⟨d, e, p.dp, p'.dp, hd, he, q _ H1 (o.refl _) (.bl _)⟩
theorem e_neD (hd : SeqAt.shaped d = true) (he : SeqAt.shaped e = true) (ha : Ed C ta σ H d) (hb : Ed C tb σ H e) : Ed C (tOp (rNQ C.K) ta tb) σ H (.bool (!PyData.eqv d e)) :=
  e_op o ha hb fun x y H1 _ p p' Q q => .inr ⟨d, e, p.dp, p'.dp, hd, he, q _ H1 (o.refl _) (.bl _)⟩
/-- items -/
theorem e_ixT {ds : List PyData} {i : Nat} (ha : Ed C ta σ H (.tuple ds)) (hb : Ed C tb σ H (.int (i : Int))) (h : ds[i]? = some d) : Ed C (tOp (rIx C.K) ta tb) σ H d :=
  e_op o ha hb fun x y H1 _ p p' Q q => by
    obtain ⟨a, xs, rfl, hs, r⟩ := p.tupI
    obtain ⟨x, hx, rx⟩ := r.get h
    exact .inr (.inl ⟨a, xs, _, x, rfl, p'.intI, hs, atI_nat hx, q _ H1 (o.refl _) rx⟩)
theorem e_ixL {ds : List PyData} {i : Nat} (ha : Ed C ta σ H (.list ds)) (hb : Ed C tb σ H (.int (i : Int))) (h : ds[i]? = some d) : Ed C (tOp (rIx C.K) ta tb) σ H d :=
  e_op o ha hb fun x y H1 _ p p' Q q => by
    obtain ⟨a, xs, rfl, _, hs, r⟩ := p.lstI
    obtain ⟨x, hx, rx⟩ := r.get h
    exact .inl ⟨a, xs, _, x, rfl, p'.intI, SqL.of hs, atI_nat hx, q _ H1 (o.refl _) rx⟩
theorem e_ixS {z : Str} {i : Nat} {c : Nat} (ha : Ed C ta σ H (.str z)) (hb : Ed C tb σ H (.int (i : Int))) (h : z.cps.toList[i]? = some c) (hz : z.length ≤ 1000) : Ed C (tOp (rIx C.K) ta tb) σ H (.str ⟨#[c]⟩) :=
  e_op o ha hb fun x y H1 _ p p' Q q => .inr (.inr ⟨z, _, c, p.strI, p'.intI, Nat.le_trans hz (by decide), atI_nat h, q _ H1 (o.refl _) (.str _)⟩)
/-- is None -/
theorem e_isN (ha : Ed C ta σ H d) : Ed C (tOp (fun x y H Q => y = .non ∧ Q (.bl (decide (x = .non))) H) ta (tC .non)) σ H (.bool (isND d)) := fun H1 w Q q =>
  ha H1 w _ fun x H2 w2 p => ⟨rfl, q _ H2 w2 (by
    cases p <;> first
      | exact .bl _
      | (rw [decide_eq_false (by intro z; cases z)]; exact .bl _)
      | (rw [decide_eq_true rfl]; exact .bl _))⟩
theorem e_notN (ha : Ed C ta σ H d) : Ed C (tOp (fun x y H Q => y = .non ∧ Q (.bl (!decide (x = .non))) H) ta (tC .non)) σ H (.bool (!isND d)) := fun H1 w Q q =>
  ha H1 w _ fun x H2 w2 p => ⟨rfl, q _ H2 w2 (by
    cases p <;> first
      | exact .bl _
      | (rw [decide_eq_false (by intro z; cases z)]; exact .bl _)
      | (rw [decide_eq_true rfl]; exact .bl _))⟩
/-- tests -/
theorem t_test {b : Bool} (h : Ed C te σ H (.bool b)) : Et C (tTest te) σ H b := fun H1 w Q q => h H1 w _ fun x H2 w2 p => ⟨b, p.blI, q b H2 w2 rfl⟩
theorem t_B {b : Bool} (h : Ed C te σ H (.bool b)) : Et C (tB te) σ H b := fun H1 w Q q => h H1 w _ fun x H2 w2 p => ⟨b, p.blI, q b H2 w2 rfl⟩
theorem t_and {a b : Bool} (h1 : Et C tt σ H a) (h2 : a = true → Et C tu σ H b) : Et C (tAnd tt tu) σ H (a && b) := fun H1 w Q q => h1 H1 w _ fun c H2 w2 e => by
  subst e
  cases c with
  | true => exact h2 rfl H2 (o.trans w w2) Q fun c H3 w3 e => q c H3 (o.trans w2 w3) (by rw [e]; rfl)
  | false => exact q false H2 w2 rfl
theorem t_or {a b : Bool} (h1 : Et C tt σ H a) (h2 : a = false → Et C tu σ H b) : Et C (tOr tt tu) σ H (a || b) := fun H1 w Q q => h1 H1 w _ fun c H2 w2 e => by
  subst e
  cases c with
  | false => exact h2 rfl H2 (o.trans w w2) Q fun c H3 w3 e => q c H3 (o.trans w2 w3) (by rw [e]; rfl)
  | true => exact q true H2 w2 rfl
theorem t_not {a : Bool} (h1 : Et C tt σ H a) : Et C (tNot tt) σ H (!a) := fun H1 w Q q => h1 H1 w _ fun c H2 w2 e => q (!c) H2 w2 (by rw [e])
theorem e_and {a b : Bool} (h1 : Ed C ta σ H (.bool a)) (h2 : a = true → Ed C tb σ H (.bool b)) : Ed C (tAndV ta tb) σ H (.bool (a && b)) := fun H1 w Q q => h1 H1 w _ fun x H2 w2 p => by
  refine ⟨a, p.blI, ?_⟩
  cases a with
  | true => exact h2 rfl H2 (o.trans w w2) Q fun x H3 w3 p3 => q x H3 (o.trans w2 w3) p3
  | false => exact q _ H2 w2 (.bl false)
theorem e_or {a b : Bool} (h1 : Ed C ta σ H (.bool a)) (h2 : a = false → Ed C tb σ H (.bool b)) : Ed C (tOrV ta tb) σ H (.bool (a || b)) := fun H1 w Q q => h1 H1 w _ fun x H2 w2 p => by
  refine ⟨a, p.blI, ?_⟩
  cases a with
  | false => exact h2 rfl H2 (o.trans w w2) Q fun x H3 w3 p3 => q x H3 (o.trans w2 w3) p3
  | true => exact q _ H2 w2 (.bl true)
theorem e_not {a : Bool} (h1 : Ed C ta σ H (.bool a)) : Ed C (tNotV ta) σ H (.bool (!a)) := fun H1 w Q q => h1 H1 w _ fun x H2 w2 p => ⟨a, p.blI, q _ H2 w2 (.bl _)⟩
theorem e_if {b : Bool} {P : V → Hp → Prop} (h : Et C tt σ H b) (h1 : b = true → EvP C ta σ H P) (h2 : b = false → EvP C tb σ H P) : EvP C (tIf tt ta tb) σ H P := fun H1 w Q q => h H1 w _ fun c H2 w2 e => by
  subst e
  cases c with
  | true => exact h1 rfl H2 (o.trans w w2) Q fun x H3 w3 p3 => q x H3 (o.trans w2 w3) p3
  | false => exact h2 rfl H2 (o.trans w w2) Q fun x H3 w3 p3 => q x H3 (o.trans w2 w3) p3

/-- items at a whole number's place -/
theorem e_ixTz {ds : List PyData} {z : Int} (ha : Ed C ta σ H (.tuple ds)) (hb : Ed C tb σ H (.int z)) (h0 : 0 ≤ z) (h : ds[z.toNat]? = some d) : Ed C (tOp (rIx C.K) ta tb) σ H d :=
  e_ixT o ha (i := z.toNat) (by rw [Int.toNat_of_nonneg h0]; exact hb) h
theorem e_ixLz {ds : List PyData} {z : Int} (ha : Ed C ta σ H (.list ds)) (hb : Ed C tb σ H (.int z)) (h0 : 0 ≤ z) (h : ds[z.toNat]? = some d) : Ed C (tOp (rIx C.K) ta tb) σ H d :=
  e_ixL o ha (i := z.toNat) (by rw [Int.toNat_of_nonneg h0]; exact hb) h
theorem e_ixSz {y : Str} {z : Int} {c : Nat} (ha : Ed C ta σ H (.str y)) (hb : Ed C tb σ H (.int z)) (h0 : 0 ≤ z) (h : y.cps.toList[z.toNat]? = some c) (hz : y.length ≤ 1000) : Ed C (tOp (rIx C.K) ta tb) σ H (.str ⟨#[c]⟩) :=
  e_ixS o ha (i := z.toNat) (by rw [Int.toNat_of_nonneg h0]; exact hb) h hz
/-- a built-in's call -/
theorem e_cb {r : List V → Hp → VK → Prop} {ds : List PyData} (ha : Ea C tx σ H ds) (hr : ∀ vs H1, C.W H H1 → Dws C H1 vs ds → ∀ Q : VK, (∀ v H2, C.W H1 H2 → Dw C H2 v f → Q v H2) → r vs H1 Q) : Ed C (tCB r tx) σ H f := fun H1 w Q q =>
  ha H1 w _ fun vs H2 w2 p => hr vs H2 (o.trans w w2) p Q fun v H3 w3 p3 => q v H3 (o.trans w2 w3) p3
omit o in
theorem DTs.one {K : PySem.W.Frag} {L : Addr → Prop} {vs : List V} (h : DTs K L H vs [d]) : ∃ v, vs = [v] ∧ DT K L H v d := by
  cases h with | cons a b => cases b; exact ⟨_, rfl, a⟩
omit o in
theorem DTs.two {K : PySem.W.Frag} {L : Addr → Prop} {vs : List V} (h : DTs K L H vs [d, e]) : ∃ v u, vs = [v, u] ∧ DT K L H v d ∧ DT K L H u e := by
  cases h with | cons a b => cases b with | cons b c => cases c; exact ⟨_, _, rfl, a, b⟩
abbrev rLen (K : PySem.W.Frag) : List V → Hp → VK → Prop := fun xs H Q => ∃ x n, xs = [x] ∧ LenV K x H n ∧ Q (.int n) H
theorem e_lenT {ds : List PyData} (ha : Ed C ta σ H (.tuple ds)) : Ed C (tCB (rLen C.K) (tCons ta tNil)) σ H (.int ds.length) :=
  e_cb o (a_cons o ha (a_nil o)) fun vs H1 _ p Q q => by
    obtain ⟨v, rfl, p1⟩ := p.one
    obtain ⟨a, xs, rfl, hs, r⟩ := p1.tupI
    exact ⟨_, _, rfl, .inr ⟨xs, hs, rfl⟩, q _ H1 (o.refl _) (by rw [r.length]; exact .int _)⟩
theorem e_lenL {ds : List PyData} (ha : Ed C ta σ H (.list ds)) : Ed C (tCB (rLen C.K) (tCons ta tNil)) σ H (.int ds.length) :=
  e_cb o (a_cons o ha (a_nil o)) fun vs H1 _ p Q q => by
    obtain ⟨v, rfl, p1⟩ := p.one
    obtain ⟨a, xs, rfl, _, hs, r⟩ := p1.lstI
    exact ⟨_, _, rfl, .inl ⟨xs, SqL.of hs, rfl⟩, q _ H1 (o.refl _) (by rw [r.length]; exact .int _)⟩
theorem e_lenS {z : Str} (ha : Ed C ta σ H (.str z)) (hz : z.length ≤ 1000) : Ed C (tCB (rLen C.K) (tCons ta tNil)) σ H (.int z.length) :=
  e_cb o (a_cons o ha (a_nil o)) fun vs H1 _ p Q q => by
    obtain ⟨v, rfl, p1⟩ := p.one
    rw [p1.strI]
    exact ⟨_, _, rfl, ⟨Nat.le_trans hz (by decide), rfl⟩, q _ H1 (o.refl _) (.int _)⟩
abbrev rInt1 : List V → Hp → VK → Prop := fun xs H Q => (∃ i, xs = [.int i] ∧ Q (.int i) H) ∨ ∃ k, xs = [.bl k] ∧ Q (.int (if k then 1 else 0)) H
theorem e_intI {i : Int} (ha : Ed C ta σ H (.int i)) : Ed C (tCB rInt1 (tCons ta tNil)) σ H (.int i) :=
  e_cb o (a_cons o ha (a_nil o)) fun vs H1 _ p Q q => by
    obtain ⟨v, rfl, p1⟩ := p.one
    rw [p1.intI]
    exact .inl ⟨i, rfl, q _ H1 (o.refl _) (.int _)⟩
theorem e_intB {b : Bool} (ha : Ed C ta σ H (.bool b)) : Ed C (tCB rInt1 (tCons ta tNil)) σ H (.int (if b then 1 else 0)) :=
  e_cb o (a_cons o ha (a_nil o)) fun vs H1 _ p Q q => by
    obtain ⟨v, rfl, p1⟩ := p.one
    rw [p1.blI]
    exact .inr ⟨b, rfl, q _ H1 (o.refl _) (.int _)⟩
abbrev rMin2 : List V → Hp → VK → Prop := fun xs H Q => ∃ i j, xs = [.int i, .int j] ∧ Q (.int (if j < i then j else i)) H
abbrev rMax2 : List V → Hp → VK → Prop := fun xs H Q => ∃ i j, xs = [.int i, .int j] ∧ Q (.int (if j > i then j else i)) H
theorem e_min2 {i j : Int} (ha : Ed C ta σ H (.int i)) (hb : Ed C tb σ H (.int j)) : Ed C (tCB rMin2 (tCons ta (tCons tb tNil))) σ H (.int (min i j)) :=
  e_cb o (a_cons o ha (a_cons o hb (a_nil o))) fun vs H1 _ p Q q => by
    obtain ⟨v, u, rfl, p1, p2⟩ := p.two
    rw [p1.intI, p2.intI]
    refine ⟨i, j, rfl, q _ H1 (o.refl _) ?_⟩
    have e : (if j < i then j else i) = min i j := by omega
    rw [e]
    exact .int _
theorem e_max2 {i j : Int} (ha : Ed C ta σ H (.int i)) (hb : Ed C tb σ H (.int j)) : Ed C (tCB rMax2 (tCons ta (tCons tb tNil))) σ H (.int (max i j)) :=
  e_cb o (a_cons o ha (a_cons o hb (a_nil o))) fun vs H1 _ p Q q => by
    obtain ⟨v, u, rfl, p1, p2⟩ := p.two
    rw [p1.intI, p2.intI]
    refine ⟨i, j, rfl, q _ H1 (o.refl _) ?_⟩
    have e : (if j > i then j else i) = max i j := by omega
    rw [e]
    exact .int _
/-- t + u of tuples -/
theorem e_cat {ds es : List PyData} (ha : Ed C ta σ H (.tuple ds)) (hb : Ed C tb σ H (.tuple es)) (hl : ds.length + es.length ≤ 1000) : Ed C (tOp (rCatA C.K) ta tb) σ H (.tuple (ds ++ es)) :=
  e_op o ha hb fun x y H1 _ p p' Q q => by
    obtain ⟨a, xs, rfl, hs, r⟩ := p.tupX
    obtain ⟨b, ys, rfl, hs', r'⟩ := p'.tupX
    refine ⟨a, b, xs, ys, rfl, rfl, SqT.of hs, SqT.of hs', by rw [r.length, r'.length]; exact Nat.le_trans hl (by decide), fun e => ?_, fun _ e => ?_, fun _ _ c hc => ?_⟩
    · subst e
      cases r
      exact q _ H1 (o.refl _) (.tup hs' r')
    · subst e
      cases r'
      rw [List.append_nil] at q
      exact q _ H1 (o.refl _) (.tup hs r)
    · exact q _ _ (o.new hc) (.tup upd_same (DTs.mono o (o.new hc) (r.append r')))

/-! ### statements -/
variable {nx bk ct : L2.St → Hp → Prop} {rt : VK} {D : Ends} {ts t1 t2 : TS} {i : Nat}
theorem s_set {P : V → Hp → Prop} (h : EvP C te σ H P) (q : ∀ v H', C.W H H' → P v H' → nx (σ.set i (some v)) H') : tAsg te (gName i) ⟨nx, rt, bk, ct⟩ σ H := h H (o.refl _) _ q
theorem s_drop {P : V → Hp → Prop} (h : EvP C te σ H P) (q : ∀ v H', C.W H H' → P v H' → nx σ H') : tDrop te ⟨nx, rt, bk, ct⟩ σ H := h H (o.refl _) _ q
theorem s_ret {P : V → Hp → Prop} (h : EvP C te σ H P) (q : ∀ v H', C.W H H' → P v H' → rt v H') : tRet te ⟨nx, rt, bk, ct⟩ σ H := h H (o.refl _) _ q
theorem s_asg {P : V → Hp → Prop} {g : TG} (h : EvP C te σ H P) (q : ∀ v H', C.W H H' → P v H' → g v σ H' nx) : tAsg te g ⟨nx, rt, bk, ct⟩ σ H := h H (o.refl _) _ q
omit o in
theorem s_next (q : nx σ H) : tNext ⟨nx, rt, bk, ct⟩ σ H := q
/-- name += .. (ints) -/
theorem s_inc {ρ : List Ds} {m n : Int} (S : Sl C H σ ρ) (hm : ρ[i]? = some (.da (.int m))) (h : Ed C te σ H (.int n)) (q : ∀ H', C.W H H' → nx (σ.set i (some (.int (m + n)))) H') : tAug i te (ipI fun i j => i + j) ⟨nx, rt, bk, ct⟩ σ H := by
  obtain ⟨v, e, r⟩ := S.da hm
  rw [r.intI] at e
  exact ⟨_, e, h H (o.refl _) _ fun u H' w p => ⟨m, n, rfl, p.intI, q H' w⟩⟩
theorem s_if {b : Bool} (h : Et C tt σ H b) (q1 : b = true → ∀ H', C.W H H' → t1 D σ H') (q2 : b = false → ∀ H', C.W H H' → t2 D σ H') : tIfS tt t1 t2 D σ H := h H (o.refl _) _ fun c H' w e => by
  subst e
  cases c with
  | true => exact q1 rfl H' w
  | false => exact q2 rfl H' w
end

/-- a statement, then the rest: no word between -/
theorem pss_c {X : Cx} {st : Stmt} {rest : List Stmt} {t u : TS} (h1 : PS X st t) (h2 : PSs X rest u) : PSs X (st :: rest) (fun D σ H => t { D with nx := u D } σ H) := pss_cons h1 h2
/-! ### a def's promise by description -/
/-- R: what comes of which arguments -/
def spD (K : PySem.W.Frag) (R : List PyData → PyData → Prop) : Sp := fun vs H Q _ => ∃ (L : Addr → Prop) (ds : List PyData) (d : PyData), (∀ a, L a → H a ≠ none) ∧ DTs K L H vs ds ∧ R ds d ∧ ∀ v H', Kp No H H' → DT K L H' v d → Q v H'
theorem Wd.Ok.un {C : Wd} (o : C.Ok) {H H' : Hp} (w : C.W H H') (hL : ∀ a, C.L a → H a ≠ none) : ∀ a, C.L a → H' a ≠ none := fun a l z => hL a l (o.free w z)
theorem e_call {C : Wd} (o : C.Ok) {H : Hp} {σ : L2.St} {tx : TA} {d : PyData} {ds : List PyData} {R : List PyData → PyData → Prop} (hL : ∀ a, C.L a → H a ≠ none) (h : Ea C tx σ H ds) (r : R ds d) :
    Ed C (tCall (spD C.K R) [] E0 tx) σ H d := fun H1 w Q q =>
  h H1 w _ fun vs H2 w2 p => by
    refine ⟨C.L, ds, d, o.un (o.trans w w2) hL, by rw [List.append_nil]; exact p, r, fun v H' k p' => q v H' (o.trans w2 (o.of0 k)) p'⟩
end SR

namespace SR
open PySem PySem.Spec PyProof.Rows L2
/-- the text by places -/
def top (i : Nat) : Stmt := PySem.Challenge.pw_surelyread_k38_whole_certified_is_true.main.body.getD i (.Pass ⟨0, 0, 0, 0⟩)
/-- the built-ins that the defs call -/
structure Blt (mg : Str → Option Value) : Prop where
  len : mg "len" = none
  range : mg "range" = none
  min : mg "min" = none
  max : mg "max" = none
  sorted : mg "sorted" = none
  reversed : mg "reversed" = none
  list : mg "list" = none
  tuple : mg "tuple" = none
  int : mg "int" = none
  str : mg "str" = none
  all : mg "all" = none
  enumerate : mg "enumerate" = none
  isinstance : mg "isinstance" = none
  bool : mg "bool" = none
/-- a def's own row: from its entry F to the callable -/
abbrev DefA (K : PySem.W.Frag) (mg : Str → Option Value) (x : Str) (st : Stmt) : Prop := ∃ f fd, C8.Def K mg x st f fd ∧ fd.defaults = .none
theorem cal_by {P : Program} {w : World} {K : PySem.W.Frag} {mg : Str → Option Value} {base : Heap} {x : Str} {st : Stmt} {N ps : List Str} {k : Nat} {sp : Sp} (F : DefA K mg x st) (S : FnScope N ps (defScope st)) (ea : C8.fnArgs st = defArgs st) (eb : C8.fnBody st = defBody st) (es : C8.fnScope st = defScope st)
    (hb : ∀ (kV doc pm : Value) (an : Option Addr) (cdv ct : Value) (us : List Value), us.length = ps.length → bindArgs (PySem.W.fnOf x x (C8.fnArgs st) (C8.fnBody st) (C8.fnScope st) .none kV doc pm an cdv ct) ⟨us, []⟩ = pure (ps.zip us))
    (len : ∀ vs H Q E, sp vs H Q E → vs.length = ps.length)
    (hbody : ∀ (f : Addr) (cdv : Value) (A : Around) (outer : List Env) (s : Shared) (H : Hp) (vs : List V) (Q : VK) (E : XK), Room k (A.deeper (envOfC x (defScope st) s.heap.objs.size f cdv)) → sp vs H Q E →
      ∃ t, PSs (cxOf CX0 P w K mg base N x (defScope st) f cdv A outer s H E).nox (defBody st) t ∧ t { nx := fun _ H' => Q .non H', rt := Q } (start N vs) H) : C8.Cal P w K mg base (k + 1) x sp [] := by
  obtain ⟨f, fd, F, df⟩ := F
  refine ⟨f, fd, ps, [], C8.fn0 F.fn (by rw [es]; exact S) len (fun cdv A outer s H vs Q E hr h => ?_), F.mgf, F.kp, F.fn.binds df hb, .nil⟩
  rw [es, eb] at *
  exact hbody f cdv A outer s H vs Q E hr h
theorem spD_len {K : PySem.W.Frag} {R : List PyData → PyData → Prop} {n : Nat} (h : ∀ ds d, R ds d → ds.length = n) (vs : List V) (H : Hp) (Q : VK) (E : XK) (q : spD K R vs H Q E) : vs.length = n := by
  obtain ⟨L, ds, d, _, hd, r, _⟩ := q
  rw [hd.length, h ds d r]
end SR

/-! Hd: the head. -/
namespace SR
open PySem PySem.Spec PyProof.Rows L2
def defs1 : List (Str × Nat) := [(("is_strip" : Str), 1), (("joined" : Str), 2), (("walk_place" : Str), 4), (("walk_sequence" : Str), 5), (("walk_choice" : Str), 6), (("walk_repeated" : Str), 7), (("walk_maybe" : Str), 8), (("walk" : Str), 10), (("machine" : Str), 11), (("machines" : Str), 12), (("extent" : Str), 14), (("piece" : Str), 15), (("reached" : Str), 16), (("looks_at" : Str), 17), (("pieces_looked_at" : Str), 18), (("looks_of" : Str), 19), (("needed_with" : Str), 20), (("pixel" : Str), 25), (("overlap" : Str), 27), (("allowed" : Str), 28), (("leaf_pixel" : Str), 29), (("fits" : Str), 30), (("leaf_cost" : Str), 31), (("best_rests" : Str), 32), (("best_table" : Str), 33), (("sum_of" : Str), 35), (("cost_in" : Str), 36), (("all_bounds" : Str), 39), (("known_bounds" : Str), 40), (("bound_of" : Str), 41), (("at_most" : Str), 42), (("right_leaf" : Str), 43), (("right_spot" : Str), 44), (("right_bound" : Str), 45)]
def defs2 : List (Str × Nat) := [(("right" : Str), 46), (("certifies" : Str), 47), (("_law_cell" : Str), 49), (("_law_digits" : Str), 50), (("_law_draw" : Str), 51), (("_law_same" : Str), 52), (("_law_leaf" : Str), 53), (("_law_place" : Str), 54), (("_law_choice" : Str), 55), (("_law_parts" : Str), 56), (("_law_strip" : Str), 57), (("_law_extent" : Str), 58), (("_law_piece" : Str), 59), (("_law_fits" : Str), 60), (("_law_spots" : Str), 61), (("_law_count" : Str), 62), (("_law_rests" : Str), 63), (("_law_all" : Str), 64), (("_law_regions" : Str), 65), (("_law_moved" : Str), 66), (("_law_black" : Str), 67), (("_law_wrong" : Str), 68), (("_law_leaves" : Str), 69), (("_law_cost" : Str), 70), (("_law_world" : Str), 71), (("_law_picture" : Str), 72), (("_law_region" : Str), 73), (("_law_wishes" : Str), 74), (("_law_meets" : Str), 75), (("_law_allowed" : Str), 76), (("_law_found" : Str), 77), (("_law_spoilt" : Str), 78), (("_law_list" : Str), 79), (("law" : Str), 80)]
def defsL : List (Str × Nat) := defs1 ++ defs2
def dOf (p : Str × Nat) : He.DefD := ⟨(p.1, none), p.1, p.1, C8.fnArgs (top p.2), C8.fnBody (top p.2), C8.fnScope (top p.2), [], []⟩
def mOf (p : Str × Str × Nat) : He.DefD := ⟨("Places", some p.1), p.1, p.2.1, C8.fnArgs (inClass (top 3) p.2.2), C8.fnBody (inClass (top 3) p.2.2), C8.fnScope (inClass (top 3) p.2.2), [], []⟩
def methL : List (Str × Str × Nat) := [(("__init__" : Str), ("Places.__init__" : Str), 0), (("add" : Str), ("Places.add" : Str), 1), (("link" : Str), ("Places.link" : Str), 2)]
def fnL : List He.DefD := defsL.map dOf ++ methL.map mOf
def bltL : List Str := ["len", "range", "min", "max", "sorted", "reversed", "list", "tuple", "int", "str", "all", "enumerate", "isinstance", "bool"]
def moreL : List He.Fa := [.glo "Places", .glo "WALKS", .int "BOUNDS_MOST" 1500, .cls "Places", .noat "Places" "places", .noat "Places" "followers", .meth "Places" "add", .meth "Places" "link", .mkr "Places"]
def faL : List He.Fa := defsL.map (fun p => He.Fa.glo p.1) ++ (bltL.map He.Fa.free ++ moreL)
def walkL : List (Str × Str) := [(("place" : Str), ("walk_place" : Str)), ("sequence", "walk_sequence"), ("choice", "walk_choice"), ("any", "walk_repeated"), ("some", "walk_repeated"), ("maybe", "walk_maybe")]
def tsL : List He.Tab := [(fun K => He.ga K "WALKS", walkL.map (·.1))]
def kvsL : List (Str × He.Dv) := walkL.map fun p => (p.1, .glo p.2)
def exB (K : PySem.W.Frag) : Bool := He.valsB K (He.ga K "WALKS") kvsL
def tfL : List He.Defn := [("allowed", none), ("right", none)]
abbrev R : PySem.W.OpenRow := PySem.W.OpenLaw.row PySem.Challenge.rw_surelyread_k38_whole_certified_is_true
/-- what is looked at: what the module's names name, their code, the class's methods -/
def namedBy (g : Addr → Option Obj) (a : Addr) : List Addr := match g a with
  | none => []
  | some u => He.refsO u
def near (g : Addr → Option Obj) : List Addr := mainGlobals :: (namedBy g mainGlobals ++ (namedBy g mainGlobals).flatMap (namedBy g))
def methAt (g : Addr → Option Obj) : List Addr := methL.map fun p => He.ma (He.frT g (near g)) (He.ga (He.frT g (near g)) "Places") p.1
def seenAt (g : Addr → Option Obj) : List Addr := methAt g ++ ((methAt g).flatMap (namedBy g) ++ near g)
def obY (g : Addr → Option Obj) : He.AlX := (He.obsT faL fnL tsL (He.frT g (seenAt g)), exB (He.frT g (seenAt g)) && He.tabsB g tfL (He.frT g (seenAt g)))
theorem tab_one {g : Addr → Option Obj} {K : PySem.W.Frag} (b : He.tabsB g tfL K = true) {p : He.Defn} (hp : p ∈ tfL) : PySem.W.codeHdIn K (He.cT K p).1 (He.cT K p).2 = true ∧ ∃ u, g (He.cT K p).2 = some u ∧ He.emptyTab u = true := by
  have b1 := List.all_eq_true.mp b p hp
  rw [Bool.and_eq_true] at b1
  refine ⟨b1.1, ?_⟩
  have b2 := b1.2
  split at b2
  · exact ⟨_, by assumption, b2⟩
  · cases b2
theorem told {w : World} {h : Heap} (e : obY h.get? = He.valX fnL tsL w) : He.SaysX faL fnL tsL tfL exB w h (He.frT h.get? (seenAt h.get?)) := by
  have e1 := congrArg Prod.fst e
  have e2 : (exB (He.frT h.get? (seenAt h.get?)) && He.tabsB h.get? tfL (He.frT h.get? (seenAt h.get?))) = true := congrArg Prod.snd e
  rw [Bool.and_eq_true] at e2
  exact { t := e1, more := e2.1, hd := fun p hp => (tab_one e2.2 hp).1
          out := fun p hp => let ⟨_, u, a, b⟩ := tab_one e2.2 hp; He.frT_none a b
          empty := fun p hp => by
            obtain ⟨_, u, a, b⟩ := tab_one e2.2 hp
            rw [a, He.emptyTab_eq b] }
def hk : PySem.W.Hook where
  α := He.AlX
  obs := fun s => obY s.heap.get?
  val := fun w => He.valX fnL tsL w
  says := fun w h => ∃ K : PySem.W.Frag, K.In h ∧ He.SaysX faL fnL tsL tfL exB w h K
  of := fun _ _ e => ⟨_, He.frT_in, told e⟩
  keeps := (He.hookX 0 faL fnL tsL tfL exB).keeps
def ob (s : PySem.W.SharedT) : He.AlX := obY (HandSHeadRun.getT s)
theorem ob_eq (s : PySem.W.SharedT) : ob s = hk.obs s.abs := congrArg obY (funext (HandSHeadRun.getT_eq s))
def names0 : List PySem.Str := ["is_strip", "joined", "Places", "walk_place", "walk_sequence", "walk_choice", "walk_repeated", "walk_maybe", "WALKS", "walk", "machine", "machines", "extent", "piece", "reached", "looks_at", "pieces_looked_at", "looks_of", "needed_with", "PageError", "TooMany", "pixel", "overlap", "allowed", "leaf_pixel", "fits", "leaf_cost", "best_rests", "best_table", "sum_of"]
def names1 : List PySem.Str := ["cost_in", "BOUNDS_MOST", "all_bounds", "known_bounds", "bound_of", "at_most", "right_leaf", "right_spot", "right_bound", "right", "certifies", "_law_cell", "_law_digits", "_law_draw", "_law_same", "_law_leaf", "_law_place", "_law_choice", "_law_parts", "_law_strip", "_law_extent", "_law_piece", "_law_fits", "_law_spots", "_law_count", "_law_rests", "_law_all", "_law_regions", "_law_moved", "_law_black"]
def names2 : List PySem.Str := ["_law_wrong", "_law_leaves", "_law_cost", "_law_world", "_law_picture", "_law_region", "_law_wishes", "_law_meets", "_law_allowed", "_law_found", "_law_spoilt", "_law_list"]
def names : List PySem.Str := names0 ++ names1 ++ names2
theorem run0 (w : World) : HandSHeadRun.RunEq R (PySem.W.view R.prog [80]) hk ob 6000 names (w.withFollow "special-get-raises" false) := by
  intro os
  kernel_rfl
theorem run1 (w : World) : HandSHeadRun.RunEq R (PySem.W.view R.prog [80]) hk ob 6000 names (w.withFollow "special-get-raises" true) := by
  intro os
  kernel_rfl
theorem run (w : World) : HandSHeadRun.RunEq R (PySem.W.view R.prog [80]) hk ob 6000 names w :=
  PySem.W.byRow2 "special-get-raises" (P := fun w => HandSHeadRun.RunEq R (PySem.W.view R.prog [80]) hk ob 6000 names w) run0 run1 w
end SR

/-! Dat: the data of the program as plain Lean. -/
namespace SR
open PySem PySem.Spec PyProof.Rows L2

/-- a region -/
structure Rg where
  p : Int
  x : Int
  y : Int
  w : Int
  h : Int
  deriving DecidableEq
def Rg.d (r : Rg) : PyData := .tuple [.int r.p, .int r.x, .int r.y, .int r.w, .int r.h]
inductive Ch where
  | place (part least most cost : Int)
  | seq (l : List Ch)
  | alt (l : List Ch)
  | any (c : Ch)
  | some (c : Ch)
  | maybe (c : Ch)
mutual
def Ch.d : Ch → PyData
  | .place p l m c => .tuple [.str "place", .int p, .int l, .int m, .int c]
  | .seq l => .tuple [.str "sequence", .tuple (Ch.ds l)]
  | .alt l => .tuple [.str "choice", .tuple (Ch.ds l)]
  | .any c => .tuple [.str "any", c.d]
  | .some c => .tuple [.str "some", c.d]
  | .maybe c => .tuple [.str "maybe", c.d]
def Ch.ds : List Ch → List PyData
  | [] => []
  | c :: l => c.d :: Ch.ds l
end
inductive Pt where
  | plain (name label : Str) (cost : Int) (black : Bool)
  | shape (name label : Str) (cost : Int) (rows : List Str)
  | strip (across : Bool) (name joint : Str) (c : Ch)
def Pt.d : Pt → PyData
  | .plain n l c b => .tuple [.str "plain", .str n, .str l, .int c, .bool b]
  | .shape n l c rows => .tuple [.str "shape", .str n, .str l, .int c, .tuple (rows.map .str)]
  | .strip a n j c => .tuple [.str (if a then "across" else "down"), .str n, .str j, c.d]
def Pt.isStrip : Pt → Bool
  | .strip .. => true
  | _ => false
def Pt.isPlain : Pt → Bool
  | .plain .. => true
  | _ => false
def Pt.across : Pt → Bool
  | .strip a .. => a
  | _ => false
/-- the first entry -/
def Pt.kind : Pt → Str
  | .plain .. => "plain"
  | .shape .. => "shape"
  | .strip a .. => if a then "across" else "down"
theorem Pt.d0 (p : Pt) : ∃ l, p.d = .tuple (.str p.kind :: l) := by cases p <;> exact ⟨_, rfl⟩
theorem Pt.kind_across (p : Pt) : decide (p.kind = "across") = p.across := by
  cases p with
  | plain => exact (by decide +kernel : decide (("plain" : Str) = "across") = false)
  | shape => exact (by decide +kernel : decide (("shape" : Str) = "across") = false)
  | strip a n j c =>
    cases a
    · exact (by decide +kernel : decide (("down" : Str) = "across") = false)
    · exact (by decide +kernel : decide (("across" : Str) = "across") = true)
theorem Pt.kind_strip (p : Pt) : (decide (p.kind = "across") || decide (p.kind = "down")) = p.isStrip := by
  cases p with
  | plain => exact (by decide +kernel : (decide (("plain" : Str) = "across") || decide (("plain" : Str) = "down")) = false)
  | shape => exact (by decide +kernel : (decide (("shape" : Str) = "across") || decide (("shape" : Str) = "down")) = false)
  | strip a n j c =>
    cases a
    · exact (by decide +kernel : (decide (("down" : Str) = "across") || decide (("down" : Str) = "down")) = true)
    · exact (by decide +kernel : (decide (("across" : Str) = "across") || decide (("across" : Str) = "down")) = true)
theorem Pt.kind_plain (p : Pt) : decide (p.kind = "plain") = p.isPlain := by
  cases p with
  | plain => exact (by decide +kernel : decide (("plain" : Str) = "plain") = true)
  | shape => exact (by decide +kernel : decide (("shape" : Str) = "plain") = false)
  | strip a n j c =>
    cases a
    · exact (by decide +kernel : decide (("down" : Str) = "plain") = false)
    · exact (by decide +kernel : decide (("across" : Str) = "plain") = false)
theorem Pt.kind_shape (p : Pt) : decide (p.kind = "shape") = (!p.isStrip && !p.isPlain) := by
  cases p with
  | plain => exact (by decide +kernel : decide (("plain" : Str) = "shape") = false)
  | shape => exact (by decide +kernel : decide (("shape" : Str) = "shape") = true)
  | strip a n j c =>
    cases a
    · exact (by decide +kernel : decide (("down" : Str) = "shape") = false)
    · exact (by decide +kernel : decide (("across" : Str) = "shape") = false)
/-- how far a region of a strip goes -/
def Pt.ext (p : Pt) (r : Rg) : Int := if p.across then r.w else r.h
def Pt.piece (p : Pt) (r : Rg) (o n s : Int) : Rg := if p.across then ⟨n, r.x + o, r.y, s, r.h⟩ else ⟨n, r.x, r.y + o, r.w, s⟩

theorem Sl.start {C : Wd} {H : Hp} {N : List Str} {vs : List V} {ds : List PyData} (h : Dws C H vs ds) : Sl C H (L2.start N vs) (ds.map Ds.da ++ List.replicate (N.length - ds.length) Ds.un) := by
  unfold L2.start
  rw [h.length]
  exact Sl.ofD _ h
/-- a text among written ones -/
theorem e_inS {C : Wd} (o : C.Ok) {H : Hp} {σ : L2.St} {ta tb : TE} {z : Str} {zs : List Str} (ha : Ed C ta σ H (.str z)) (hb : Ed C tb σ H (.tuple (zs.map .str))) : Ed C (tOp (rIn C.K false) ta tb) σ H (.bool (zs.any fun y => decide (z = y))) :=
  e_op o ha hb fun x y H1 _ p p' Q q => by
    obtain ⟨a, xs, rfl, hs, r⟩ := p'.tupI
    have ex : xs = zs.map V.str := by
      clear hb hs q p'
      induction zs generalizing xs with
      | nil => cases r; rfl
      | cons z zs ih =>
        cases r with
        | cons r1 r2 => rw [r1.strI, ih _ r2]; rfl
    subst ex
    rw [p.strI]
    refine ⟨a, _, rfl, .inr hs, rfl, ?_, ?_⟩
    · rw [List.all_map]
      exact List.all_eq_true.mpr fun _ _ => rfl
    · have e : inV (.str z) (zs.map V.str) = zs.any fun y => decide (z = y) := by
        unfold inV
        rw [List.any_map]
        congr 1
        funext y
        show (y == z) = decide (z = y)
        by_cases c : z = y
        · subst c; simp
        · rw [decide_eq_false c]
          exact beq_eq_false_iff_ne.mpr fun z => c z.symm
      rw [if_neg Bool.false_ne_true, e]
      exact q _ H1 (o.refl _) (.bl _)
/-- a number or None -/
def oi : Option Int → PyData
  | none => .none
  | some i => .int i
def atMost (least other : Option Int) : Bool := match other with
  | none => true
  | some o => match least with
    | none => false
    | some l => decide (l ≤ o)
def sumOf (c : Int) (a b : Option Int) : Option Int := match a, b with
  | some i, some j => some (c + i + j)
  | _, _ => none
def Rg.over (a b : Rg) : Bool := if decide (b.x + b.w ≤ a.x) || decide (a.x + a.w ≤ b.x) then false else decide (a.y < b.y + b.h) && decide (b.y < a.y + a.h)
/-- the x-th sign is black -/
def isB (s : Str) (x : Nat) : Bool := match s.cps.toList[x]? with
  | some c => decide ((⟨#[c]⟩ : Str) = "#")
  | none => false
def wide (rows : List Str) : Nat := match rows with
  | [] => 0
  | r :: _ => r.length
/-- rows of one length -/
structure Img (rows : List Str) : Prop where
  ne : rows ≠ []
  len : ∀ r ∈ rows, r.length = wide rows
  wd : wide rows ≤ 1000
  ht : rows.length ≤ 1000
def pixB (rows : List Str) (x y : Int) : Bool := if decide (x < 0) || (decide (y < 0) || (decide ((rows.length : Int) ≤ y) || decide ((wide rows : Int) ≤ x))) then false else isB (rows.getD y.toNat "") x.toNat
theorem Img.at {rows : List Str} (g : Img rows) {x y : Nat} (hy : y < rows.length) (hx : x < wide rows) : ∃ r c, rows[y]? = some r ∧ r.length ≤ 1000 ∧ r.cps.toList[x]? = some c ∧ isB (rows.getD y "") x = decide ((⟨#[c]⟩ : Str) = "#") := by
  have h1 : rows[y]? = some rows[y] := List.getElem?_eq_getElem hy
  have h2 := g.len _ (List.getElem_mem hy)
  have h3 : rows[y].cps.toList.length = rows[y].length := by simp [Str.length]
  have h4 : x < rows[y].cps.toList.length := by omega
  have h5 : rows[y].cps.toList[x]? = some (rows[y].cps.toList[x]) := List.getElem?_eq_getElem h4
  refine ⟨_, _, h1, by have := g.wd; omega, h5, ?_⟩
  have e : rows.getD y "" = rows[y] := by rw [List.getD_eq_getElem?_getD, h1]; rfl
  rw [e]
  unfold isB
  rw [h5]
def Pt.rows : Pt → List Str
  | .shape _ _ _ rows => rows
  | _ => []
def Pt.cost : Pt → Int
  | .plain _ _ c _ => c
  | .shape _ _ c _ => c
  | _ => 0
def Pt.ch : Pt → Ch
  | .strip _ _ _ c => c
  | _ => .place 0 0 0 0
def Pt.fits (p : Pt) (r : Rg) : Bool := p.isPlain || (decide (r.w = (wide p.rows : Int)) && decide (r.h = (p.rows.length : Int)))
def Pt.pix (p : Pt) (x y : Int) : Bool := match p with
  | .plain _ _ _ b => b
  | .shape _ _ _ rows => isB (rows.getD y.toNat "") x.toNat
  | _ => false
/-- an entry of a region -/
def Rg.at (r : Rg) : Nat → Int
  | 0 => r.p
  | 1 => r.x
  | 2 => r.y
  | 3 => r.w
  | _ => r.h
theorem e_rg {C : Wd} (o : C.Ok) {H : Hp} {σ : L2.St} {te : TE} {r : Rg} (h : Ed C te σ H r.d) (j : Nat) (hj : j < 5 := by decide) : Ed C (tOp (rIx C.K) te (tC (.int (j : Int)))) σ H (.int (r.at j)) :=
  e_ixT o (i := j) h (e_int o) (match j, hj with
    | 0, _ => rfl
    | 1, _ => rfl
    | 2, _ => rfl
    | 3, _ => rfl
    | 4, _ => rfl)
/-- the wrong pixels of a leaf -/
def wrongIn (p : Pt) (r : Rg) (rows : List Str) (y : Nat) (n : Nat) : Nat := ((List.range n).map fun x : Nat => if pixB rows (r.x + x) (r.y + y) != p.pix x y then 1 else 0).sum
def wrongs (p : Pt) (r : Rg) (rows : List Str) (m : Nat) : Nat := ((List.range m).map fun y : Nat => wrongIn p r rows y r.w.toNat).sum
theorem wrongIn_succ (p : Pt) (r : Rg) (rows : List Str) (y n : Nat) : wrongIn p r rows y (n + 1) = wrongIn p r rows y n + (if pixB rows (r.x + n) (r.y + y) != p.pix n y then 1 else 0) := by
  unfold wrongIn
  rw [List.range_succ, List.map_append, List.sum_append]
  simp
theorem wrongs_succ (p : Pt) (r : Rg) (rows : List Str) (m : Nat) : wrongs p r rows (m + 1) = wrongs p r rows m + wrongIn p r rows m r.w.toNat := by
  unfold wrongs
  rw [List.range_succ, List.map_append, List.sum_append]
  simp
/-- the cost of a leaf -/
def leafCost (p : Pt) (r : Rg) (rows : List Str) : Int := p.cost + (wrongs p r rows r.h.toNat : Nat)
/-- a leaf's own data -/
structure Leaf (p : Pt) : Prop where
  ns : p.isStrip = false
  im : p.isPlain = false → Img p.rows
theorem Leaf.d {p : Pt} (h : Leaf p) : (∃ n l c b, p = .plain n l c b) ∨ ∃ n l c rows, p = .shape n l c rows := by
  cases p with
  | plain n l c b => exact .inl ⟨_, _, _, _, rfl⟩
  | shape n l c rows => exact .inr ⟨_, _, _, _, rfl⟩
  | strip => exact absurd h.ns (by simp [Pt.isStrip])
end SR

/-! Lop: loops by description. -/
namespace SR
open PySem PySem.Spec PyProof.Rows L2
/-- targets -/
theorem g_pair {K : PySem.W.Frag} {L : Addr → Prop} {H : Hp} {v : V} {σ : L2.St} {t u : TG} {d e : PyData} {Q : L2.St → Hp → Prop} (h : DT K L H v (.tuple [d, e])) (q : ∀ x y, DT K L H x d → DT K L H y e → t x σ H fun σ1 H1 => u y σ1 H1 Q) : gTup K 2 (gCons t (gCons u gNil)) v σ H Q := by
  obtain ⟨a, xs, rfl, hs, r⟩ := h.tupI
  obtain ⟨x, y, rfl, r1, r2⟩ := r.two
  refine ⟨a, _, rfl, hs, rfl, x, _, rfl, ?_⟩
  have h1 := q x y r1 r2
  exact (show (t x σ H fun σ1 H1 => gCons u gNil [y] σ1 H1 Q) from by
    have e : (fun σ1 H1 => u y σ1 H1 Q) = fun σ1 H1 => u y σ1 H1 fun σ' H' => gNil [] σ' H' Q := by
      funext σ1 H1
      have : (fun σ' H' => gNil [] σ' H' Q) = Q := by
        funext σ' H'
        exact propext ⟨fun z => z.2, fun z => ⟨rfl, z⟩⟩
      rw [this]
    rw [e] at h1
    have e2 : (fun σ1 H1 => gCons u gNil [y] σ1 H1 Q) = fun σ1 H1 => u y σ1 H1 fun σ' H' => gNil [] σ' H' Q := by
      funext σ1 H1
      refine propext ⟨fun ⟨v, r, e, z⟩ => ?_, fun z => ⟨y, [], rfl, z⟩⟩
      cases e
      exact z
    rw [e2]
    exact h1)
section
variable {j : Nat} {C : Wd} (o : C.Ok) {H : Hp} {σ : L2.St} {te : TE} {tx : TA} {g : TG} {tb : TS} {nx bk ct : L2.St → Hp → Prop} {rt : VK}
include o
/-- for .. in range(n) -/
theorem s_for1 {n : Int} (ha : Ea C tx σ H [.int n]) (hn : n ≤ 1000000) (h0n : -1000000 ≤ n) (Pv : Nat → L2.St → Hp → Prop) (h0 : ∀ H', C.W H H' → Pv 0 σ H')
    (hs : ∀ i σ' H', i < n.toNat → Pv i σ' H' → tb ⟨Pv (i + 1), rt, nx, Pv (i + 1)⟩ (σ'.set j (some (.int i))) H') (hd : ∀ σ' H', Pv n.toNat σ' H' → nx σ' H') : tFor (iRng1 tx) (gName j) tb ⟨nx, rt, bk, ct⟩ σ H :=
  ha H (o.refl _) _ fun vs H1 w p => by
    obtain ⟨v, rfl, p1⟩ := p.one
    rw [p1.intI]
    refine ⟨n, rfl, by omega, by omega, for_range (lo := 0) (n := n.toNat) Pv (h0 H1 w) (fun i σ' H' hi pv => ?_) hd⟩
    rw [Int.zero_add]
    exact hs i σ' H' hi pv
/-- for .. in range(a, b) -/
theorem s_for2 {a b : Int} (ha : Ea C tx σ H [.int a, .int b]) (h1 : -1000000 ≤ a) (h2 : a ≤ 1000000) (h3 : -1000000 ≤ b) (h4 : b ≤ 1000000) (Pv : Nat → L2.St → Hp → Prop) (h0 : ∀ H', C.W H H' → Pv 0 σ H')
    (hs : ∀ (i : Nat) σ' H', (i : Int) < b - a → Pv i σ' H' → tb ⟨Pv (i + 1), rt, nx, Pv (i + 1)⟩ (σ'.set j (some (.int (a + i)))) H') (hd : ∀ σ' H', Pv (b - a).toNat σ' H' → nx σ' H') : tFor (iRng2 tx) (gName j) tb ⟨nx, rt, bk, ct⟩ σ H :=
  ha H (o.refl _) _ fun vs H1 w p => by
    obtain ⟨v, u, rfl, p1, p2⟩ := p.two
    rw [p1.intI, p2.intI]
    exact ⟨a, b, rfl, ⟨by omega, by omega, by omega, by omega⟩, for_range (lo := a) (n := (b - a).toNat) Pv (h0 H1 w) (fun i σ' H' hi pv => hs i σ' H' (by omega) pv) hd⟩
/-- for .. in a list that stands -/
theorem s_forL {ds : List PyData} (h : Ed C te σ H (.list ds)) (Pv : Nat → L2.St → Hp → Prop) (Wl : Hp → Hp → Prop) (hWl : ∀ {H1 H2 a xs}, Wl H1 H2 → ¬ C.L a → H1 a = some (.lst xs) → H2 a = some (.lst xs)) (hD : ∀ {H1 H2 v d}, Wl H1 H2 → Dw C H1 v d → Dw C H2 v d)
    (h0 : ∀ H1, C.W H H1 → ∀ H', Wl H1 H' → H' = H1 → Pv 0 σ H1) (hr : ∀ H1, Wl H1 H1)
    (hs : ∀ H1, C.W H H1 → ∀ i d v σ' H', ds[i]? = some d → Dw C H' v d → Wl H1 H' → Pv i σ' H' → g v σ' H' fun σ2 H2 => tb ⟨fun σ3 H3 => Wl H1 H3 ∧ Pv (i + 1) σ3 H3, rt, nx, fun σ3 H3 => Wl H1 H3 ∧ Pv (i + 1) σ3 H3⟩ σ2 H2)
    (hd : ∀ H1, C.W H H1 → ∀ σ' H', Wl H1 H' → Pv ds.length σ' H' → nx σ' H') : tFor (iList C.K te) g tb ⟨nx, rt, bk, ct⟩ σ H :=
  h H (o.refl _) _ fun v H1 w p => by
    obtain ⟨a, xs, rfl, n, e, r⟩ := p.lstI
    refine ⟨a, rfl, ⟨xs, SqL.of e⟩, for_list (K := C.K) (a := a) (xs := xs) (fun i σ' H' => Wl H1 H' ∧ Pv i σ' H') ⟨hr H1, h0 H1 w H1 (hr H1) rfl⟩ (fun i σ' H' _ ⟨wl, _⟩ => SqL.of (hWl wl n e)) (fun i x σ' H' hx ⟨wl, pv⟩ => ?_) (fun σ' H' ⟨wl, pv⟩ => ?_)⟩
    · obtain ⟨d, hd', rd⟩ := r.get' hx
      exact hs H1 w i d x σ' H' hd' (hD wl rd) wl pv
    · rw [r.length] at pv
      exact hd H1 w σ' H' wl pv
/-- for .. in a tuple -/
theorem s_forT {ds : List PyData} (h : Ed C te σ H (.tuple ds)) (Pv : Nat → L2.St → Hp → Prop) {M : Addr → Prop} (hM : ∀ a, M a → C.L a) (h0 : ∀ H1, C.W H H1 → Pv 0 σ H1)
    (hs : ∀ H1, C.W H H1 → ∀ i d v σ' H', ds[i]? = some d → Dw C H' v d → Kp M H1 H' → Pv i σ' H' → g v σ' H' fun σ2 H2 => tb ⟨fun σ3 H3 => Kp M H1 H3 ∧ Pv (i + 1) σ3 H3, rt, nx, fun σ3 H3 => Kp M H1 H3 ∧ Pv (i + 1) σ3 H3⟩ σ2 H2)
    (hd : ∀ H1, C.W H H1 → ∀ σ' H', Kp M H1 H' → Pv ds.length σ' H' → nx σ' H') : tFor (iTup C.K te) g tb ⟨nx, rt, bk, ct⟩ σ H :=
  h H (o.refl _) _ fun v H1 w p => by
    obtain ⟨a, xs, rfl, e, r⟩ := p.tupI
    refine ⟨a, rfl, ⟨xs, e⟩, for_tup (K := C.K) (a := a) (xs := xs) (fun i σ' H' => Kp M H1 H' ∧ Pv i σ' H') ⟨.refl M H1, h0 H1 w⟩ (fun i σ' H' _ ⟨wl, _⟩ => kp_sqT wl e) (fun i x σ' H' hx ⟨wl, pv⟩ => ?_) (fun σ' H' ⟨wl, pv⟩ => ?_)⟩
    · obtain ⟨d, hd', rd⟩ := r.get' hx
      exact hs H1 w i d x σ' H' hd' (DT.mono (C := Wv C.K C.L M) (wv C.K hM) wl rd) wl pv
    · rw [r.length] at pv
      exact hd H1 w σ' H' wl pv
/-- the same for a list, the step being a keep -/
theorem s_forLK {ds : List PyData} (h : Ed C te σ H (.list ds)) (Pv : Nat → L2.St → Hp → Prop) {M : Addr → Prop} (hM : ∀ a, M a → C.L a) (h0 : ∀ H1, C.W H H1 → Pv 0 σ H1)
    (hs : ∀ H1, C.W H H1 → ∀ i d v σ' H', ds[i]? = some d → Dw C H' v d → Kp M H1 H' → Pv i σ' H' → g v σ' H' fun σ2 H2 => tb ⟨fun σ3 H3 => Kp M H1 H3 ∧ Pv (i + 1) σ3 H3, rt, nx, fun σ3 H3 => Kp M H1 H3 ∧ Pv (i + 1) σ3 H3⟩ σ2 H2)
    (hd : ∀ H1, C.W H H1 → ∀ σ' H', Kp M H1 H' → Pv ds.length σ' H' → nx σ' H') : tFor (iList C.K te) g tb ⟨nx, rt, bk, ct⟩ σ H :=
  s_forL o h Pv (Kp M) (fun k n e => k.lst (fun z => n (hM _ z)) e) (fun k d => DT.mono (C := Wv C.K C.L M) (wv C.K hM) k d) (fun H1 w _ _ _ => h0 H1 w) (fun H1 => .refl M H1) hs hd
/-- over a list that stands, one name -/
theorem s_forN {ds : List PyData} (h : Ed C te σ H (.list ds)) (Pv : Nat → L2.St → Hp → Prop) {M : Addr → Prop} (hM : ∀ a, M a → C.L a) (h0 : ∀ H1, C.W H H1 → Pv 0 σ H1)
    (hs : ∀ H1, C.W H H1 → ∀ i d v σ' H', ds[i]? = some d → Dw C H' v d → Kp M H1 H' → Pv i σ' H' → tb ⟨fun σ3 H3 => Kp M H1 H3 ∧ Pv (i + 1) σ3 H3, rt, nx, fun σ3 H3 => Kp M H1 H3 ∧ Pv (i + 1) σ3 H3⟩ (σ'.set j (some v)) H')
    (hd : ∀ H1, C.W H H1 → ∀ σ' H', Kp M H1 H' → Pv ds.length σ' H' → nx σ' H') : tFor (iList C.K te) (gName j) tb ⟨nx, rt, bk, ct⟩ σ H := s_forLK o h Pv hM h0 hs hd
/-- .. a pair -/
theorem s_forP {ds : List PyData} {j' : Nat} (h : Ed C te σ H (.list ds)) (Pv : Nat → L2.St → Hp → Prop) {M : Addr → Prop} (hM : ∀ a, M a → C.L a) (h0 : ∀ H1, C.W H H1 → Pv 0 σ H1) (hp : ∀ d ∈ ds, ∃ e f, d = .tuple [e, f])
    (hs : ∀ H1, C.W H H1 → ∀ i d e v u σ' H', ds[i]? = some (.tuple [d, e]) → Dw C H' v d → Dw C H' u e → Kp M H1 H' → Pv i σ' H' → tb ⟨fun σ3 H3 => Kp M H1 H3 ∧ Pv (i + 1) σ3 H3, rt, nx, fun σ3 H3 => Kp M H1 H3 ∧ Pv (i + 1) σ3 H3⟩ ((σ'.set j (some v)).set j' (some u)) H')
    (hd : ∀ H1, C.W H H1 → ∀ σ' H', Kp M H1 H' → Pv ds.length σ' H' → nx σ' H') : tFor (iList C.K te) (gTup C.K 2 (gCons (gName j) (gCons (gName j') gNil))) tb ⟨nx, rt, bk, ct⟩ σ H :=
  s_forLK o h Pv hM h0 (fun H1 w i d v σ' H' e r k pv => by
    obtain ⟨d1, d2, rfl⟩ := hp d (List.mem_of_getElem? e)
    exact g_pair r fun x y r1 r2 => hs H1 w i d1 d2 x y σ' H' e r1 r2 k pv) hd
/-- over a tuple, one name -/
theorem s_forTN {ds : List PyData} (h : Ed C te σ H (.tuple ds)) (Pv : Nat → L2.St → Hp → Prop) {M : Addr → Prop} (hM : ∀ a, M a → C.L a) (h0 : ∀ H1, C.W H H1 → Pv 0 σ H1)
    (hs : ∀ H1, C.W H H1 → ∀ i d v σ' H', ds[i]? = some d → Dw C H' v d → Kp M H1 H' → Pv i σ' H' → tb ⟨fun σ3 H3 => Kp M H1 H3 ∧ Pv (i + 1) σ3 H3, rt, nx, fun σ3 H3 => Kp M H1 H3 ∧ Pv (i + 1) σ3 H3⟩ (σ'.set j (some v)) H')
    (hd : ∀ H1, C.W H H1 → ∀ σ' H', Kp M H1 H' → Pv ds.length σ' H' → nx σ' H') : tFor (iTup C.K te) (gName j) tb ⟨nx, rt, bk, ct⟩ σ H := s_forT o h Pv hM h0 hs hd
end
end SR

/-! Gen: all(test for x in ..), the test any expression, calls too. -/
namespace SR
open PySem PySem.Spec PyProof.Rows L2 GenW
section
variable {A : Around} {elt : Expr} {gs : List Comprehension} {scope : Scope} {pos : Pos} {it acc : Value} {env : Env}
theorem over_genL : A.over (.compLoop (.GeneratorExp elt gs scope pos) 0 it acc env) [] = A.deeper env := by
  obtain ⟨hd, d, fr, g, u⟩ := A
  simp [Around.over, Around.deeper, marksOver, frameCount, unitsOf, envsOf, guardsOf, pushEnvs, pushGuards, Code.envs, Code.env?, Code.isFrame, Code.guards, Code.isGuard, Code.weight, Code.frames, Code.isCreation, Code.isCaller, Code.cUnits]
theorem over_genS : A.over (.compStart (.GeneratorExp elt gs scope pos) 0 it acc env) [] = A.deeper env := by
  obtain ⟨hd, d, fr, g, u⟩ := A
  simp [Around.over, Around.deeper, marksOver, frameCount, unitsOf, envsOf, guardsOf, pushEnvs, pushGuards, Code.envs, Code.env?, Code.isFrame, Code.guards, Code.isGuard, Code.weight, Code.frames, Code.isCreation, Code.isCaller, Code.cUnits]
end
/-- the context of a generator's frame -/
abbrev Cxg (X : Cx) (s : Shared) (H : Hp) (cenv : Env) (fp : List Addr) (pn : List (Addr × Obj)) (A : Around) : Cx := { X with s_0 := s, H_0 := H, env := cenv, outer := X.stack, stack := cenv :: X.stack, ex := fp, fn := fun _ => false, pn := pn, A := A, xe := fun _ _ => False }
section
variable {X : Cx} {pins : List (Addr × Obj)} {σ : L2.St} {H : Hp} {s : Shared}
theorem gen_start {scope : Scope} {own : List (Str × Nat)} {fp : List Addr} {pn : List (Addr × Obj)} {A : Around} {code : Value} {s1 : Shared} {m : Str → Option Value} (I : Inv X pins σ H s) (ok : BlkOk X.N X.env.scope scope own) (hcell : ∀ y ∈ scope.names, y.2 ≠ .cell) (hN : X.N.Nodup)
    (hfp : ∀ b ∈ fp, FpOk X pins H b ∧ b < s.heap.objs.size) (hA : A.handled = none) (hAf : A.frames = some (genEnv scope (cloFrom X.env.cells scope.names []) s.heap.objs.size code builtinsNs X.env :: X.stack))
    (hn : s1.heap.Ns s.heap.objs.size m) (kp : ∀ b o, s.heap.get? b = some o → s1.heap.get? b = some o) (os : s1.os = s.os) (hb : AllBare s1.gens)
    (hpn : ∀ p ∈ pn, s1.heap.get? p.1 = some p.2 ∧ s.heap.objs.size < p.1 ∧ ∀ v, p.2.data ≠ .cell v) :
    Inv (Cxg X s H (genEnv scope (cloFrom X.env.cells scope.names []) s.heap.objs.size code builtinsNs X.env) fp pn A) [] (wipe σ (own.map (·.2))) H s1 := by
  have hfree : ∀ y ∈ scope.names, y.2 = .free → ∃ c, X.env.cells.lookup y.1 = some c := fun y hy e => by
    rcases ok.free y hy e with k | k
    · exact I.ok.has _ (.inl k)
    · exact I.ok.has _ (.inr k)
  generalize hcenv : genEnv scope (cloFrom X.env.cells scope.names []) s.heap.objs.size code builtinsNs X.env = cenv at hAf ⊢
  have hL : cenv.locals = s.heap.objs.size := by rw [← hcenv]; rfl
  have hcl : cenv.cells = cloFrom X.env.cells scope.names [] := by rw [← hcenv]; rfl
  have hsc : cenv.scope = scope := by rw [← hcenv]; rfl
  have cm : ∀ {y c}, (y, c) ∈ cloFrom X.env.cells scope.names [] → X.env.cells.lookup y = some c ∧ c < s.heap.objs.size := fun {y c} hm => by
    rcases cloFrom_mem hm with hm | ⟨h1, rfl⟩
    · cases hm
    · obtain ⟨c, hc⟩ := hfree _ h1 rfl
      rw [hc]
      obtain ⟨w, z⟩ := I.cell _ _ hc
      exact ⟨rfl, z.lt⟩
  have mem : ∀ {y c}, cenv.cells.lookup y = some c → X.env.cells.lookup y = some c ∧ c < s.heap.objs.size := fun {y c} e => by
    rw [hcl] at e
    exact cm (PySem.mem_of_lookup e)
  have look : ∀ {y}, scope.names.lookup y = some .free → ∃ c, cenv.cells.lookup y = some c ∧ X.env.cells.lookup y = some c := fun {y} hl => by
    obtain ⟨c', e'⟩ := mem_lookup (cloFrom_has (cells := X.env.cells) (acc := []) (PySem.mem_of_lookup hl))
    rw [← hcl] at e'
    exact ⟨c', e', (mem e').1⟩
  have okB : (Cxg X s H cenv fp pn A).Ok := by
    refine ⟨I.ok.mod, by show cenv.scope.kind = _; rw [hsc]; exact ok.kind, by show cenv.globals = _; rw [← hcenv]; exact I.ok.glob, by show cenv.builtins = _; rw [← hcenv]; rfl, by show s.heap.objs.size ≤ cenv.locals; rw [hL]; exact Nat.le_refl _,
      fun y z c e1 e2 => I.ok.inj y z c (mem e1).1 (mem e2).1, fun y hy => ?_, fun y c z e => absurd z Bool.false_ne_true, fun _ => hA, hAf, .inr ⟨rfl, ?_⟩, fun b hb => ⟨?_, fun y c e z => ?_⟩, I.bs, Nat.le_trans I.ok.bsz I.sz, fun b o e hb => ?_, fun b hb z => ?_, I.stack, I.stkFree⟩
    · show ∃ c, cenv.cells.lookup y = some c
      have hy : scope.names.lookup y = some .cell ∨ scope.names.lookup y = some .free := by
        rw [← hsc]
        exact hy
      rcases hy with hy | hy
      · exact absurd rfl (hcell _ (PySem.mem_of_lookup hy))
      · obtain ⟨c, h1, _⟩ := look hy
        exact ⟨c, h1⟩
    · rw [← hcenv]
      rfl
    · show b ≠ cenv.locals
      rw [hL]; exact Nat.ne_of_lt (hfp b hb).2
    · exact (hfp b hb).1.2.2.2.2.1 y c (mem e).1 z
    · rcases (hfp b hb).1.2.2.2.1 with z | z
      · exact I.ok.noex b o e z
      · exact absurd (Nat.lt_of_lt_of_le (Heap.lt_size e) (Nat.le_trans I.ok.bsz z)) (Nat.lt_irrefl _)
    · rcases List.mem_cons.mp (I.stkSub b z) with z | z
      · exact (hfp b hb).1.2.1 z
      · exact (hfp b hb).1.2.2.1 z
  refine ⟨okB, os, hb, Un.kept kp, ⟨m, ?_, fun i y av e1 e2 e3 => ?_⟩, fun y c e => ?_, ?_, fun y c e => ?_, fun p hp => ?_, I.hok.kept kp, by rw [wipe_length]; exact I.len⟩
  · show Heap.Ns _ cenv.locals _
    rw [hL]
    exact hn
  · obtain ⟨e2, hne⟩ := wipe_some e2
    have e3 : Vis scope y := by rw [← hsc]; exact e3
    have hfr : scope.names.lookup y = some .free := by
      have no : ¬ (scope.names.lookup y = some .local ∨ scope.names.lookup y = some .cell) := fun hh => by
        have hh' : ∃ k, scope.names.lookup y = some k ∧ (k = .local ∨ k = .cell) := hh.elim (fun z => ⟨_, z, .inl rfl⟩) fun z => ⟨_, z, .inr rfl⟩
        obtain ⟨k', e, hk⟩ := hh'
        rcases ok.own _ (PySem.mem_of_lookup e) hk with e' | e'
        · obtain ⟨p, hp, hpy⟩ := List.mem_map.mp e'
          have e3 := ok.ix p hp
          have : p.1 = y := hpy
          rw [this] at e3
          exact hne (List.mem_map.mpr ⟨p, hp, nodup_ix hN e3 e1⟩)
        · exact e' (List.mem_of_getElem? e1)
      rcases e3 with e3 | e3 | e3
      · exact absurd (.inl e3) no
      · exact absurd (.inr e3) no
      · exact e3
    obtain ⟨m', hn', hl⟩ := I.loc
    have hvis : Vis X.env.scope y := (ok.free _ (PySem.mem_of_lookup hfr) rfl).elim (fun k => .inr (.inl k)) (fun k => .inr (.inr k))
    obtain ⟨w, r, q⟩ := hl i y av e1 e2 hvis
    refine ⟨w, r, .inr ⟨.inr (by show cenv.scope.names.lookup y = _; rw [hsc]; exact hfr), ?_⟩⟩
    obtain ⟨c, h1, h2⟩ := look hfr
    rcases q with ⟨k, _⟩ | ⟨_, c', e', z⟩
    · have k : X.env.scope.names.lookup y = some .local := k
      rcases ok.free _ (PySem.mem_of_lookup hfr) rfl with k' | k' <;> rw [show X.env.scope.names.lookup y = _ from k'] at k <;> cases k
    · rw [h2] at e'; cases e'
      exact ⟨c, h1, z.keeps kp⟩
  · obtain ⟨w, z⟩ := I.cell y c (mem e).1
    exact ⟨w, z.keeps kp⟩
  · show H cenv.locals = none
    rw [hL]; exact I.hok.fresh (Nat.le_refl _)
  · exact I.freeC y c (mem e).1
  · have hp : p ∈ pn := by simpa using hp
    obtain ⟨h1, h2, h3⟩ := hpn p hp
    refine ⟨h1, I.hok.fresh (Nat.le_of_lt h2), by show p.1 ≠ cenv.locals; rw [hL]; exact Nat.ne_of_gt h2, fun z => ?_, h3⟩
    obtain ⟨_, o, ho, _⟩ := I.stack.mem z
    exact absurd (Nat.lt_trans (Heap.lt_size ho) h2) (Nat.lt_irrefl _)

/-- what all(..) reaches: the def's state again -/
def FinA (X : Cx) (pins : List (Addr × Obj)) (σ : L2.St) (Q : VK) (b : Bool) (s : Shared) : Prop := ∃ H', Inv X pins σ H' s ∧ Q (.bl b) H'
theorem FinA.kept {Q : VK} {b : Bool} {s s' : Shared} (h : FinA X pins σ Q b s) (os : s'.os = s.os) (hb : AllBare s'.gens) (k : ∀ b o, s.heap.get? b = some o → s'.heap.get? b = some o) : FinA X pins σ Q b s' := by
  obtain ⟨H', I, q⟩ := h
  exact ⟨H', I.call' (ch := []) os (Un.kept k) (I.hok.kept k) hb fun b z => by simp at z, q⟩
def YAll (X : Cx) (pins : List (Addr × Obj)) (σ : L2.St) (Q : VK) (a : Addr) (g : Nat) : Protocol := fun _ _ v s₁ kap => ∃ b, v = .bool b ∧ AllBare s₁.gens ∧ s₁.heap.NoLimit ∧ s₁.heap.IsGen a g ∧ (b = false → FinA X pins σ Q false s₁) ∧
  (b = true → ∀ s', s'.heap = s₁.heap → s'.os = s₁.os → AllBare s'.gens → kap (.send .none) s')
def RAll (X : Cx) (pins : List (Addr × Obj)) (σ : L2.St) (Q : VK) : GenEnd := fun _ _ r s₁ => (r = .ok .next ∧ AllBare s₁.gens ∧ FinA X pins σ Q true s₁)
/-- the loop of all over such a generator -/
theorem all_loop {Q : VK} {a : Addr} {g : Nat} {A : Around} {R : Result → Shared → Prop} (hh : A.handled = none) (hd : A.depth < recursionLimit) (hR : ∀ b s', FinA X pins σ Q b s' → R (.ok (.ret (.bool b))) s') :
    ∀ (n : Nat) (s : Shared), s.heap.IsGen a g → s.heap.NoLimit → (∃ gs, s.gens[g]? = some gs ∧ gs.Goes (model X.prog X.w) A.in1.in1 (RAll X pins σ Q) (YAll X pins σ Q a g) n (.send .none) (s.setGen g .running)) →
      codeAny (model X.prog X.w) A (.builtin "all.loop" ⟨[.ref a], []⟩) R s := by
  intro n
  induction n with
  | zero =>
    intro s hg hl ⟨gs, hgs, hgo⟩
    refine codeAny_builtin F.entry_all_loop ?_
    rw [Around.under_plainId F.plain_all_loop _]
    show wpAny _ A.in1 (pyNext (.ref a) >>= _) _ _ s
    refine wpAny_bind (wpAny_pyNext_genexpQ (A := A.in1) (P := fun n s₀ s₁ => AllBare s₁.gens ∧ FinA X pins σ Q true s₁) hh hl hd hg hgs hgo (fun v s₁ gs' hbare hv => ?_) (fun s₁ hp h' hk => ?_))
    · obtain ⟨b, rfl, hb1, _, _, hf, ht⟩ := hv
      cases b with
      | true => exact (ht rfl s₁ rfl rfl hb1).elim
      | false =>
        refine wpAny_bind (wpAny_holding (wpAny_truthy_bool ?_))
        refine wpAny_bind (wpAny_letGo ?_)
        simp only [Bool.false_eq_true, if_false]
        refine wpAny_bind (wpAny_rule (wpAny_pure ?_))
        exact hR _ _ ((hf rfl).kept rfl (allBare_setGen hb1 hbare) fun _ _ e => e)
    · refine wpAny_bind (wpAny_rule (wpAny_pure ?_))
      exact hR _ _ (hp.2.kept rfl (allBare_setGen hp.1 rfl) hk)
  | succ n ih =>
    intro s hg hl ⟨gs, hgs, hgo⟩
    have hgl : g < s.gens.size := (Array.getElem?_eq_some_iff.mp hgs).1
    refine codeAny_builtin F.entry_all_loop ?_
    rw [Around.under_plainId F.plain_all_loop _]
    show wpAny _ A.in1 (pyNext (.ref a) >>= _) _ _ s
    refine wpAny_bind (wpAny_gsz (n := g + 1) hgl (wpAny_pyNext_genexpQ (A := A.in1) (P := fun n s₀ s₁ => AllBare s₁.gens ∧ FinA X pins σ Q true s₁) hh hl hd hg hgs hgo (fun v s₁ gs' hbare hv => ?_) (fun s₁ hp h' hk => ?_)))
    · intro hsz
      obtain ⟨b, rfl, hb1, hl1, hg1, hf, ht⟩ := hv
      have hsz1 : g < s₁.gens.size := by
        have q : (s₁.setGen g gs').gens.size = s₁.gens.size := setGen_size _ _ _
        have hsz' : g + 1 ≤ (s₁.setGen g gs').gens.size := hsz
        omega
      refine wpAny_bind (wpAny_holding (wpAny_truthy_bool ?_))
      refine wpAny_bind (wpAny_letGo ?_)
      cases b with
      | true =>
        simp only [if_true]
        refine wpAny_pure ⟨plainId_quiet F.plain_all_loop _, ?_⟩
        exact ih _ hg1 hl1 ⟨gs', setGen_at hsz1, ht rfl _ rfl rfl (allBare_setGen (s := s₁.setGen g gs') (allBare_setGen hb1 hbare) rfl)⟩
      | false =>
        simp only [Bool.false_eq_true, if_false]
        refine wpAny_bind (wpAny_rule (wpAny_pure ?_))
        exact hR _ _ ((hf rfl).kept rfl (allBare_setGen hb1 hbare) fun _ _ e => e)
    · intro hsz
      refine wpAny_bind (wpAny_rule (wpAny_pure ?_))
      exact hR _ _ (hp.2.kept rfl (allBare_setGen hp.1 rfl) hk)
theorem call_all_gen {Q : VK} {a : Addr} {g n : Nat} {A : Around} {Q' : Value → Shared → Prop} {E : Value → Shared → Prop} (hh : A.handled = none) (hd : A.depth < recursionLimit) (hR : ∀ b s', FinA X pins σ Q b s' → Q' (.bool b) s')
    (hg : s.heap.IsGen a g) (hl : s.heap.NoLimit) (h : ∃ gs, s.gens[g]? = some gs ∧ gs.Goes (model X.prog X.w) A.in1.in1 (RAll X pins σ Q) (YAll X pins σ Q a g) n (.send .none) (s.setGen g .running)) :
    wpAny (model X.prog X.w) A (call (.builtin "all") [.ref a]) Q' E s := by
  refine call_function_tree F.kind_all F.plain_all F.entry_all (F.args_all1 _) ?_
  unfold Builtin.«all»
  refine wpAny_bind (m := oneArg "all" _) (wpAny_pure ?_)
  refine wpAny_bind (wpAny_pyIter_gen hg ?_)
  refine wpAny_pure ⟨plainId_quiet F.plain_all_loop _, ?_⟩
  exact all_loop hh hd (R := fun r s' => match r with | .ok (.ret v) => Q' v s' | .ok _ => False | .error e => E e s') (fun b s' h => hR b s' h) n s hg hl h

/-- the turns of the generator -/
def TurnsA (σ : L2.St) (vs : List Nat) (J : It) (g : TG) (te : TE) (Q : VK) (W : Nat → Nat → Hp → Prop) : Prop := ∀ i m H, W i m H →
  (J.stop i H ∧ Q (.bl true) H) ∨ (J.go i H ∧ ∃ Nx : Hp → Prop, (∀ H', Nx H' → ∃ m', m' < m ∧ W (i + 1) m' H') ∧ ∀ x H', J.yld i H x H' → g x (wipe σ vs) H' fun σ2 H2 => wipe σ2 vs = wipe σ vs ∧
    te σ2 H2 fun y H4 => ∃ b, y = .bl b ∧ (b = false → Q (.bl false) H4) ∧ (b = true → Nx H4))
theorem seg_allLoop {Q : VK} {elt tg iter : Expr} {scope : Scope} {own : List (Str × Nat)} {gpos : Pos} {cenv : Env} {fp : List Addr} {it a : Addr} {gn : Nat} {go : Obj} {A : Around} {tn : Nat → Heap → Prop} {J : It} {g : TG} {te : TE} {W : Nat → Nat → Hp → Prop}
    (hc : X.calm = true) (hco : cenv.scope.isCoroutine = false) (I0 : Inv X pins σ H s) (hap : a ∉ fp) (T : Turn X.prog X.w X.K tg J fp it tn) (hfp : ∀ b ∈ fp, FpOk X pins H b) (hgo : go.cls = .type "generator" ∧ (∃ nm qn, go.data = .fields #[.int gn 0, nm, qn]) ∧ go.slots = #[])
    (pg : PG (Cxg X s H cenv fp [(a, go)] (A.deeper cenv)) tg g) (pe : PE (Cxg X s H cenv fp [(a, go)] (A.deeper cenv)) elt te) (turn : TurnsA σ (own.map (·.2)) J g te Q W) :
    ∀ (n i m : Nat) (s5 s₀ : Shared) (H5 : Hp), m < n → Inv (Cxg X s H cenv fp [(a, go)] (A.deeper cenv)) [] (wipe σ (own.map (·.2))) H5 s5 → tn i s5.heap → (∀ b ∈ fp, H5 b = none) → W i m H5 →
      Seg (model X.prog X.w) A (RAll X pins σ Q) (YAll X pins σ Q a gn) n s₀ (.compLoop (.GeneratorExp elt [⟨tg, iter, [], 0⟩] scope gpos) 0 (.ref it) .none cenv)
        ((model X.prog X.w).den (.compLoop (.GeneratorExp elt [⟨tg, iter, [], 0⟩] scope gpos) 0 (.ref it) .none cenv)) [] s5 := by
  have stat : ∀ {σ' : L2.St} {H' : Hp} {s' : Shared}, Inv (Cxg X s H cenv fp [(a, go)] (A.deeper cenv)) [] σ' H' s' → (∀ b ∈ fp, H' b = none) → ∀ b ∈ fp, FpOk (Cxg X s H cenv fp [(a, go)] (A.deeper cenv)) [] H' b := fun {σ' H' s'} I' hn b hb =>
    ⟨hn b hb, (I'.ok.exf b hb).1, I'.ok.exfs b hb, .inl hb, fun x c e => (I'.ok.exf b hb).2 x c e, fun p hp z => hap (by
      have hp : p ∈ [(a, go)] := by simpa using hp
      rw [List.mem_singleton.mp hp] at z
      rw [show a = b from z]
      exact hb)⟩
  have fin : ∀ {b : Bool} {ip : List (Addr × Obj)} {σ' : L2.St} {H' : Hp} {s' : Shared}, Inv (Cxg X s H cenv fp [(a, go)] (A.deeper cenv)) ip σ' H' s' → Q (.bl b) H' → FinA X pins σ Q b s' := fun {b ip σ' H' s'} I' q =>
    ⟨H', I0.call' (ch := fp) I'.os I'.base I'.hok I'.bare fun b hb => ⟨(hfp b hb).2.2.2.1, (hfp b hb).2.1, (hfp b hb).2.2.2.2.1, (hfp b hb).2.2.2.2.2⟩, q⟩
  have isg : ∀ {ip : List (Addr × Obj)} {σ' : L2.St} {H' : Hp} {s' : Shared}, Inv (Cxg X s H cenv fp [(a, go)] (A.deeper cenv)) ip σ' H' s' → s'.heap.IsGen a gn := fun {ip σ' H' s'} I' => by
    obtain ⟨h1, ⟨nm, qn, h2⟩, h3⟩ := hgo
    exact ⟨go, nm, qn, (I'.pin (a, go) (List.mem_append_left _ (List.mem_singleton.mpr rfl))).1, h1, h2, h3⟩
  intro n
  induction n with
  | zero => intro i m s5 s₀ H5 hm; omega
  | succ n ih =>
    intro i m s5 s₀ H5 hm I5 st5 n5 w5
    show Seg _ A _ _ _ s₀ _ ((compTurn (.GeneratorExp elt [⟨tg, iter, [], 0⟩] scope gpos) 0 (.ref it) .none cenv).onRaise (leaving cenv)) [] s5
    rw [compTurn_gen, Sem.onRaise_eq_wrap]
    refine seg_bind_wrap (wpAny_standAt ?_)
    rcases turn i m H5 w5 with ⟨stop, qq⟩ | ⟨go', Nx, hNx, step⟩
    · have td := T.done (Cxg X s H cenv fp [(a, go)] (A.deeper cenv)) rfl rfl rfl hc i [] s5 _ H5 (fun _ _ => False) I5 (stat I5 n5) st5 stop
      refine seg_bind_wrap ?_
      rw [over_genL]
      refine thnF td fun r s6 ⟨hr, I6⟩ => ?_
      subst hr
      exact seg_end (.ok .next) ⟨rfl, I6.bare, fin I6 qq⟩
    · have ti := T.item (Cxg X s H cenv fp [(a, go)] (A.deeper cenv)) rfl rfl rfl hc i [] s5 _ H5 (fun _ _ => False) I5 (stat I5 n5) st5 go'
      refine seg_bind_wrap ?_
      rw [over_genL]
      refine thnF ti fun r s6 ⟨u, hr, h6⟩ => ?_
      subst hr
      refine seg_bind_wrap ?_
      rw [over_genL]
      refine thnF h6 fun _ s7 ⟨x, H7, I7, r7, y7, st7, n7⟩ => ?_
      have I7' := I7.pinned (stat I7 n7) (T.obj _ _ st7)
      refine seg_bind_wrap ?_
      rw [over_genL]
      refine thnF (pg.run _ s7 _ H7 x u _ I7' r7 (step x H7 y7)) fun _ s8 ⟨σ8, H8, I8, hw8, q8⟩ => ?_
      refine seg_bind_wrap ?_
      simp only [List.forIn_nil]
      refine wpAny_pure ?_
      simp only [if_true]
      have hy : ∀ v, yieldOut cenv v = yieldValue v := fun v => by simp only [yieldOut, hco, Bool.false_eq_true, if_false]
      simp only [hy]
      rw [Sem.bind_eq_wrap', Sem.bind_eq_wrap', Sem.wrap_wrap, Sem.wrap_wrap]
      refine seg_wrap ?_
      rw [over_genL]
      refine thnF (pe.run _ s8 σ8 H8 _ I8 q8) fun z s10 ⟨yv, H10, I10, r10, b, hyv, hf, ht⟩ => ?_
      subst hyv
      have ez : z = .bool b := r10
      subst ez
      refine seg_at (seg_yield rfl rfl rfl ⟨b, rfl, I10.bare, I10.nolimit, isg I10, fun e => fin I10 (by rw [e] at hf; exact hf rfl), fun e s'' hh os hb => ?_⟩)
      have I11 : Inv (Cxg X s H cenv fp [(a, go)] (A.deeper cenv)) ([] ++ pinsAt fp s7.heap) σ8 H10 s'' := I10.call' (ch := []) os (by rw [hh]; exact Un.refl) (by rw [hh]; exact I10.hok) hb fun b z => by simp at z
      obtain ⟨m', hm', w'⟩ := hNx H10 (ht e)
      have pin' : ∀ b ∈ fp, ∀ o, s7.heap.get? b = some o → s''.heap.get? b = some o ∧ H10 b = none := fun b hb o e =>
        let z := I11.pin (b, o) (List.mem_append_right _ (List.mem_append_right _ (mem_pinsAt hb e)))
        ⟨z.1, z.2.1⟩
      have hl : (wipe σ (own.map (·.2))).length = σ8.length := by rw [← hw8, wipe_length]
      refine seg_again rfl (ih (i + 1) m' s'' s'' H10 (by omega) ((I11.unpinned (pins := [])).weak hl fun j v e => ?_) (T.keep _ _ _ st7 fun b hb o e => (pin' b hb o e).1) (fun b hb => ?_) w')
      · rw [← hw8] at e
        exact (wipe_some e).1
      · obtain ⟨o, e, _⟩ := T.obj _ _ st7 b hb
        exact (pin' b hb o e).2
theorem seg_allStart {Q : VK} {elt tg iter : Expr} {scope : Scope} {gpos : Pos} {cenv : Env} {it a : Addr} {gn n : Nat} {A : Around} {s₀ s5 : Shared} (hself : ∀ (A : Around) (Q : Value → Shared → Prop) (E : Value → Shared → Prop), Q (.ref it) s5 → wpAny (model X.prog X.w) A (pyIter (.ref it)) Q E s5)
    (loop : Seg (model X.prog X.w) A (RAll X pins σ Q) (YAll X pins σ Q a gn) n s₀ (.compLoop (.GeneratorExp elt [⟨tg, iter, [], 0⟩] scope gpos) 0 (.ref it) .none cenv)
        ((model X.prog X.w).den (.compLoop (.GeneratorExp elt [⟨tg, iter, [], 0⟩] scope gpos) 0 (.ref it) .none cenv)) [] s5) :
    Seg (model X.prog X.w) A (RAll X pins σ Q) (YAll X pins σ Q a gn) n s₀ (.compStart (.GeneratorExp elt [⟨tg, iter, [], 0⟩] scope gpos) 0 (.ref it) .none cenv)
        ((model X.prog X.w).den (.compStart (.GeneratorExp elt [⟨tg, iter, [], 0⟩] scope gpos) 0 (.ref it) .none cenv)) [] s5 := by
  show Seg _ A _ _ _ s₀ _ ((compStart (.GeneratorExp elt [⟨tg, iter, [], 0⟩] scope gpos) 0 (.ref it) .none cenv).onRaise (leaving cenv)) [] s5
  unfold compStart
  rw [Sem.onRaise_eq_wrap]
  show Seg _ A _ _ _ s₀ _ ((ask >>= _).wrap _ _ _ _) [] s5
  refine seg_bind_wrap (wpAny_askSetting ?_)
  split
  · exact seg_again rfl loop
  · first
      | exact seg_bind_wrap (wpAny_rule (seg_bind_wrap (wpAny_standAt (seg_bind_wrap (hself _ _ _ (seg_again rfl loop))))))
      | (refine seg_bind_wrap (wpAny_rule ?_); show Seg _ A _ _ _ s₀ _ ((standAt iter.pos >>= _).wrap _ _ _ _) [] s5; exact seg_bind_wrap (wpAny_standAt (seg_bind_wrap (hself _ _ _ (seg_again rfl loop)))))

/-- all(test for target in iter): first the table of code may grow, then the turns -/
def tAllG (P : Addr) (wi : TI) (g : TG) (te : TE) (vs : List Nat) : TE := fun σ H Q => wi σ H fun J H1 => GxR.TabG H1 P ∧ ∀ H2, GxR.Tabbed P H1 H2 → ∃ W : Nat → Nat → Hp → Prop, (∃ m, W 0 m H2) ∧ TurnsA σ vs J g te Q W
theorem pe_allG {c P : Addr} {elt iter tg : Expr} {p pos gpos : Pos} {scope : Scope} {own : List (Str × Nat)} {wi : TI} {g : TG} {te : TE} {k : Nat} (hr : Room (k + 1) X.A) (hg : Gl X "all") (hm : X.mg "all" = none) (TB : GxR.TabB X.base X.mg c P) (hcode : X.env.code = .ref c)
    (hc : X.calm = true) (hN : X.N.Nodup) (ok : BlkOk X.N X.env.scope scope own) (hco : scope.isCoroutine = false) (hcell : (scope.names.all fun y => decide (y.2 ≠ .cell)) = true) (h0 : scope.names.lookup (".0" : Str) = some NameKind.local) (hi : PI X tg iter wi)
    (hgt : ∀ (s : Shared) (H : Hp) (cl : List (Str × Addr)) (C : Addr) (code : Value) (fp : List Addr) (pn : List (Addr × Obj)) (A : Around), PG (Cxg X s H (genEnv scope cl C code builtinsNs X.env) fp pn A) tg g)
    (hel : ∀ (s : Shared) (H : Hp) (cl : List (Str × Addr)) (C : Addr) (code : Value) (fp : List Addr) (pn : List (Addr × Obj)) (A : Around), Room k A → PE (Cxg X s H (genEnv scope cl C code builtinsNs X.env) fp pn A) elt te)
    (hs : ∀ v, genFold iter X.env v = pure v := by intro _; rfl)
    (he : starEach [.GeneratorExp elt [⟨tg, iter, [], 0⟩] scope gpos] X.env = (false, eval (.GeneratorExp elt [⟨tg, iter, [], 0⟩] scope gpos) X.env) :: starEach [] X.env := by rfl) :
    PE X (.Call (.Name "all" p) [.GeneratorExp elt [⟨tg, iter, [], 0⟩] scope gpos] [] pos) (tAllG P wi g te (own.map (·.2))) := by
  refine ⟨fun pins s σ H Q I h => ?_⟩
  refine wpAny_Call_Name_kw (ld_blt I hg hm boot_all ?_)
  refine PyProof.Rows.callWith_builtin1 ?_ he (by rfl)
  rw [he]
  show wpAny _ _ (spliced ((false, eval (.GeneratorExp elt [⟨tg, iter, [], 0⟩] scope gpos) X.env) :: backTo pos (starEach [] X.env))) _ _ s
  refine Calls.spliced_cons ?_
  have hcell' : ∀ y ∈ scope.names, y.2 ≠ .cell := fun y hy => of_decide_eq_true (List.all_eq_true.mp hcell y hy)
  have hfree : ∀ y ∈ scope.names, y.2 = .free → ∃ c, X.env.cells.lookup y.1 = some c := fun y hy e => by
    rcases ok.free y hy e with k | k
    · exact I.ok.has _ (.inl k)
    · exact I.ok.has _ (.inr k)
  refine wpAny_GeneratorExp_make hco (closure_ok hfree) hcell' h0 ok.kind (by have := hr.dp; omega) ?_ hs
  refine thn (hi.run pins s σ H _ I h) fun xv s1 hx => thn hx fun itv s2 h2 => ?_
  obtain ⟨it, fp, tn, J, H2, rfl, I2, T, st2, f2, ⟨ps, hP, ht⟩, q⟩ := h2
  refine ⟨I2.nolimit, ?_⟩
  have hPs : s2.heap.get? P = some { cls := .none, data := .fields ps } := I2.hok P _ hP
  have hPlt : P < s2.heap.objs.size := Heap.lt_size hPs
  have cd : PySem.W.CodeHd s2.heap c P := TB.code.keeps I2.bk
  have cont : ∀ (code : Value) (h3 : Heap) (tk : Nat) (ps' : Array Value), Heap.ExtBut P s2.heap h3 → s2.heap.objs.size ≤ h3.objs.size → h3.get? P = some { cls := .none, data := .fields ps' } → (∃ more, ps' = ps ++ more) → TriplesOk ps'.toList →
      wpAny (model X.prog X.w) X.A (builtinsFor X.env.globals X.env.builtins) (fun bi s₄ =>
        ∀ h', h'.Ns s₄.heap.objs.size (fun y => if y = ".0" then some (.ref it) else none) → Heap.SameBut s₄.heap.objs.size (s₄.heap.push { cls := .type "frame", data := .dict #[] }) h' →
          wpAny (model X.prog X.w) X.A (spliced (backTo pos (starEach [] X.env))) (fun vs s₂ => wpAny (model X.prog X.w) X.A (call (.builtin "all") (.ref h'.objs.size :: vs)) (EP X pins σ Q) X.xe s₂) X.xe { s₄ with
            gens := s₄.gens.push (.fresh (.compStart (.GeneratorExp elt [⟨tg, iter, [], 0⟩] scope gpos) 0 (.ref it) .none (genEnv scope (cloFrom X.env.cells scope.names []) s₄.heap.objs.size code bi X.env))),
            toks := s₄.toks + 1 + 1 + 1,
            heap := h'.push { cls := .type "generator", data := .fields #[.int s₄.gens.size 0, .str "<genexpr>" (s₄.toks + 1), .str (X.env.qual ++ "<genexpr>") (s₄.toks + 1 + 1)] } }) X.xe { s2 with heap := h3, toks := tk } := by
    intro code h3 tk ps' hx hsz hP3 hmore ht3
    obtain ⟨bm, ob, e1, e2, e3, e4, e5, e6, e7, e8⟩ := TB.bm
    have keep3 : ∀ b u, b ≠ P → s2.heap.get? b = some u → h3.get? b = some u := fun b u hb e => hx b u hb e
    refine wpAny_builtinsFor (m := X.mg) (by rw [I2.ok.glob]; exact (I2.mod.glob.keeps I2.bk).extBut hx TB.gP) e1 e2 (keep3 _ _ e4 (I2.bk _ _ e5)) e6 e7 e8 ?_
    obtain ⟨more, em⟩ := hmore
    have I4 : Inv X pins σ (upd H2 P (.tbl (ps ++ more))) { s2 with heap := h3, toks := tk } :=
      GxR.inv_tab (more := more) (h' := h3) (g' := s2.gens) (d' := s2.drawn) (t' := tk) I2 hP keep3 (by rw [← em]; exact hP3) I2.bare
    generalize hH4 : upd H2 P (.tbl (ps ++ more)) = H4 at I4
    have tab4 : GxR.Tabbed P H2 H4 := by
      rw [← hH4]
      exact ⟨⟨ps ++ more, upd_same, by rw [← em]; exact ht3⟩, fun b hb => upd_ne hb⟩
    obtain ⟨W, ⟨m0, w0⟩, turn⟩ := q H4 tab4
    generalize hs4 : ({ s2 with heap := h3, toks := tk } : Shared) = s4 at I4 ⊢
    have h34 : s4.heap = h3 := by rw [← hs4]
    intro h' hn' hs'
    have hsz' : h'.objs.size = s4.heap.objs.size + 1 := by rw [hs'.1, Heap.size_push]
    have keep' : ∀ b o, s4.heap.get? b = some o → h'.get? b = some o := fun b o e => hs'.extBut b o (Nat.ne_of_lt (Heap.lt_size e)) (Heap.get?_push_of_some _ e)
    generalize hgo : ({ cls := .type "generator", data := .fields #[.int s4.gens.size 0, .str "<genexpr>" (s4.toks + 1), .str (X.env.qual ++ "<genexpr>") (s4.toks + 1 + 1)] } : Obj) = go
    have hgo' : go.cls = .type "generator" ∧ (∃ nm qn, go.data = .fields #[.int s4.gens.size 0, nm, qn]) ∧ go.slots = #[] := by rw [← hgo]; exact ⟨rfl, ⟨_, _, rfl⟩, rfl⟩
    have hgp : (h'.push go).get? h'.objs.size = some go := by rw [← hgo]; exact Heap.get?_push_size _ rfl
    have keep5 : ∀ b o, s4.heap.get? b = some o → (h'.push go).get? b = some o := fun b o e => Heap.get?_push_of_some _ (keep' b o e)
    have lim5 : (h'.push go).NoLimit := I4.nolimit.keeps keep5
    have nfpP : ∀ b ∈ fp, b ≠ P := fun b hb z => by
      have := (f2 b hb).1
      rw [z, hP] at this
      cases this
    have f4 : ∀ b ∈ fp, FpOk X pins H4 b ∧ b < s4.heap.objs.size := fun b hb => by
      obtain ⟨o, e, _⟩ := T.obj _ _ st2 b hb
      refine ⟨⟨?_, (f2 b hb).2⟩, by rw [h34]; exact Nat.lt_of_lt_of_le (Heap.lt_size e) hsz⟩
      rw [tab4.2 b (nfpP b hb)]
      exact (f2 b hb).1
    have st4 : tn 0 s4.heap := T.keep _ _ _ st2 fun b hb o e => by rw [h34]; exact keep3 b o (nfpP b hb) e
    refine Calls.spliced_nil ?_
    have hap : h'.objs.size ∉ fp := fun z => absurd (f4 _ z).2 (by rw [hsz']; exact Nat.not_lt.mpr (Nat.le_succ _))
    have hAh : X.A.handled = none := hr.hd
    refine call_all_gen (n := m0 + 1) (X := X) (pins := pins) (σ := σ) (Q := Q) (g := s4.gens.size) (Q' := EP X pins σ Q) hAh (by have := hr.dp; omega) (fun b s' hf => ?_) ?_ lim5 ⟨_, Array.getElem?_push_size .., rfl, ?_⟩
    · obtain ⟨H', I', q'⟩ := hf
      exact ⟨.bl b, H', I', rfl, q'⟩
    · obtain ⟨h1, ⟨nm, qn, h2⟩, h3⟩ := hgo'
      exact ⟨go, nm, qn, hgp, h1, h2, h3⟩
    · refine seg_allStart (fun A Q E hq => T.self A 0 _ _ _ (T.keep _ _ _ st4 fun b hb o e => keep5 b o e) hq) ?_
      refine seg_allLoop (H := H4) (s := s4) (own := own) (fp := fp) (go := go) (J := J) (W := W) (tn := tn) hc hco I4 hap T (fun b hb => (f4 b hb).1) hgo' (hgt _ _ _ _ _ _ _ _) (hel _ _ _ _ _ _ _ _ ?_) turn (m0 + 1) 0 m0 _ _ H4 (Nat.lt_succ_self _) ?_ (T.keep _ _ _ st4 fun b hb o e => keep5 b o e) (fun b hb => (f4 b hb).1.1) w0
      · refine ⟨hAh, ?_, ?_⟩
        · have := hr.dp
          show X.A.depth + 1 + 3 * k + 5 < _
          omega
        · have := hr.un
          show X.A.units + 1 + 1 + 3 + 16 * k + 200 < _
          omega
      · refine gen_start I4 ok hcell' hN f4 hAh (Around.frames_deeper I4.ok.frames) (hn'.push _) keep5 rfl ?_ fun p hp => ?_
        · exact allBare_setGen (AllBare.push I4.bare rfl) rfl
        · rw [List.mem_singleton.mp hp]
          refine ⟨hgp, by show s4.heap.objs.size < h'.objs.size; rw [hsz']; exact Nat.lt_succ_self _, fun v z => ?_⟩
          obtain ⟨_, ⟨nm, qn, h2⟩, _⟩ := hgo'
          rw [h2] at z
          cases z
  cases hf : codeAmong gpos ps.toList with
  | none =>
    refine wpAny_genexprCodeX hcode (cd.code hPs ht) (cd.tab hPs) hf fun c' h' tk hx hge hlt hco' _ htab' _ => ?_
    obtain ⟨o1, vs, f1, tf, fl, tg, inF, tx, tt, op, _, _, _, _, _, _, _, _, _, htr, _⟩ := hco'
    exact cont _ h' tk _ hx (Nat.le_trans hge (Nat.le_of_lt hlt)) htab'.2 ⟨_, rfl⟩ htr
  | some cv =>
    refine wpAny_genexprCode_hit hcode (cd.code hPs ht) hf ?_
    exact cont cv s2.heap s2.toks ps (Heap.ExtBut.refl _ _) (Nat.le_refl _) hPs ⟨#[], by simp⟩ ht
end
end SR

/-! Rul: rules the kit lacks: in over a tuple of data, enumerate over a tuple. -/
namespace PySem
open Sem (wp)
set_option maxHeartbeats 4000000 in
theorem meets_enumerate_newB1 {v : Value} {o : Obj} {H : Heap → Prop} (B : Begins v o H) :
    Meets (Builtin.«enumerate.__new__» ⟨[.type "enumerate", v], []⟩) (fun _ R s => H s.heap ∧
      R (.ok (.ret (.ref (s.heap.push o).objs.size))) { s with heap := (s.heap.push o).push { cls := .type "enumerate", data := .fields #[.none, .bool false, .ref s.heap.objs.size, rawInt 0, .none, .none] } }) :=
  .of_wp fun prog w A R s h => by
    obtain ⟨hp, g, d, tk, os⟩ := s; obtain ⟨h1, h⟩ := h
    have hsub := sub_enumerate
    have q1 : ∀ {A' : Around} {E : Value → Shared → Prop} {Q : Value → Shared → Prop}, Q (.ref hp.objs.size) ⟨hp.push o, g, d, tk, os⟩ → wpAny (model prog w) A' (pyIter v) Q E ⟨hp, g, d, tk, os⟩ :=
      fun q => B.iter prog w _ _ ⟨hp, g, d, tk, os⟩ _ h1 q
    wp_walk using q1
    refine wpAny_stack_any fun st => wpAny_pure ?_
    split
    · rename_i c _ _ _ _ _
      cases (c == Value.type "enumerate")
      · wp_walk using q1
        exact ⟨_, rfl, h⟩
      · wp_walk using q1
        exact ⟨_, rfl, h⟩
    · wp_walk using q1
      exact ⟨_, rfl, h⟩
section
variable {prog : Program} {w : World} {A : Around} {E : Value → Shared → Prop} {s : Shared}
theorem enum_begins1 {v : Value} {o : Obj} {H : Heap → Prop} {Q : Value → Shared → Prop} (B : Begins v o H) (h1 : H s.heap)
    (h : ∀ h', IsEnum h' (s.heap.objs.size + 1) s.heap.objs.size 0 .none → h'.get? s.heap.objs.size = some o → h'.objs.size = s.heap.objs.size + 2 →
      (∀ b o, s.heap.get? b = some o → h'.get? b = some o) → Q (.ref (s.heap.objs.size + 1)) { s with heap := h' }) :
    wpAny (model prog w) A (call (.type "enumerate") [v]) Q E s := by
  refine callType_new F.called_enumerate (by decide) (F.typeCall_enumerate_1 _) (F.newCall_enumerate_1 _) (fun obj => F.args_object_init_2 obj _) F.entry_enumerate_new
    (meets_enumerate_newB1 B) ⟨h1, ?_⟩
  have hz : (s.heap.push o).objs.size = s.heap.objs.size + 1 := Heap.size_push ..
  show _ ∧ _
  rw [hz]
  have he : IsEnum ((s.heap.push o).push { cls := .type "enumerate", data := .fields #[.none, .bool false, .ref s.heap.objs.size, rawInt 0, .none, .none] }) (s.heap.objs.size + 1) s.heap.objs.size 0 .none := by
    have := Heap.get?_push_size (s.heap.push o) (o := { cls := .type "enumerate", data := .fields #[.none, .bool false, .ref s.heap.objs.size, rawInt 0, .none, .none] }) rfl
    rw [hz] at this; exact this
  refine ⟨⟨_, he, rfl⟩, h _ he (Heap.get?_push_of_some _ (Heap.get?_push_size _ B.free)) (by rw [Heap.size_push, hz]) fun b o x => Heap.get?_push_of_some _ (Heap.get?_push_of_some _ x)⟩
end
end PySem
namespace SR
open PySem PySem.Spec PyProof.Rows L2
section
variable {X : Cx}
/-- x in t, t a tuple of data -/
def rInT (K : PySem.W.Frag) : R2 := fun x y H Q => ∃ d ds, Dp K H x d ∧ Dp K H y (.tuple ds) ∧ SeqAt.shaped d = true ∧ SeqAt.shaped (.tuple ds) = true ∧ Q (.bl (ds.any fun z => PyData.eqv z d)) H
theorem op_inT (hu : X.A.units + 65 < cLine) : OpR X (compareOp .In) (rInT X.K) := by
  intro pins s σ H x y v u Q I rx ry h
  obtain ⟨d, ds, hd, he, sd, se, q⟩ := h
  obtain ⟨as, r1⟩ := Dp.reads I d x v hd rx
  obtain ⟨bs, r2⟩ := Dp.reads I (.tuple ds) y u he ry
  exact SeqAt.in_tuple_reads r2 r1 (SeqAt.canLay_of_shaped se) (SeqAt.canLay_of_shaped sd) (room_in_shaped sd hu) ⟨.bl _, H, I, rfl, q⟩
/-- the tuple at a, each item in a new pair -/
def Itet (K : PySem.W.Frag) (a : Addr) : It :=
  ⟨fun i H => ∃ (xs : List V) (x : V), SqT K H a xs ∧ xs[i]? = some x, fun i H v H' => ∃ T x, v = .ref T ∧ H T = none ∧ H' = upd H T (.tup [.int (i : Nat), x]) ∧ ∀ xs, SqT K H a xs → xs[i]? = some x, fun i H => ∃ xs : List V, SqT K H a xs ∧ xs.length ≤ i⟩
theorem turn_enumT {P : Program} {w : World} {K : PySem.W.Frag} {elts : List Expr} {kk : Nat} {tpos : Pos} (a e it : Addr) :
    Turn P w K (.Tuple elts kk tpos) (Itet K a) [e, it] e (fun i h => (∃ old, IsEnum h e it ((i : Nat) : Int) old) ∧ h.IsTupleIter it a i ∧ e ≠ it ∧ a ≠ it) where
  mem := by simp
  obj := fun i h st b hb => by
    obtain ⟨⟨old, he⟩, ⟨o, ho, hc, hd⟩, _⟩ := st
    have e' : b = e ∨ b = it := by simpa using hb
    rcases e' with z | z
    · rw [z]; exact ⟨_, he, fun v q => nomatch q⟩
    · rw [z]; exact ⟨o, ho, fun v q => by rw [hd] at q; cases q⟩
  keep := fun i h h' st k => let ⟨⟨old, he⟩, hi, hne⟩ := st; ⟨⟨old, k e (by simp) _ he⟩, hi.at fun o q => k it (by simp) o q, hne⟩
  item := by
    intro X hP hw hK hc i pins s σ H E I hf st hg
    subst hP hw hK
    obtain ⟨⟨old, he⟩, hit, hne, hai⟩ := st
    obtain ⟨xs, x, hq, hx⟩ := hg
    obtain ⟨its, rv, p, hz⟩ := I.tuple hq
    obtain ⟨u, hu, ru⟩ := rv.get hx
    have hel : e < s.heap.objs.size := Heap.lt_size he
    have hil : it < s.heap.objs.size := by obtain ⟨_, q, _⟩ := hit; exact Heap.lt_size q
    have pT : s.heap.IsTuple a its.toArray := p
    have hea : e ≠ a := fun z => by
      obtain ⟨o, ho, hc', _⟩ := pT
      have he' : s.heap.get? e = some _ := he
      rw [z, ho] at he'
      cases he'
      simp at hc'
    have D := Draws.tuple (prog := X.prog) (w := X.w) (A := X.A.in1) (I.ok.hd hc) it a hai its.toArray
    refine wpAny_pyNext_enum_itemC D he ⟨hit, pT⟩ (by have := (List.getElem?_eq_some_iff.mp hu).1; simpa using this) hne (by simp [hne, hea]) fun x' h' tk hP ho hit' hT hsz hk => ?_
    have hxe : x' = u := by
      have hu' : its.toArray[i]? = some u := by simpa using hu
      rw [hu'] at hP
      exact (Option.some.inj hP).symm
    subst hxe
    refine ⟨_, rfl, wpAny_letOwnedTupleGo_enum (s := { s with heap := h', toks := tk + 1 }) ho fun h'' he' sb => ?_⟩
    have hT2 : h''.get? s.heap.objs.size = some { cls := .type "tuple", data := .seq #[.int i tk, x'] } := (sb.2 _ (Nat.ne_of_gt hel)).trans hT
    have new : ObjOk X.prog X.w (upd H s.heap.objs.size (.tup [.int (i : Nat), x])) h'' s.heap.objs.size (.tup [.int (i : Nat), x]) :=
      ⟨by show 2 ≤ sizeLine; decide, [.int i tk, x'], .cons ⟨_, rfl⟩ (.cons ru .nil), ⟨_, hT2, rfl, _, rfl⟩⟩
    have I1 : Inv X pins σ (upd H s.heap.objs.size (.tup [.int (i : Nat), x])) { s with heap := h'', toks := tk + 1 } :=
      I.turnedNew (ch := [e, it]) (fun b ob hb q => (sb.2 b (fun z => hb (by simp [z]))).trans (hk b ob (fun z => hb (by simp [z])) (fun z => hb (by simp [z])) q)) hf (Nat.le_refl _) new
    refine ⟨.ref s.heap.objs.size, _, I1, rfl, ⟨_, x, rfl, I.hok.fresh (Nat.le_refl _), rfl, fun ys hy => by rw [I.tuple_inj hy hq]; exact hx⟩, ⟨⟨x', ?_⟩, hit'.1.at fun o q => (sb.2 it (Ne.symm hne)).trans q, hne, hai⟩, fun b hb => ?_⟩
    · have e1 : ((i + 1 : Nat) : Int) = (i : Int) + 1 := by omega
      rw [e1]; exact he'
    · have hb' : b < s.heap.objs.size := by
        have e' : b = e ∨ b = it := by simpa using hb
        rcases e' with z | z
        · rw [z]; exact hel
        · rw [z]; exact hil
      rw [upd_ne (Nat.ne_of_lt hb')]
      exact (hf b hb).1
  done := by
    intro X hP hw hK hc i pins s σ H E I hf st hg
    subst hP hw hK
    obtain ⟨⟨old, he⟩, hit, hne, hai⟩ := st
    obtain ⟨xs, hq, hx⟩ := hg
    obtain ⟨its, rv, p, hz⟩ := I.tuple hq
    obtain ⟨f0, f1, f2, f3, f4, f5⟩ := hf it (by simp)
    have hl := rv.length
    have pT : s.heap.IsTuple a its.toArray := p
    have hT : s.TypeIs (.ref e) "enumerate" := ⟨_, he, rfl⟩
    unfold pyNext
    refine wpAny_bind (wpAny_attempt (wpAny_callSpecial?_slot (name := Str.ofString "__next__") hT F.slot_enumerate_next
      (wpAny_call_entry F.slot_enumerate_next hT F.entry_enumerate_next ?_ (F.args_enumerate_next_1 _))))
    show wpAny _ _ (field (.ref e) 2 >>= _) _ _ s
    refine wpAny_bind (wpAny_field he rfl (x := .ref it) rfl ?_)
    refine wpAny_bind (wpAny_nextOf_tuple_end (I.ok.hd hc) hit pT (by simp; omega) fun h' ex hx' hex => ?_)
    obtain ⟨o', ho', hc'⟩ := hex
    refine wpAny_bind (wpAny_isInstance (T := "StopIteration") (b := true) ⟨o', ho', hc'⟩ isSubtype_stop ?_)
    exact wpAny_pure ⟨rfl, I.turned (t' := s.toks) (fun b o hb q => hx' b o hb q) f0 f1 f3 f4 f5⟩
  self := fun A i s Q E st h => let ⟨⟨_, he⟩, _⟩ := st; wpAny_pyIter_enum he h
def iEnumT (K : PySem.W.Frag) (ta : TA) : TI := fun σ H R => ta σ H fun vs H1 => ∃ a xs, vs = [.ref a] ∧ SqT K H1 a xs ∧ R (Itet K a) H1
theorem pi_enumT {e : Expr} {ta : TA} {p pos tpos : Pos} {elts : List Expr} {kk : Nat} (hg : Gl X "enumerate") (hm : X.mg "enumerate" = none) (ha : PA X [e] ta) (hs : starEach [e] X.env = [(false, eval e X.env)] := by rfl) :
    PI X (.Tuple elts kk tpos) (.Call (.Name "enumerate" p) [e] [] pos) (iEnumT X.K ta) := by
  refine ⟨fun pins s σ H R I h => ?_⟩
  refine Call_ (ld_blt I hg hm boot_enumerate (PyProof.Rows.callWith_type1 (thn (ha.run pos pins s σ H _ I h) fun us s1 ⟨vs, H1, I1, r1, q1⟩ => ?_) hs rfl))
  obtain ⟨a, xs, ex, hq, q⟩ := q1
  subst ex
  cases r1 with
  | cons r rr =>
    cases rr
    cases r
    obtain ⟨its, rv, p', hz⟩ := I1.tuple hq
    have pT : s1.heap.IsTuple a its.toArray := p'
    have hal : a < s1.heap.objs.size := by obtain ⟨_, q, _⟩ := pT; exact Heap.lt_size q
    refine enum_begins1 (begins_tuple a its.toArray) pT fun h' he hit hsz hk => wpAny_pyIter_enum he ?_
    have I2 : Inv X pins σ H1 { s1 with heap := h' } := I1.kept (t' := s1.toks) hk
    refine ⟨s1.heap.objs.size + 1, [s1.heap.objs.size + 1, s1.heap.objs.size], _, _, H1, rfl, I2, turn_enumT a (s1.heap.objs.size + 1) s1.heap.objs.size, ⟨⟨.none, he⟩, ⟨_, hit, rfl, rfl⟩, Nat.succ_ne_self _, Nat.ne_of_lt hal⟩, fun b hb => ?_, q⟩
    have e' : b = s1.heap.objs.size + 1 ∨ b = s1.heap.objs.size := by simpa using hb
    have hle : s1.heap.objs.size ≤ b := by
      rcases e' with z | z
      · rw [z]; exact Nat.le_add_right _ _
      · rw [z]; exact Nat.le_refl _
    exact I1.fpOk hle (I1.hok.fresh hle)
end

/-! ### described: in, enumerate, all -/
section
variable {C : Wd} (o : C.Ok) {H H1 : Hp} {σ : L2.St} {te ta tb : TE} {tx : TA} {d e f : PyData} {v : V}
include o
theorem e_inT {ds : List PyData} (sd : SeqAt.shaped d = true) (sl : SeqAt.shaped (.tuple ds) = true) (ha : Ed C ta σ H d) (hb : Ed C tb σ H (.tuple ds)) : Ed C (tOp (rInT C.K) ta tb) σ H (.bool (ds.any fun z => PyData.eqv z d)) :=
  e_op o ha hb fun x y H1 _ p p' Q q => ⟨d, ds, p.dp, p'.dp, sd, sl, q _ H1 (o.refl _) (.bl _)⟩
theorem e_inL {ds : List PyData} (sd : SeqAt.shaped d = true) (sl : SeqAt.shaped (.list ds) = true) (ha : Ed C ta σ H d) (hb : Ed C tb σ H (.list ds)) : Ed C (tOp (rInD C.K) ta tb) σ H (.bool (ds.any fun z => PyData.eqv z d)) :=
  e_op o ha hb fun x y H1 _ p p' Q q => ⟨d, ds, p.dp, p'.dp, sd, sl, q _ H1 (o.refl _) (.bl _)⟩
theorem e_notInL {ds : List PyData} (sd : SeqAt.shaped d = true) (sl : SeqAt.shaped (.list ds) = true) (ha : Ed C ta σ H d) (hb : Ed C tb σ H (.list ds)) : Ed C (tOp (rNotInD C.K) ta tb) σ H (.bool (!ds.any fun z => PyData.eqv z d)) :=
  e_op o ha hb fun x y H1 _ p p' Q q => ⟨d, ds, p.dp, p'.dp, sd, sl, q _ H1 (o.refl _) (.bl _)⟩
omit o in
theorem Kp.tabbed {P : Addr} {H H' : Hp} (h : GxR.TabG H P) (t : GxR.Tabbed P H H') : Kp No H H' := by
  obtain ⟨ps, e, _⟩ := h
  have ne : ∀ a u, H a = some u → (∀ qs, u ≠ .tbl qs) → H' a = H a := fun a u q n => t.2 a fun z => by
    rw [z, e] at q
    cases q
    exact n _ rfl
  refine ⟨fun a u q _ n => (ne a u q n).trans q, fun P' g => ?_, fun a u q => ?_, fun a xs q => (ne a _ q (fun _ z => by cases z)).trans q, fun a ob u q => (ne a _ q (fun _ z => by cases z)).trans q⟩
  · by_cases hp : P' = P
    · rw [hp]; exact t.1
    · obtain ⟨ps', e', tr⟩ := g
      exact ⟨ps', (t.2 _ hp).trans e', tr⟩
  · by_cases hp : a = P
    · obtain ⟨ps', e', _⟩ := t.1
      exact ⟨_, by rw [hp]; exact e'⟩
    · exact ⟨u, (t.2 _ hp).trans q⟩
/-- all over a tuple -/
theorem e_allT {ds : List PyData} {P : Addr} {j : Nat} {vs : List Nat} {g : Nat → Bool} (hP : GxR.TabG H P) (h : Ed C te σ H (.tuple ds)) (hw : ∀ v : V, wipe ((wipe σ vs).set j (some v)) vs = wipe σ vs)
    (hs : ∀ i d v H', ds[i]? = some d → C.W H H' → Dw C H' v d → Ed C tb ((wipe σ vs).set j (some v)) H' (.bool (g i))) :
    Ed C (tAllG P (iTup C.K te) (gName j) tb vs) σ H (.bool ((List.range ds.length).all g)) := fun H1 w Q q =>
  h H1 w _ fun v H2 w2 p => by
    obtain ⟨a, xs, rfl, e, r⟩ := p.tupI
    refine ⟨a, rfl, ⟨xs, e⟩, (o.kp w2).tab P ((o.kp w).tab P hP), fun H3 t3 => ?_⟩
    have w3 : C.W H2 H3 := o.of0 (Kp.tabbed ((o.kp w2).tab P ((o.kp w).tab P hP)) t3)
    have hl := r.length
    refine ⟨fun i m H' => m = ds.length - i ∧ i ≤ ds.length ∧ C.W H2 H' ∧ (List.range i).all g = true, ⟨_, rfl, Nat.zero_le _, w3, rfl⟩, ?_⟩
    rintro i m H4 ⟨rfl, hi, w4, hall⟩
    have e4 := o.sqT w4 e
    by_cases hlt : i < ds.length
    · refine .inr ⟨⟨xs, xs[i]'(by omega), e4, List.getElem?_eq_getElem _⟩, fun H' => C.W H2 H' ∧ (List.range (i + 1)).all g = true, fun H' ⟨k1, k2⟩ => ⟨ds.length - (i + 1), by omega, rfl, hlt, k1, k2⟩, fun x H5 hy => ?_⟩
      obtain ⟨rfl, hx⟩ := hy
      have hx' := hx xs e4
      obtain ⟨d', hd', rd⟩ := r.get' hx'
      refine ⟨hw x, ?_⟩
      refine hs i d' x H5 hd' (o.trans (o.trans w w2) w4) (DT.mono o w4 rd) H5 (o.refl _) _ fun y H6 w6 p6 => ⟨g i, p6.blI, fun hf => ?_, fun ht => ⟨o.trans w4 w6, ?_⟩⟩
      · refine q _ H6 (o.trans w2 (o.trans w4 w6)) ?_
        have : (List.range ds.length).all g = false := by
          rw [Bool.eq_false_iff]
          intro z
          have := List.all_eq_true.mp z i (List.mem_range.mpr hlt)
          rw [hf] at this
          cases this
        rw [this]
        exact .bl _
      · rw [List.range_succ, List.all_append, hall, Bool.true_and]
        simp [ht]
    · have hi' : i = ds.length := by omega
      subst hi'
      refine .inl ⟨⟨xs, e4, by omega⟩, q _ H4 (o.trans w2 w4) ?_⟩
      rw [hall]
      exact .bl _
/-- all over a list -/
theorem e_allL {ds : List PyData} {P : Addr} {j : Nat} {vs : List Nat} {g : Nat → Bool} (hP : GxR.TabG H P) (h : Ed C te σ H (.list ds)) (hw : ∀ v : V, wipe ((wipe σ vs).set j (some v)) vs = wipe σ vs)
    (hs : ∀ i d v H', ds[i]? = some d → C.W H H' → Dw C H' v d → Ed C tb ((wipe σ vs).set j (some v)) H' (.bool (g i))) :
    Ed C (tAllG P (iList C.K te) (gName j) tb vs) σ H (.bool ((List.range ds.length).all g)) := fun H1 w Q q =>
  h H1 w _ fun v H2 w2 p => by
    obtain ⟨a, xs, rfl, n, e, r⟩ := p.lstI
    refine ⟨a, rfl, ⟨xs, SqL.of e⟩, (o.kp w2).tab P ((o.kp w).tab P hP), fun H3 t3 => ?_⟩
    have w3 : C.W H2 H3 := o.of0 (Kp.tabbed ((o.kp w2).tab P ((o.kp w).tab P hP)) t3)
    have hl := r.length
    refine ⟨fun i m H' => m = ds.length - i ∧ i ≤ ds.length ∧ C.W H2 H' ∧ (List.range i).all g = true, ⟨_, rfl, Nat.zero_le _, w3, rfl⟩, ?_⟩
    rintro i m H4 ⟨rfl, hi, w4, hall⟩
    have e4 : SqL C.K H4 a xs := SqL.of (o.lst w4 n e)
    by_cases hlt : i < ds.length
    · refine .inr ⟨⟨xs, xs[i]'(by omega), e4, List.getElem?_eq_getElem _⟩, fun H' => C.W H2 H' ∧ (List.range (i + 1)).all g = true, fun H' ⟨k1, k2⟩ => ⟨ds.length - (i + 1), by omega, rfl, hlt, k1, k2⟩, fun x H5 hy => ?_⟩
      obtain ⟨rfl, hx⟩ := hy
      have hx' := hx xs e4
      obtain ⟨d', hd', rd⟩ := r.get' hx'
      refine ⟨hw x, ?_⟩
      refine hs i d' x H5 hd' (o.trans (o.trans w w2) w4) (DT.mono o w4 rd) H5 (o.refl _) _ fun y H6 w6 p6 => ⟨g i, p6.blI, fun hf => ?_, fun ht => ⟨o.trans w4 w6, ?_⟩⟩
      · refine q _ H6 (o.trans w2 (o.trans w4 w6)) ?_
        have : (List.range ds.length).all g = false := by
          rw [Bool.eq_false_iff]
          intro z
          have := List.all_eq_true.mp z i (List.mem_range.mpr hlt)
          rw [hf] at this
          cases this
        rw [this]
        exact .bl _
      · rw [List.range_succ, List.all_append, hall, Bool.true_and]
        simp [ht]
    · have hi' : i = ds.length := by omega
      subst hi'
      refine .inl ⟨⟨xs, e4, by omega⟩, q _ H4 (o.trans w2 w4) ?_⟩
      rw [hall]
      exact .bl _
/-- for i, x in enumerate(tuple) -/
theorem s_forE {ds : List PyData} {j j' : Nat} {t : TS} {nx bk ct : L2.St → Hp → Prop} {rt : VK} (h : Ea C tx σ H [.tuple ds]) (Pv : Nat → L2.St → Hp → Prop) {M : Addr → Prop} (hM : ∀ a, M a → C.L a) (h0 : ∀ H1, C.W H H1 → Pv 0 σ H1)
    (hs : ∀ H1, C.W H H1 → ∀ i d v σ' H0 H', ds[i]? = some d → Dw C H' v d → Kp M H1 H0 → Kp No H0 H' → Pv i σ' H0 → t ⟨fun σ3 H3 => Kp M H1 H3 ∧ Pv (i + 1) σ3 H3, rt, nx, fun σ3 H3 => Kp M H1 H3 ∧ Pv (i + 1) σ3 H3⟩ ((σ'.set j (some (.int (i : Nat)))).set j' (some v)) H')
    (hd : ∀ H1, C.W H H1 → ∀ σ' H', Kp M H1 H' → Pv ds.length σ' H' → nx σ' H') : tFor (iEnumT C.K tx) (gTup C.K 2 (gCons (gName j) (gCons (gName j') gNil))) t ⟨nx, rt, bk, ct⟩ σ H :=
  h H (o.refl _) _ fun vs H1 w p => by
    obtain ⟨v, rfl, p1⟩ := p.one
    obtain ⟨a, xs, rfl, e, r⟩ := p1.tupI
    have hl := r.length
    refine ⟨a, xs, rfl, e, fun i m σ' H' => m = ds.length - i ∧ i ≤ ds.length ∧ Kp M H1 H' ∧ Pv i σ' H', ⟨_, rfl, Nat.zero_le _, .refl M H1, h0 H1 w⟩, ?_⟩
    rintro i m σ' H4 ⟨rfl, hi, w4, pv⟩
    have e4 := kp_sqT w4 e
    by_cases hlt : i < ds.length
    · refine .inr ⟨⟨xs, xs[i]'(by omega), e4, List.getElem?_eq_getElem _⟩, fun σ3 H3 => Kp M H1 H3 ∧ Pv (i + 1) σ3 H3, fun σ3 H3 ⟨k1, k2⟩ => ⟨ds.length - (i + 1), by omega, rfl, hlt, k1, k2⟩, fun x H5 hy => ?_⟩
      obtain ⟨T, y, rfl, hT, rfl, hx⟩ := hy
      have hx' := hx xs e4
      obtain ⟨d', hd', rd⟩ := r.get' hx'
      have w5 : Kp No H4 (upd H4 T (.tup [.int (i : Nat), y])) := Kp.new hT
      have rd' : Dw C (upd H4 T (.tup [.int (i : Nat), y])) y d' := DT.mono (C := Wv C.K C.L M) (wv C.K hM) (w4.trans (w5.mono fun _ z => z.elim)) rd
      refine ⟨T, _, rfl, SqT.of upd_same, rfl, .int (i : Nat), [y], rfl, y, [], rfl, rfl, ?_⟩
      exact hs H1 w i d' y σ' H4 _ hd' rd' w4 w5 pv
    · have hi' : i = ds.length := by omega
      subst hi'
      exact .inl ⟨⟨xs, e4, by omega⟩, hd H1 w σ' H4 w4 pv⟩
end
/-! ### regions as data -/
theorem eqv_rg (a b : Rg) : PyData.eqv a.d b.d = decide (a = b) := by
  cases a; cases b
  simp only [Rg.d, PyData.eqv, PyData.eqvAll, Rg.mk.injEq, Bool.and_true]
  rw [Bool.eq_iff_iff]
  simp
theorem any_rg (rs : List Rg) (r : Rg) : (rs.map Rg.d).any (fun z => PyData.eqv z r.d) = rs.any fun z => decide (z = r) := by
  rw [List.any_map]
  congr 1
  funext z
  exact eqv_rg z r
theorem shaped_rg (r : Rg) : SeqAt.shaped r.d = true := rfl
theorem lay_rgs : ∀ rs : List Rg, PyData.canLayAll0 (rs.map Rg.d) = true
  | [] => rfl
  | r :: rs => by
    show (r.d.canLay0 && PyData.canLayAll0 (rs.map Rg.d)) = true
    rw [lay_rgs rs]
    rfl
theorem depth_rgs : ∀ rs : List Rg, PyData.depthAll (rs.map Rg.d) ≤ 1
  | [] => Nat.zero_le _
  | r :: rs => by
    show max r.d.depth (PyData.depthAll (rs.map Rg.d)) ≤ 1
    exact Nat.max_le.mpr ⟨Nat.le_refl _, depth_rgs rs⟩
theorem shaped_rgsT (rs : List Rg) : SeqAt.shaped (.tuple (rs.map Rg.d)) = true := by
  unfold SeqAt.shaped
  rw [Bool.and_eq_true, decide_eq_true_eq]
  refine ⟨lay_rgs rs, ?_⟩
  show PyData.depthAll (rs.map Rg.d) + 1 ≤ 64
  have := depth_rgs rs
  omega
theorem shaped_rgsL (rs : List Rg) : SeqAt.shaped (.list (rs.map Rg.d)) = true := by
  unfold SeqAt.shaped
  rw [Bool.and_eq_true, decide_eq_true_eq]
  refine ⟨lay_rgs rs, ?_⟩
  show PyData.depthAll (rs.map Rg.d) + 1 ≤ 64
  have := depth_rgs rs
  omega
/-! ### defs with tables of code -/
/-- the promise of a def some of whose callees grow tables -/
def spG (K : PySem.W.Frag) (Ts : List Addr) (R : List PyData → PyData → Prop) : Sp := fun vs H Q _ => ∃ (L : Addr → Prop) (ds : List PyData) (d : PyData), (∀ P ∈ Ts, GxR.TabG H P) ∧ (∀ a, L a → H a ≠ none) ∧ DTs K L H vs ds ∧ R ds d ∧ ∀ v H', Kp No H H' → DT K L H' v d → Q v H'
theorem e_callG {C : Wd} (o : C.Ok) {H : Hp} {σ : L2.St} {tx : TA} {d : PyData} {ds : List PyData} {Ts : List Addr} {R : List PyData → PyData → Prop} (hT : ∀ P ∈ Ts, GxR.TabG H P) (hL : ∀ a, C.L a → H a ≠ none) (h : Ea C tx σ H ds) (r : R ds d) :
    Ed C (tCall (spG C.K Ts R) [] E0 tx) σ H d := fun H1 w Q q =>
  h H1 w _ fun vs H2 w2 p => by
    refine ⟨C.L, ds, d, fun P hP => (o.kp (o.trans w w2)).tab P (hT P hP), o.un (o.trans w w2) hL, by rw [List.append_nil]; exact p, r, fun v H' k p' => q v H' (o.trans w2 (o.of0 k)) p'⟩
theorem spG_len {K : PySem.W.Frag} {Ts : List Addr} {R : List PyData → PyData → Prop} {n : Nat} (h : ∀ ds d, R ds d → ds.length = n) (vs : List V) (H : Hp) (Q : VK) (E : XK) (q : spG K Ts R vs H Q E) : vs.length = n := by
  obtain ⟨L, ds, d, _, _, hd, r, _⟩ := q
  rw [hd.length, h ds d r]
theorem Wd.Ok.tabs {C : Wd} (o : C.Ok) {H H' : Hp} {Ts : List Addr} (w : C.W H H') (h : ∀ P ∈ Ts, GxR.TabG H P) : ∀ P ∈ Ts, GxR.TabG H' P := fun P hP => (o.kp w).tab P (h P hP)
abbrev DefC (K : PySem.W.Frag) (mg : Str → Option Value) (x : Str) (st : Stmt) (c : Addr) : Prop := ∃ f fd, C8.Def K mg x st f fd ∧ fd.defaults = .none ∧ fd.code = .ref c
theorem cal_byC {P : Program} {w : World} {K : PySem.W.Frag} {mg : Str → Option Value} {base : Heap} {x : Str} {st : Stmt} {N ps : List Str} {k : Nat} {sp : Sp} {c : Addr} (F : DefC K mg x st c) (S : FnScope N ps (defScope st)) (ea : C8.fnArgs st = defArgs st) (eb : C8.fnBody st = defBody st) (es : C8.fnScope st = defScope st)
    (hb : ∀ (kV doc pm : Value) (an : Option Addr) (cdv ct : Value) (us : List Value), us.length = ps.length → bindArgs (PySem.W.fnOf x x (C8.fnArgs st) (C8.fnBody st) (C8.fnScope st) .none kV doc pm an cdv ct) ⟨us, []⟩ = pure (ps.zip us))
    (len : ∀ vs H Q E, sp vs H Q E → vs.length = ps.length)
    (hbody : ∀ (f : Addr) (A : Around) (outer : List Env) (s : Shared) (H : Hp) (vs : List V) (Q : VK) (E : XK), Room k (A.deeper (envOfC x (defScope st) s.heap.objs.size f (.ref c))) → sp vs H Q E →
      ∃ t, PSs (cxOf CX0 P w K mg base N x (defScope st) f (.ref c) A outer s H E).nox (defBody st) t ∧ t { nx := fun _ H' => Q .non H', rt := Q } (start N vs) H) : C8.Cal P w K mg base (k + 1) x sp [] := by
  obtain ⟨f, fd, F, df, hc⟩ := F
  have F2 := F.fn
  obtain ⟨oc, od, dV, kV, doc, pm, an, cdv, ct, osl, rfl, lk, hcd⟩ := F.fn.ex
  have e : cdv = .ref c := hc
  subst e
  refine ⟨f, _, ps, [], ?_, F.mgf, F.kp, F2.binds df hb, .nil⟩
  refine fn_of lk hcd (by rw [es]; exact S) len fun A outer s H vs Q E hr h => ?_
  rw [es, eb] at *
  obtain ⟨t, h1, h2⟩ := hbody f A outer s H vs Q E hr h
  exact ⟨t, h1.nox, h2⟩
theorem u65 {k : Nat} {A : Around} (r : Room k A) : A.units + 65 < cLine := by have := r.un; omega
end SR

/-! Loc: a def's own lists. -/
namespace SR
open PySem PySem.Spec PyProof.Rows L2
abbrev Lp (L : Addr → Prop) (p : Addr) : Addr → Prop := fun a => L a ∨ a = p
section
variable {K : PySem.W.Frag} {L M : Addr → Prop} {H H' H1 H2 : Hp} {σ : L2.St} {ρ : List Ds} {p : Addr} {v : V} {d : PyData} {vs : List V} {ds : List PyData} {te tl : TE} {tx : TA} {i j : Nat} {xs : List V}
theorem DT.step (hM : ∀ a, M a → L a) (k : Kp M H H') (h : DT K L H v d) : DT K L H' v d := DT.mono (C := Wv K L M) (wv K hM) k h
theorem DTs.step (hM : ∀ a, M a → L a) (k : Kp M H H') (h : DTs K L H vs ds) : DTs K L H' vs ds := DTs.mono (C := Wv K L M) (wv K hM) k h
theorem Sl.step (hM : ∀ a, M a → L a) (k : Kp M H H') (S : Sl (W0 K L) H σ ρ) : Sl (W0 K L) H' σ ρ := S.to fun _ _ h => DT.step hM k h
theorem Kp.un (k : Kp M H H') (hL : ∀ a, L a → H a ≠ none) : ∀ a, L a → H' a ≠ none := fun a l z => hL a l (k.free z)
/-- a new list of one's own: its address becomes loose -/
theorem Sl.own (S : Sl (W0 K L) H σ ρ) (hp : H p = none) (u : HO) : Sl (W0 K (Lp L p)) (upd H p u) σ ρ :=
  S.to fun _ _ h => DT.step (K := K) (L := Lp L p) (M := (· = p)) (fun a e => Or.inr e) (Kp.new hp) (DT.more (L := L) (fun a (e : Lp L p a) => e.elim Or.inl fun e => Or.inr (e ▸ hp)) h)
theorem DT.own (h : DT K L H v d) (hp : H p = none) (u : HO) : DT K (Lp L p) (upd H p u) v d :=
  DT.step (K := K) (L := Lp L p) (M := (· = p)) (fun a e => Or.inr e) (Kp.new hp) (DT.more (L := L) (fun a (e : Lp L p a) => e.elim Or.inl fun e => Or.inr (e ▸ hp)) h)
theorem own_un (hL : ∀ a, L a → H a ≠ none) (u : HO) : ∀ a, Lp L p a → upd H p u a ≠ none := fun a l z => by
  by_cases e : a = p
  · subst e
    rw [upd_same] at z
    cases z
  · rw [upd_ne e] at z
    exact l.elim (fun l => hL a l z) e
theorem Kp.loc (a : Kp No H H1) (n : H p = none) (b : Kp (· = p) H1 H2) : Kp No H H2 := a.hide b fun c e => .inl (e ▸ n)
/-- x = [] -/
theorem s_new {nx bk ct : L2.St → Hp → Prop} {rt : VK} (S : Sl (W0 K L) H σ ρ) (q : ∀ p, H p = none → Sl (W0 K (Lp L p)) (upd H p (.lst [])) (σ.set i (some (.ref p))) (ρ.set i (.va (.ref p))) → nx (σ.set i (some (.ref p))) (upd H p (.lst []))) :
    tAsg (tLst tNil) (gName i) ⟨nx, rt, bk, ct⟩ σ H := ⟨Nat.zero_le _, fun p hp => q p hp (S.own hp _).putV⟩
/-- xs.append(e) -/
theorem s_app {nx bk ct : L2.St → Hp → Prop} {rt : VK} {P : V → Hp → Prop} (S : Sl (W0 K L) H σ ρ) (hi : ρ[i]? = some (.va (.ref p))) (hp : H p = some (.lst xs)) (hz : xs.length < sizeLine) (he : EvP (W0 K L) te σ H P)
    (q : ∀ v H', Kp No H H' → P v H' → H' p = some (.lst xs) → nx σ (upd H' p (.lst (xs ++ [v])))) : tDrop (tBM K "list" rAppend (tVar i) (tCons te tNil)) ⟨nx, rt, bk, ct⟩ σ H := by
  refine ⟨_, S.va hi, .inl ⟨rfl, _, SqL.of hp⟩, he H (Kp.refl _ _) _ fun v H' k r => ?_⟩
  have hp' : H' p = some (.lst xs) := k.lst (fun z => z.elim) hp
  exact ⟨p, xs, v, rfl, rfl, hp', hz, q v H' k r hp'⟩
theorem Kp.app {p : Addr} {xs ys : List V} (k : Kp (· = p) H H') (hp : H' p = some (.lst xs)) : Kp (· = p) H (upd H' p (.lst ys)) := k.put (.inr rfl) (by rw [hp]; trivial)
/-- the list that a def has made, handed out -/
theorem DT.ownL {L' : Addr → Prop} (hs : ∀ a, L' a → L a) (n : ¬ L' p) (hp : H p = some (.lst xs)) (r : DTs K L H xs ds) : DT K L' H (.ref p) (.list ds) := .lst n hp (DTs.less hs r)
theorem not_loose (hL : ∀ a, L a → H a ≠ none) (n : H p = none) : ¬ L p := fun l => hL p l n
theorem DT.retL (hL : ∀ a, L a → H a ≠ none) (n : H p = none) (hp : H' p = some (.lst xs)) (r : DTs K (Lp L p) H' xs ds) : DT K L H' (.ref p) (.list ds) := .lst (not_loose hL n) hp (DTs.less (fun a z => Or.inl z) r)
/-- its items -/
theorem DTs.snoc (r : DTs K L H vs ds) (h : DT K L H v d) : DTs K L H (vs ++ [v]) (ds ++ [d]) := r.append (.cons h .nil)
/-- list(e) -/
theorem lt_size {n : Nat} (h : n ≤ 16000000) : n < sizeLine := by rw [sizeLine_eq]; omega
end
/-! ### moves -/
structure Mv where
  o : Int
  t : Int
  p : Int
  l : Int
  m : Int
  c : Int
  deriving DecidableEq
def Mv.d (m : Mv) : PyData := .tuple [.int m.o, .int m.t, .int m.p, .int m.l, .int m.m, .int m.c]
def Mv.at (m : Mv) : Nat → Int
  | 0 => m.o
  | 1 => m.t
  | 2 => m.p
  | 3 => m.l
  | 4 => m.m
  | _ => m.c
theorem e_mv {C : Wd} (o : C.Ok) {H : Hp} {σ : L2.St} {te : TE} {m : Mv} (h : Ed C te σ H m.d) (j : Nat) (hj : j < 6 := by decide) : Ed C (tOp (rIx C.K) te (tC (.int (j : Int)))) σ H (.int (m.at j)) :=
  e_ixT o (i := j) h (e_int o) (match j, hj with
    | 0, _ => rfl
    | 1, _ => rfl
    | 2, _ => rfl
    | 3, _ => rfl
    | 4, _ => rfl
    | 5, _ => rfl)
/-- the sizes of a move with so much left -/
def Mv.sizes (m : Mv) (left : Int) : List Int := (List.range (min m.m left + 1 - m.l).toNat).map fun k : Nat => m.l + (k : Int)
def lookI (st left : Int) (mi : Mv × Nat) : List (Nat × Int) := if mi.1.o = st then (mi.1.sizes left).map fun s => (mi.2, s) else []
def looks (ms : List Mv) (st left : Int) : List (Nat × Int) := ms.zipIdx.flatMap (lookI st left)
def pr (x : Nat × Int) : PyData := .tuple [.int (x.1 : Nat), .int x.2]
def mvs (ms : List Mv) : PyData := .tuple (ms.map Mv.d)
/-- moves as they are of a machine of ours -/
structure Mvs (ms : List Mv) : Prop where
  n : ms.length ≤ 1000
  g : ∀ m ∈ ms, 1 ≤ m.l ∧ m.l ≤ m.m ∧ m.m ≤ 4
  t : ∀ m ∈ ms, 0 ≤ m.t ∧ m.t < 5
theorem sizes_len {m : Mv} {left : Int} (h : 1 ≤ m.l) (h4 : m.m ≤ 4) : (m.sizes left).length ≤ 4 := by
  unfold Mv.sizes
  rw [List.length_map, List.length_range]
  omega
theorem lookI_len {st left : Int} {mi : Mv × Nat} (h : 1 ≤ mi.1.l) (h4 : mi.1.m ≤ 4) : (lookI st left mi).length ≤ 4 := by
  unfold lookI
  split
  · rw [List.length_map]
    exact sizes_len h h4
  · exact Nat.zero_le _
theorem flat_len {α β : Type} (f : α → List β) (n : Nat) : ∀ (l : List α), (∀ x ∈ l, (f x).length ≤ n) → (l.flatMap f).length ≤ n * l.length
  | [], _ => by simp
  | x :: r, h => by
    rw [List.flatMap_cons, List.length_append, List.length_cons, Nat.mul_add, Nat.mul_one]
    have h1 := h x List.mem_cons_self
    have h2 := flat_len f n r fun y hy => h y (List.mem_cons_of_mem _ hy)
    omega

/-! ### promises with a choice -/
def spN (K : PySem.W.Frag) (Ts : List Addr) (R : List PyData → (PyData → Prop) → Prop) : Sp := fun vs H Q _ => ∃ (L : Addr → Prop) (ds : List PyData) (Z : PyData → Prop), (∀ P ∈ Ts, GxR.TabG H P) ∧ (∀ a, L a → H a ≠ none) ∧ DTs K L H vs ds ∧ R ds Z ∧ ∀ v H' d, Z d → Kp No H H' → DT K L H' v d → Q v H'
theorem e_callN {C : Wd} (o : C.Ok) {H : Hp} {σ : L2.St} {tx : TA} {Z : PyData → Prop} {ds : List PyData} {Ts : List Addr} {R : List PyData → (PyData → Prop) → Prop} (hT : ∀ P ∈ Ts, GxR.TabG H P) (hL : ∀ a, C.L a → H a ≠ none) (h : Ea C tx σ H ds) (r : R ds Z) :
    EvP C (tCall (spN C.K Ts R) [] E0 tx) σ H fun v H' => ∃ d, Z d ∧ Dw C H' v d := fun H1 w Q q =>
  h H1 w _ fun vs H2 w2 p => by
    refine ⟨C.L, ds, Z, fun P hP => (o.kp (o.trans w w2)).tab P (hT P hP), o.un (o.trans w w2) hL, by rw [List.append_nil]; exact p, r, fun v H' d hz k p' => q v H' (o.trans w2 (o.of0 k)) ⟨d, hz, p'⟩⟩
theorem spN_len {K : PySem.W.Frag} {Ts : List Addr} {R : List PyData → (PyData → Prop) → Prop} {n : Nat} (h : ∀ ds Z, R ds Z → ds.length = n) (vs : List V) (H : Hp) (Q : VK) (E : XK) (q : spN K Ts R vs H Q E) : vs.length = n := by
  obtain ⟨L, ds, d, _, _, hd, r, _⟩ := q
  rw [hd.length, h ds d r]
abbrev noT : ∀ {H : Hp}, ∀ P ∈ ([] : List Addr), GxR.TabG H P := fun P hP => absurd hP (by simp)
/-- an item of a list that is tracked -/
theorem e_at {C : Wd} (o : C.Ok) {H : Hp} {σ : L2.St} {ta tb : TE} {p : Addr} {xs : List V} {i : Nat} {v : V} (ha : Ee C ta σ H (.ref p)) (hb : Ed C tb σ H (.int (i : Int))) (hx : ∀ H', C.W H H' → H' p = some (.lst xs)) (hi : xs[i]? = some v) : Ee C (tOp (rIx C.K) ta tb) σ H v := fun H1 w Q q =>
  ha H1 w _ fun x H2 w2 e => hb H2 (o.trans w w2) _ fun y H3 w3 r => by
    subst e
    exact .inl ⟨p, xs, _, v, rfl, r.intI, SqL.of (hx H3 (o.trans (o.trans w w2) w3)), atI_nat hi, q v H3 (o.trans w2 w3) rfl⟩
/-- x not in a list of ints that is tracked -/
theorem e_notInI {C : Wd} (o : C.Ok) {H : Hp} {σ : L2.St} {ta tb : TE} {p : Addr} {x : Int} {zs : List Int} (ha : Ed C ta σ H (.int x)) (hb : Ee C tb σ H (.ref p)) (hx : ∀ H', C.W H H' → H' p = some (.lst (zs.map V.int))) : Ed C (tOp (rIn C.K true) ta tb) σ H (.bool (!decide (x ∈ zs))) := fun H1 w Q q =>
  ha H1 w _ fun u H2 w2 r => hb H2 (o.trans w w2) _ fun y H3 w3 e => by
    subst e
    rw [r.intI]
    refine ⟨p, _, rfl, .inl (SqL.of (hx H3 (o.trans (o.trans w w2) w3))), rfl, by rw [List.all_map]; exact List.all_eq_true.mpr fun _ _ => rfl, ?_⟩
    have e : inV (.int x) (zs.map V.int) = decide (x ∈ zs) := by
      unfold inV
      rw [List.any_map, Bool.eq_iff_iff, List.any_eq_true, decide_eq_true_eq]
      constructor
      · intro ⟨z, hz, h⟩
        have : z = x := beq_iff_eq.mp h
        rw [← this]; exact hz
      · intro h
        exact ⟨x, h, beq_iff_eq.mpr rfl⟩
    rw [if_pos rfl, e]
    exact q _ H3 (o.trans w2 w3) (.bl _)

/-- xs.append(e), xs any expression -/
theorem s_appE {K : PySem.W.Frag} {L : Addr → Prop} {H : Hp} {σ : L2.St} {to te : TE} {a : Addr} {xs : List V} {nx bk ct : L2.St → Hp → Prop} {rt : VK} {P : V → Hp → Prop} (ho : Ee (W0 K L) to σ H (.ref a)) (hx : ∀ H', Kp No H H' → H' a = some (.lst xs)) (hz : xs.length < sizeLine) (he : EvP (W0 K L) te σ H P)
    (q : ∀ v H', Kp No H H' → P v H' → H' a = some (.lst xs) → nx σ (upd H' a (.lst (xs ++ [v])))) : tDrop (tBM K "list" rAppend to (tCons te tNil)) ⟨nx, rt, bk, ct⟩ σ H := by
  refine ho H (Kp.refl _ _) _ fun v H1 k1 e => ?_
  subst e
  refine ⟨.inl ⟨rfl, _, SqL.of (hx H1 k1)⟩, he H1 k1 _ fun u H2 k2 r => ?_⟩
  exact ⟨a, xs, u, rfl, rfl, hx H2 (k1.trans k2), hz, q u H2 (k1.trans k2) r (hx H2 (k1.trans k2))⟩
abbrev rLi (K : PySem.W.Frag) : List V → Hp → VK → Prop := fun xs H Q => ∃ p ys, xs = [.ref p] ∧ (SqL K H p ys ∨ SqT K H p ys) ∧ ∀ l, H l = none → Q (.ref l) (upd H l (.lst ys))
theorem e_listI {C : Wd} (o : C.Ok) {H : Hp} {σ : L2.St} {ta : TE} {a : Addr} {zs : List Int} (hL : ∀ a, C.L a → H a ≠ none) (ha : Ee C ta σ H (.ref a)) (hx : ∀ H', C.W H H' → H' a = some (.lst (zs.map V.int))) : Ed C (tCB (rLi C.K) (tCons ta tNil)) σ H (.list (zs.map PyData.int)) := fun H1 w Q q =>
  ha H1 w _ fun v H2 w2 e => by
    subst e
    refine ⟨a, _, rfl, .inl (SqL.of (hx H2 (o.trans w w2))), fun l hl => q _ _ (o.trans w2 (o.new hl)) (.lst (fun z => hL l z (o.free (o.trans w w2) hl)) upd_same DTs.ints)⟩

theorem i_rng1 {C : Wd} (o : C.Ok) {H : Hp} {σ : L2.St} {tx : TA} {n : Int} {R : It → Hp → Prop} (ha : Ea C tx σ H [.int n]) (h1 : n ≤ 1000000) (h0 : -1000000 ≤ n) (q : ∀ H1, C.W H H1 → R (Itr 0 n.toNat) H1) : iRng1 tx σ H R :=
  ha H (o.refl _) _ fun vs H1 w p => by
    obtain ⟨v, rfl, p1⟩ := p.one
    rw [p1.intI]
    exact ⟨n, rfl, by omega, by omega, q H1 w⟩
theorem wipe_two (σ : L2.St) {a b : Nat} (h : a ≠ b) (v : Option V) : wipe ((wipe σ [a, b]).set a v) [a, b] = wipe σ [a, b] := by
  show (((((σ.set b none).set a none).set a v).set b none).set a none) = (σ.set b none).set a none
  rw [List.set_set, List.set_comm _ _ h, List.set_set, List.set_set]

/-- a value known, under the name of an expression -/
theorem e_c {C : Wd} (o : C.Ok) {H : Hp} {σ : L2.St} {v : V} {d : PyData} (h : Dw C H v d) : Ed C (tC v) σ H d := fun H1 w Q q => q v H1 (o.refl _) (DT.mono o w h)
theorem s_forEv {C : Wd} (o : C.Ok) {H : Hp} {σ : L2.St} {te : TE} {g : TG} {tb : TS} {D : Ends} {P : V → Hp → Prop} (h : EvP C te σ H P) (q : ∀ v H1, C.W H H1 → P v H1 → tFor (iList C.K (tC v)) g tb D σ H1) : tFor (iList C.K te) g tb D σ H :=
  h H (o.refl _) _ fun v H1 w p => q v H1 w p
end SR

namespace SR
open PySem PySem.Spec PyProof.Rows L2
section
variable {P : Program} {w : World} {K : PySem.W.Frag} {mg : Str → Option Value} {base : Heap}
abbrev N_is_strip : List Str := ["part"]
abbrev s_is_strip : Stmt := top 1
theorem sc_is_strip : FnScope ["part"] ["part"] (defScope s_is_strip) := ⟨rfl, rfl, rfl, by decide +kernel, rfl, by decide +kernel, by decide +kernel⟩
def RisStrip (ds : List PyData) (d : PyData) : Prop := ∃ p : Pt, ds = [p.d] ∧ d = .bool p.isStrip
theorem ok_is_strip (F : DefA K mg "is_strip" s_is_strip) : C8.Cal P w K mg base 1 "is_strip" (spD K RisStrip) [] := by
  refine cal_by F sc_is_strip rfl rfl rfl (fun _ _ _ _ _ _ us hl => match us, hl with | [_], _ => rfl) (spD_len fun ds d ⟨p, e, _⟩ => by rw [e]; rfl) fun f cdv A outer s H vs Q E hr h => ?_
  obtain ⟨L, ds, d, hL, hd, ⟨p, rfl, rfl⟩, k⟩ := h
  have o := w0 K L
  have S := Sl.start (C := W0 K L) (N := N_is_strip) hd
  refine ⟨_, (pss_one (ps_ret (pe_cmpR op_in_seq (pe_ix ix_seq (pv 0) pe_int (fun _ _ => rfl)) (pe_tup (pa_cons pe_str (pa_cons pe_str pa_nil))) (by rfl)))), ?_⟩
  obtain ⟨l, e⟩ := p.d0
  rw [e] at S
  refine s_ret o (e_inS o (z := p.kind) (zs := ["across", "down"]) (e_ixT o (i := 0) (e_var o S rfl) (e_int o) rfl) (e_tup o (a_cons o (e_str o) (a_cons o (e_str o) (a_nil o))))) fun v H' w r => k v H' w ?_
  have e2 : (["across", "down"] : List Str).any (fun y => decide (p.kind = y)) = p.isStrip := by
    rw [← p.kind_strip]
    simp
  rw [e2] at r
  exact r
abbrev N_extent : List Str := ["part", "region"]
abbrev s_extent : Stmt := top 14
theorem sc_extent : FnScope ["part", "region"] ["part", "region"] (defScope s_extent) := ⟨rfl, rfl, rfl, by decide +kernel, rfl, by decide +kernel, by decide +kernel⟩
def Rextent (ds : List PyData) (d : PyData) : Prop := ∃ (p : Pt) (r : Rg), ds = [p.d, r.d] ∧ d = .int (p.ext r)
theorem ok_extent (F : DefA K mg "extent" s_extent) : C8.Cal P w K mg base 1 "extent" (spD K Rextent) [] := by
  refine cal_by F sc_extent rfl rfl rfl (fun _ _ _ _ _ _ us hl => match us, hl with | [_, _], _ => rfl) (spD_len fun ds d ⟨p, r, e, _⟩ => by rw [e]; rfl) fun f cdv A outer s H vs Q E hr h => ?_
  obtain ⟨L, ds, d, hL, hd, ⟨p, r, rfl, rfl⟩, k⟩ := h
  have o := w0 K L
  have hu4 : _ + 64 < cLine := hr.units
  have S := Sl.start (C := W0 K L) (N := N_extent) hd
  refine ⟨_, (pss_c (ps_if (pt_cmpR (op_Q hu4) (pe_ix ix_seq (pv 0) pe_int (fun _ _ => rfl)) pe_str (nomark _)) (pss_one (ps_ret (pe_ix ix_seq (pv 1) pe_int (fun _ _ => rfl)))) pss_nil)
  (pss_one (ps_ret (pe_ix ix_seq (pv 1) pe_int (fun _ _ => rfl))))), ?_⟩
  obtain ⟨l, e⟩ := p.d0
  rw [e] at S
  refine s_if o (t_test o (e_eqS o (i := p.kind) (j := "across") (e_ixT o (i := 0) (e_var o S rfl) (e_int o) rfl) (e_str o))) (fun c H' w => ?_) (fun c H' w => ?_)
  · have S := S.mono o w
    refine s_ret o (e_ixT o (i := 3) (e_var o S rfl) (e_int o) rfl) fun v H2 w2 r2 => k v H2 (w.trans w2) ?_
    unfold Pt.ext
    rw [← p.kind_across, c]
    exact r2
  · have S := S.mono o w
    refine s_ret o (e_ixT o (i := 4) (e_var o S rfl) (e_int o) rfl) fun v H2 w2 r2 => k v H2 (w.trans w2) ?_
    unfold Pt.ext
    rw [← p.kind_across, c]
    exact r2
end
end SR

namespace SR
open PySem PySem.Spec PyProof.Rows L2
section
variable {P : Program} {w : World} {K : PySem.W.Frag} {mg : Str → Option Value} {base : Heap}
abbrev N_piece : List Str := ["part", "region", "offset", "number", "size"]
abbrev s_piece : Stmt := top 15
theorem sc_piece : FnScope ["part", "region", "offset", "number", "size"] ["part", "region", "offset", "number", "size"] (defScope s_piece) := ⟨rfl, rfl, rfl, by decide +kernel, rfl, by decide +kernel, by decide +kernel⟩
def Rpiece (ds : List PyData) (d : PyData) : Prop := ∃ (p : Pt) (r : Rg) (a n s : Int), ds = [p.d, r.d, .int a, .int n, .int s] ∧ d = (p.piece r a n s).d
theorem ok_piece (F : DefA K mg "piece" s_piece) : C8.Cal P w K mg base 1 "piece" (spD K Rpiece) [] := by
  refine cal_by F sc_piece rfl rfl rfl (fun _ _ _ _ _ _ us hl => match us, hl with | [_, _, _, _, _], _ => rfl) ?_ fun f cdv A outer s H vs Q E hr h => ?_
  · exact spD_len fun ds d ⟨p, r, a, n, s, e, _⟩ => by rw [e]; rfl
  obtain ⟨L, ds, d, hL, hd, ⟨p, r, a, n, s, rfl, rfl⟩, k⟩ := h
  have o := w0 K L
  have hu4 : _ + 64 < cLine := hr.units
  have S := Sl.start (C := W0 K L) (N := N_piece) hd
  refine ⟨_, (pss_c (ps_if (pt_cmpR (op_Q hu4) (pe_ix ix_seq (pv 0) pe_int (fun _ _ => rfl)) pe_str (nomark _)) (pss_one (ps_ret (pe_tup (pa_cons (pv 3) (pa_cons (pe_op op_add (pe_ix ix_seq (pv 1) pe_int (fun _ _ => rfl)) (pv 2)) (pa_cons (pe_ix ix_seq (pv 1) pe_int (fun _ _ => rfl)) (pa_cons (pv 4) (pa_cons (pe_ix ix_seq (pv 1) pe_int (fun _ _ => rfl)) pa_nil)))))))) pss_nil)
  (pss_one (ps_ret (pe_tup (pa_cons (pv 3) (pa_cons (pe_ix ix_seq (pv 1) pe_int (fun _ _ => rfl)) (pa_cons (pe_op op_add (pe_ix ix_seq (pv 1) pe_int (fun _ _ => rfl)) (pv 2)) (pa_cons (pe_ix ix_seq (pv 1) pe_int (fun _ _ => rfl)) (pa_cons (pv 4) pa_nil))))))))), ?_⟩
  obtain ⟨l, e⟩ := p.d0
  rw [e] at S
  refine s_if o (t_test o (e_eqS o (i := p.kind) (j := "across") (e_ixT o (i := 0) (e_var o S rfl) (e_int o) rfl) (e_str o))) (fun c H' w => ?_) (fun c H' w => ?_)
  · have S := S.mono o w
    refine s_ret o (e_tup o (a_cons o (e_var o S rfl) (a_cons o (e_add o (e_ixT o (i := 1) (e_var o S rfl) (e_int o) rfl) (e_var o S rfl)) (a_cons o (e_ixT o (i := 2) (e_var o S rfl) (e_int o) rfl) (a_cons o (e_var o S rfl) (a_cons o (e_ixT o (i := 4) (e_var o S rfl) (e_int o) rfl) (a_nil o))))))) fun v H2 w2 r2 => k v H2 (w.trans w2) ?_
    unfold Pt.piece
    rw [← p.kind_across, c]
    exact r2
  · have S := S.mono o w
    refine s_ret o (e_tup o (a_cons o (e_var o S rfl) (a_cons o (e_ixT o (i := 1) (e_var o S rfl) (e_int o) rfl) (a_cons o (e_add o (e_ixT o (i := 2) (e_var o S rfl) (e_int o) rfl) (e_var o S rfl)) (a_cons o (e_ixT o (i := 3) (e_var o S rfl) (e_int o) rfl) (a_cons o (e_var o S rfl) (a_nil o))))))) fun v H2 w2 r2 => k v H2 (w.trans w2) ?_
    unfold Pt.piece
    rw [← p.kind_across, c]
    exact r2
abbrev N_pixel : List Str := ["rows", "x", "y"]
abbrev s_pixel : Stmt := top 25
theorem sc_pixel : FnScope ["rows", "x", "y"] ["rows", "x", "y"] (defScope s_pixel) := ⟨rfl, rfl, rfl, by decide +kernel, rfl, by decide +kernel, by decide +kernel⟩
def Rpixel (ds : List PyData) (d : PyData) : Prop := ∃ (rows : List Str) (x y : Int), Img rows ∧ ds = [.tuple (rows.map .str), .int x, .int y] ∧ d = .bool (pixB rows x y)
theorem ok_pixel (F : DefA K mg "pixel" s_pixel) (B : Blt mg) : C8.Cal P w K mg base 1 "pixel" (spD K Rpixel) [] := by
  refine cal_by F sc_pixel rfl rfl rfl (fun _ _ _ _ _ _ us hl => match us, hl with | [_, _, _], _ => rfl) ?_ fun f cdv A outer s H vs Q E hr h => ?_
  · exact spD_len fun ds d ⟨_, _, _, _, e, _⟩ => by rw [e]; rfl
  obtain ⟨L, ds, d, hL, hd, ⟨rows, x, y, g, rfl, rfl⟩, k⟩ := h
  have o := w0 K L
  have hu4 : _ + 64 < cLine := hr.units
  have S := Sl.start (C := W0 K L) (N := N_pixel) hd
  refine ⟨_, (pss_c (ps_if (PW.pt (pw_or (pt_cmpR op_lt (pv 1) pe_int (nomark _)) (pw_or (pt_cmpR op_lt (pv 2) pe_int (nomark _)) (pw_or (pt_cmpR op_ge (pv 2) (pe_callB call_len (by rfl) B.len PySem.boot_len (pa_cons (pv 0) pa_nil)) (nomark _)) (pw_or1 (pt_cmpR op_ge (pv 1) (pe_callB call_len (by rfl) B.len PySem.boot_len (pa_cons (pe_ix ix_seq (pv 0) pe_int (fun _ _ => rfl)) pa_nil)) (nomark _))))))) (pss_one (ps_ret pe_bl)) pss_nil)
  (pss_one (ps_ret (pe_cmpR (op_Q hu4) (pe_ix ix_seq (pe_ix ix_seq (pv 0) (pv 2) (fun _ _ => rfl)) (pv 1) (fun _ _ => rfl)) pe_str (nomark _))))), ?_⟩
  obtain ⟨r0, rs, e0⟩ : ∃ r0 rs, rows = r0 :: rs := by
    cases rows with
    | nil => exact absurd rfl g.ne
    | cons a b => exact ⟨a, b, rfl⟩
  have hw : r0.length = wide rows := g.len r0 (by rw [e0]; exact List.mem_cons_self)
  refine s_if o (t_or o (t_test o (e_cmp o (P := fun i j => decide (i < j)) (i := x) (j := 0) (e_var o S rfl) (e_int o))) fun _ => t_or o (t_test o (e_cmp o (P := fun i j => decide (i < j)) (i := y) (j := 0) (e_var o S rfl) (e_int o))) fun _ =>
    t_or o (t_test o (e_cmp o (P := fun i j => decide (j ≤ i)) (i := y) (j := (rows.map PyData.str).length) (e_var o S rfl) (e_lenT o (e_var o S rfl)))) fun _ =>
      t_test o (e_cmp o (P := fun i j => decide (j ≤ i)) (i := x) (j := r0.length) (e_var o S rfl) (e_lenS o (z := r0) (e_ixT o (i := 0) (e_var o S rfl) (e_int o) (by rw [e0]; rfl)) (by rw [hw]; exact g.wd)))) (fun c H' w => ?_) (fun c H' w => ?_)
  · refine s_ret o (e_bl o) fun v H2 w2 r2 => k v H2 (w.trans w2) ?_
    rw [hw, List.length_map] at c
    unfold pixB
    rw [if_pos c]
    exact r2
  · have S := S.mono o w
    rw [hw, List.length_map] at c
    have c2 := c
    simp only [Bool.or_eq_false_iff, decide_eq_false_iff_not] at c2
    obtain ⟨h1, h2, h3, h4⟩ := c2
    obtain ⟨r, ch, a1, a2, a3, a4⟩ := g.at (y := y.toNat) (x := x.toNat) (by omega) (by omega)
    refine s_ret o (e_eqS o (i := ⟨#[ch]⟩) (j := "#") (e_ixSz o (y := r) (e_ixTz o (e_var o S rfl) (e_var o S rfl) (by omega) (by rw [List.getElem?_map, a1]; rfl)) (e_var o S rfl) (by omega) a3 a2) (e_str o)) fun v H2 w2 r2 => k v H2 (w.trans w2) ?_
    unfold pixB
    rw [if_neg (by rw [c]; exact Bool.false_ne_true), a4]
    exact r2
abbrev N_overlap : List Str := ["one", "other"]
abbrev s_overlap : Stmt := top 27
theorem sc_overlap : FnScope ["one", "other"] ["one", "other"] (defScope s_overlap) := ⟨rfl, rfl, rfl, by decide +kernel, rfl, by decide +kernel, by decide +kernel⟩
def Roverlap (ds : List PyData) (d : PyData) : Prop := ∃ (a b : Rg), ds = [a.d, b.d] ∧ d = .bool (a.over b)
theorem ok_overlap (F : DefA K mg "overlap" s_overlap) : C8.Cal P w K mg base 1 "overlap" (spD K Roverlap) [] := by
  refine cal_by F sc_overlap rfl rfl rfl (fun _ _ _ _ _ _ us hl => match us, hl with | [_, _], _ => rfl) ?_ fun f cdv A outer s H vs Q E hr h => ?_
  · exact spD_len fun ds d ⟨_, _, e, _⟩ => by rw [e]; rfl
  obtain ⟨L, ds, d, hL, hd, ⟨a, b, rfl, rfl⟩, k⟩ := h
  have o := w0 K L
  have S := Sl.start (C := W0 K L) (N := N_overlap) hd
  refine ⟨_, (pss_c (ps_if (PW.pt (pw_or (pt_cmpR op_ge (pe_ix ix_seq (pv 0) pe_int (fun _ _ => rfl)) (pe_op op_add (pe_ix ix_seq (pv 1) pe_int (fun _ _ => rfl)) (pe_ix ix_seq (pv 1) pe_int (fun _ _ => rfl))) (nomark _)) (pw_or1 (pt_cmpR op_ge (pe_ix ix_seq (pv 1) pe_int (fun _ _ => rfl)) (pe_op op_add (pe_ix ix_seq (pv 0) pe_int (fun _ _ => rfl)) (pe_ix ix_seq (pv 0) pe_int (fun _ _ => rfl))) (nomark _))))) (pss_one (ps_ret pe_bl)) pss_nil)
  (pss_one (ps_ret (pe_and (pe_cmpR op_lt (pe_ix ix_seq (pv 0) pe_int (fun _ _ => rfl)) (pe_op op_add (pe_ix ix_seq (pv 1) pe_int (fun _ _ => rfl)) (pe_ix ix_seq (pv 1) pe_int (fun _ _ => rfl))) (nomark _)) (pe_one (pe_cmpR op_lt (pe_ix ix_seq (pv 1) pe_int (fun _ _ => rfl)) (pe_op op_add (pe_ix ix_seq (pv 0) pe_int (fun _ _ => rfl)) (pe_ix ix_seq (pv 0) pe_int (fun _ _ => rfl))) (nomark _))))))), ?_⟩
  refine s_if o (t_or o (t_test o (e_cmp o (P := fun i j => decide (j ≤ i)) (e_rg o (r := a) (e_var o S rfl) 1) (e_add o (e_rg o (r := b) (e_var o S rfl) 1) (e_rg o (r := b) (e_var o S rfl) 3)))) fun _ => t_test o (e_cmp o (P := fun i j => decide (j ≤ i)) (e_rg o (r := b) (e_var o S rfl) 1) (e_add o (e_rg o (r := a) (e_var o S rfl) 1) (e_rg o (r := a) (e_var o S rfl) 3)))) (fun c H' w => ?_) (fun c H' w => ?_)
  · refine s_ret o (e_bl o) fun v H2 w2 r2 => k v H2 (w.trans w2) ?_
    rw [show a.over b = false by unfold Rg.over; exact if_pos c]
    exact r2
  · have S := S.mono o w
    refine s_ret o (e_and o (e_cmp o (P := fun i j => decide (i < j)) (e_rg o (r := a) (e_var o S rfl) 2) (e_add o (e_rg o (r := b) (e_var o S rfl) 2) (e_rg o (r := b) (e_var o S rfl) 4))) fun _ => e_cmp o (P := fun i j => decide (i < j)) (e_rg o (r := b) (e_var o S rfl) 2) (e_add o (e_rg o (r := a) (e_var o S rfl) 2) (e_rg o (r := a) (e_var o S rfl) 4))) fun v H2 w2 r2 => k v H2 (w.trans w2) ?_
    rw [show a.over b = (decide (a.y < b.y + b.h) && decide (b.y < a.y + a.h)) by unfold Rg.over; exact if_neg (fun z => Bool.false_ne_true (c.symm.trans z))]
    exact r2
end
end SR

namespace SR
open PySem PySem.Spec PyProof.Rows L2
section
variable {P : Program} {w : World} {K : PySem.W.Frag} {mg : Str → Option Value} {base : Heap}
abbrev N_leaf_pixel : List Str := ["part", "x", "y"]
abbrev s_leaf_pixel : Stmt := top 29
theorem sc_leaf_pixel : FnScope ["part", "x", "y"] ["part", "x", "y"] (defScope s_leaf_pixel) := ⟨rfl, rfl, rfl, by decide +kernel, rfl, by decide +kernel, by decide +kernel⟩
def Rleaf_pixel (ds : List PyData) (d : PyData) : Prop := ∃ (p : Pt) (x y : Int), Leaf p ∧ (p.isPlain = false → 0 ≤ x ∧ x < wide p.rows ∧ 0 ≤ y ∧ y < p.rows.length) ∧ ds = [p.d, .int x, .int y] ∧ d = .bool (p.pix x y)
theorem ok_leaf_pixel (F : DefA K mg "leaf_pixel" s_leaf_pixel) : C8.Cal P w K mg base 1 "leaf_pixel" (spD K Rleaf_pixel) [] := by
  refine cal_by F sc_leaf_pixel rfl rfl rfl (fun _ _ _ _ _ _ us hl => match us, hl with | [_, _, _], _ => rfl) ?_ fun f cdv A outer s H vs Q E hr h => ?_
  · exact spD_len fun ds d ⟨_, _, _, _, _, e, _⟩ => by rw [e]; rfl
  obtain ⟨L, ds, d, hL, hd, ⟨p, x, y, lf, hxy, rfl, rfl⟩, k⟩ := h
  have o := w0 K L
  have hu4 : _ + 64 < cLine := hr.units
  have S := Sl.start (C := W0 K L) (N := N_leaf_pixel) hd
  refine ⟨_, (pss_c (ps_if (pt_cmpR (op_Q hu4) (pe_ix ix_seq (pv 0) pe_int (fun _ _ => rfl)) pe_str (nomark _)) (pss_one (ps_ret (pe_ix ix_seq (pv 0) pe_int (fun _ _ => rfl)))) pss_nil)
  (pss_one (ps_ret (pe_cmpR (op_Q hu4) (pe_ix ix_seq (pe_ix ix_seq (pe_ix ix_seq (pv 0) pe_int (fun _ _ => rfl)) (pv 2) (fun _ _ => rfl)) (pv 1) (fun _ _ => rfl)) pe_str (nomark _))))), ?_⟩
  rcases lf.d with ⟨n, l, c, b, rfl⟩ | ⟨n, l, c, rows, rfl⟩
  · refine s_if o (t_test o (e_eqS o (i := "plain") (j := "plain") (e_ixT o (i := 0) (e_var o S rfl) (e_int o) rfl) (e_str o))) (fun c H' w => ?_) (fun c H' w => absurd c (by decide +kernel))
    exact s_ret o (e_ixT o (i := 4) (e_var o (S.mono o w) rfl) (e_int o) rfl) fun v H2 w2 r2 => k v H2 (w.trans w2) r2
  · obtain ⟨h1, h2, h3, h4⟩ := hxy rfl
    have h2 : x < wide rows := h2
    have h4 : y < rows.length := h4
    refine s_if o (t_test o (e_eqS o (i := "shape") (j := "plain") (e_ixT o (i := 0) (e_var o S rfl) (e_int o) rfl) (e_str o))) (fun c H' w => absurd c (by decide +kernel)) (fun c H' w => ?_)
    have S := S.mono o w
    obtain ⟨r, ch, a1, a2, a3, a4⟩ := (lf.im rfl).at (y := y.toNat) (x := x.toNat) (show y.toNat < rows.length by omega) (show x.toNat < wide rows by omega)
    refine s_ret o (e_eqS o (i := ⟨#[ch]⟩) (j := "#") (e_ixSz o (y := r) (e_ixTz o (ds := rows.map .str) (e_ixT o (i := 4) (e_var o S rfl) (e_int o) rfl) (e_var o S rfl) (by omega) (by rw [List.getElem?_map, show rows[y.toNat]? = some r from a1]; rfl)) (e_var o S rfl) (by omega) a3 a2) (e_str o)) fun v H2 w2 r2 => k v H2 (w.trans w2) ?_
    rw [← a4] at r2
    exact r2
abbrev N_fits : List Str := ["part", "region"]
abbrev s_fits : Stmt := top 30
theorem sc_fits : FnScope ["part", "region"] ["part", "region"] (defScope s_fits) := ⟨rfl, rfl, rfl, by decide +kernel, rfl, by decide +kernel, by decide +kernel⟩
def Rfits (ds : List PyData) (d : PyData) : Prop := ∃ (p : Pt) (r : Rg), Leaf p ∧ ds = [p.d, r.d] ∧ d = .bool (p.fits r)
theorem ok_fits (F : DefA K mg "fits" s_fits) (B : Blt mg) : C8.Cal P w K mg base 1 "fits" (spD K Rfits) [] := by
  refine cal_by F sc_fits rfl rfl rfl (fun _ _ _ _ _ _ us hl => match us, hl with | [_, _], _ => rfl) ?_ fun f cdv A outer s H vs Q E hr h => ?_
  · exact spD_len fun ds d ⟨_, _, _, e, _⟩ => by rw [e]; rfl
  obtain ⟨L, ds, d, hL, hd, ⟨p, r, lf, rfl, rfl⟩, k⟩ := h
  have o := w0 K L
  have hu4 : _ + 64 < cLine := hr.units
  have S := Sl.start (C := W0 K L) (N := N_fits) hd
  refine ⟨_, (pss_c (ps_if (pt_cmpR (op_Q hu4) (pe_ix ix_seq (pv 0) pe_int (fun _ _ => rfl)) pe_str (nomark _)) (pss_one (ps_ret pe_bl)) pss_nil)
  (pss_one (ps_ret (pe_and (pe_cmpR (op_Q hu4) (pe_ix ix_seq (pv 1) pe_int (fun _ _ => rfl)) (pe_callB call_len (by rfl) B.len PySem.boot_len (pa_cons (pe_ix ix_seq (pe_ix ix_seq (pv 0) pe_int (fun _ _ => rfl)) pe_int (fun _ _ => rfl)) pa_nil)) (nomark _)) (pe_one (pe_cmpR (op_Q hu4) (pe_ix ix_seq (pv 1) pe_int (fun _ _ => rfl)) (pe_callB call_len (by rfl) B.len PySem.boot_len (pa_cons (pe_ix ix_seq (pv 0) pe_int (fun _ _ => rfl)) pa_nil)) (nomark _))))))), ?_⟩
  rcases lf.d with ⟨n, l, c, b, rfl⟩ | ⟨n, l, c, rows, rfl⟩
  · refine s_if o (t_test o (e_eqS o (i := "plain") (j := "plain") (e_ixT o (i := 0) (e_var o S rfl) (e_int o) rfl) (e_str o))) (fun c H' w => ?_) (fun c H' w => absurd c (by decide +kernel))
    exact s_ret o (e_bl o) fun v H2 w2 r2 => k v H2 (w.trans w2) r2
  · refine s_if o (t_test o (e_eqS o (i := "shape") (j := "plain") (e_ixT o (i := 0) (e_var o S rfl) (e_int o) rfl) (e_str o))) (fun c H' w => absurd c (by decide +kernel)) (fun c H' w => ?_)
    have S := S.mono o w
    have im : Img rows := lf.im rfl
    obtain ⟨r0, rs, e0⟩ : ∃ r0 rs, rows = r0 :: rs := by
      cases rows with
      | nil => exact absurd rfl im.ne
      | cons a b => exact ⟨a, b, rfl⟩
    have hw : r0.length = wide rows := im.len r0 (by rw [e0]; exact List.mem_cons_self)
    have hz := im.wd
    refine s_ret o (e_and o (e_eqI o (e_rg o (r := r) (e_var o S rfl) 3) (e_lenS o (z := r0) (e_ixT o (i := 0) (ds := rows.map .str) (e_ixT o (i := 4) (e_var o S rfl) (e_int o) rfl) (e_int o) (by rw [e0]; rfl)) (by omega))) fun _ => e_eqI o (e_rg o (r := r) (e_var o S rfl) 4) (e_lenT o (ds := rows.map .str) (e_ixT o (i := 4) (e_var o S rfl) (e_int o) rfl))) fun v H2 w2 r2 => k v H2 (w.trans w2) ?_
    rw [hw, List.length_map] at r2
    exact r2
abbrev N_sum_of : List Str := ["cost", "one", "other"]
abbrev s_sum_of : Stmt := top 35
theorem sc_sum_of : FnScope ["cost", "one", "other"] ["cost", "one", "other"] (defScope s_sum_of) := ⟨rfl, rfl, rfl, by decide +kernel, rfl, by decide +kernel, by decide +kernel⟩
def Rsum_of (ds : List PyData) (d : PyData) : Prop := ∃ (c : Int) (a b : Option Int), ds = [.int c, oi a, oi b] ∧ d = oi (sumOf c a b)
theorem ok_sum_of (F : DefA K mg "sum_of" s_sum_of) : C8.Cal P w K mg base 1 "sum_of" (spD K Rsum_of) [] := by
  refine cal_by F sc_sum_of rfl rfl rfl (fun _ _ _ _ _ _ us hl => match us, hl with | [_, _, _], _ => rfl) ?_ fun f cdv A outer s H vs Q E hr h => ?_
  · exact spD_len fun ds d ⟨_, _, _, e, _⟩ => by rw [e]; rfl
  obtain ⟨L, ds, d, hL, hd, ⟨c, a, b, rfl, rfl⟩, k⟩ := h
  have o := w0 K L
  have S := Sl.start (C := W0 K L) (N := N_sum_of) hd
  refine ⟨_, (pss_c (ps_if (PW.pt (pw_or (pt_cmpR op_isN (pv 1) pe_non (nomark _)) (pw_or1 (pt_cmpR op_isN (pv 2) pe_non (nomark _))))) (pss_one (ps_ret pe_non)) pss_nil)
  (pss_one (ps_ret (pe_op op_add (pe_op op_add (pv 0) (pv 1)) (pv 2))))), ?_⟩
  refine s_if o (t_or o (t_test o (e_isN o (d := oi a) (e_var o S rfl))) fun _ => t_test o (e_isN o (d := oi b) (e_var o S rfl))) (fun c H' w => ?_) (fun c H' w => ?_)
  · refine s_ret o (e_non o) fun v H2 w2 r2 => k v H2 (w.trans w2) ?_
    cases a with
    | none => exact r2
    | some i =>
      cases b with
      | none => exact r2
      | some j => cases c
  · have S := S.mono o w
    cases a with
    | none => cases c
    | some i =>
      cases b with
      | none => cases c
      | some j => exact s_ret o (e_add o (e_add o (e_var o S rfl) (e_var o S rfl)) (e_var o S rfl)) fun v H2 w2 r2 => k v H2 (w.trans w2) r2
abbrev N_at_most : List Str := ["least", "other"]
abbrev s_at_most : Stmt := top 42
theorem sc_at_most : FnScope ["least", "other"] ["least", "other"] (defScope s_at_most) := ⟨rfl, rfl, rfl, by decide +kernel, rfl, by decide +kernel, by decide +kernel⟩
def Rat_most (ds : List PyData) (d : PyData) : Prop := ∃ (a b : Option Int), ds = [oi a, oi b] ∧ d = .bool (atMost a b)
theorem ok_at_most (F : DefA K mg "at_most" s_at_most) : C8.Cal P w K mg base 1 "at_most" (spD K Rat_most) [] := by
  refine cal_by F sc_at_most rfl rfl rfl (fun _ _ _ _ _ _ us hl => match us, hl with | [_, _], _ => rfl) ?_ fun f cdv A outer s H vs Q E hr h => ?_
  · exact spD_len fun ds d ⟨_, _, e, _⟩ => by rw [e]; rfl
  obtain ⟨L, ds, d, hL, hd, ⟨a, b, rfl, rfl⟩, k⟩ := h
  have o := w0 K L
  have S := Sl.start (C := W0 K L) (N := N_at_most) hd
  refine ⟨_, (pss_c (ps_if (pt_cmpR op_isN (pv 1) pe_non (nomark _)) (pss_one (ps_ret pe_bl)) pss_nil)
  (pss_one (ps_ret (pe_and (pe_cmpR op_notN (pv 0) pe_non (nomark _)) (pe_one (pe_cmpR op_le (pv 0) (pv 1) (nomark _))))))), ?_⟩
  refine s_if o (t_test o (e_isN o (d := oi b) (e_var o S rfl))) (fun c H' w => ?_) (fun c H' w => ?_)
  · refine s_ret o (e_bl o) fun v H2 w2 r2 => k v H2 (w.trans w2) ?_
    cases b with
    | none => exact r2
    | some j => cases c
  · have S := S.mono o w
    cases b with
    | none => cases c
    | some j =>
      cases a with
      | none => exact s_ret o (e_and o (b := true) (e_notN o (d := .none) (e_var o S rfl)) fun z => by cases z) fun v H2 w2 r2 => k v H2 (w.trans w2) r2
      | some i => exact s_ret o (e_and o (e_notN o (d := .int i) (e_var o S rfl)) fun _ => e_cmp o (P := fun i j => decide (i ≤ j)) (e_var o S rfl) (e_var o S rfl)) fun v H2 w2 r2 => k v H2 (w.trans w2) r2
abbrev N_leaf_cost : List Str := ["part", "region", "rows", "total", "y", "x"]
abbrev s_leaf_cost : Stmt := top 31
theorem sc_leaf_cost : FnScope ["part", "region", "rows", "total", "y", "x"] ["part", "region", "rows"] (defScope s_leaf_cost) := ⟨rfl, rfl, rfl, by decide +kernel, rfl, by decide +kernel, by decide +kernel⟩
def Rleaf_cost (ds : List PyData) (d : PyData) : Prop := ∃ (p : Pt) (r : Rg) (rows : List Str), Leaf p ∧ p.fits r = true ∧ Img rows ∧ 0 ≤ r.w ∧ r.w ≤ 1000 ∧ 0 ≤ r.h ∧ r.h ≤ 1000 ∧ ds = [p.d, r.d, .tuple (rows.map .str)] ∧ d = .int (leafCost p r rows)
theorem ok_leaf_cost (F : DefA K mg "leaf_cost" s_leaf_cost) (B : Blt mg) (c_pixel : C8.Cal P w K mg base 1 "pixel" (spD K Rpixel) []) (c_leaf_pixel : C8.Cal P w K mg base 1 "leaf_pixel" (spD K Rleaf_pixel) []) : C8.Cal P w K mg base 2 "leaf_cost" (spD K Rleaf_cost) [] := by
  refine cal_by F sc_leaf_cost rfl rfl rfl (fun _ _ _ _ _ _ us hl => match us, hl with | [_, _, _], _ => rfl) ?_ fun f cdv A outer s H vs Q E hr h => ?_
  · exact spD_len fun ds d ⟨_, _, _, _, _, _, _, _, _, _, e, _⟩ => by rw [e]; rfl
  obtain ⟨L, ds, d, hL, hd, ⟨p, r, rows, lf, ft, im, h1, h2, h3, h4, rfl, rfl⟩, k⟩ := h
  have o := w0 K L
  have hu4 : _ + 64 < cLine := hr.units
  have S := Sl.start (C := W0 K L) (N := N_leaf_cost) hd
  refine ⟨_, (pss_c (ps_set (i := 3) sc_leaf_cost.nd rfl (Or.inl rfl) (pe_ix ix_seq (pv 0) pe_int (fun _ _ => rfl)))
  (pss_c (ps_for PassesOwn.never rfl (pi_range1 (by rfl) B.range (pa_cons (pe_ix ix_seq (pv 1) pe_int (fun _ _ => rfl)) pa_nil)) (pg_name (i := 4) sc_leaf_cost.nd rfl (Or.inl rfl)) (pss_one (ps_for PassesOwn.never rfl (pi_range1 (by rfl) B.range (pa_cons (pe_ix ix_seq (pv 1) pe_int (fun _ _ => rfl)) pa_nil)) (pg_name (i := 5) sc_leaf_cost.nd rfl (Or.inl rfl)) (pss_one (ps_if (pt_cmpR (op_NQ hu4) (C8.pe_c c_pixel hr (by omega) rfl (pa_cons (pv 2) (pa_cons (pe_op op_add (pe_ix ix_seq (pv 1) pe_int (fun _ _ => rfl)) (pv 5)) (pa_cons (pe_op op_add (pe_ix ix_seq (pv 1) pe_int (fun _ _ => rfl)) (pv 4)) pa_nil)))) (C8.pe_c c_leaf_pixel hr (by omega) rfl (pa_cons (pv 0) (pa_cons (pv 5) (pa_cons (pv 4) pa_nil)))) (nomark _)) (pss_one (ps_aug (i := 3) sc_leaf_cost.nd rfl (Or.inl rfl) pe_int ip_add)) pss_nil)))))
  (pss_one (ps_ret (pv 3))))), ?_⟩
  have hc : ∃ l, p.d = .tuple l ∧ l[3]? = some (.int p.cost) := by
    rcases lf.d with ⟨n, l, c, b, rfl⟩ | ⟨n, l, c, rows, rfl⟩
    · exact ⟨_, rfl, rfl⟩
    · exact ⟨_, rfl, rfl⟩
  obtain ⟨l, e1, e2⟩ := hc
  have S' := S
  rw [e1] at S'
  refine s_set o (e_ixT o (i := 3) (e_var o S' rfl) (e_int o) e2) fun v0 H0 w0' r0 => ?_
  have S0 := (S.mono o w0').putD (i := 3) r0
  refine s_for1 o (n := r.h) (a_cons o (e_rg o (r := r) (e_var o S0 rfl) 4) (a_nil o)) (by omega) (by omega)
    (fun i σ' H' => Kp No H H' ∧ ∃ a b, Sl (W0 K L) H' σ' [.da p.d, .da r.d, .da (.tuple (rows.map .str)), .da (.int (p.cost + (wrongs p r rows i : Nat))), a, b])
    (fun H' w1 => ⟨w0'.trans w1, .un, .un, by rw [show wrongs p r rows 0 = 0 from rfl, Int.natCast_zero, Int.add_zero]; exact S0.mono o w1⟩) (fun i σ1 H1 hi ⟨w1, a, b, S1⟩ => ?_) (fun σ1 H1 ⟨w1, a, b, S1⟩ => ?_)
  · have S2 := S1.putD (i := 4) (DT.int (i : Int))
    refine s_for1 o (n := r.w) (a_cons o (e_rg o (r := r) (e_var o S2 rfl) 3) (a_nil o)) (by omega) (by omega)
      (fun j σ' H' => Kp No H H' ∧ ∃ b, Sl (W0 K L) H' σ' [.da p.d, .da r.d, .da (.tuple (rows.map .str)), .da (.int (p.cost + (wrongs p r rows i + wrongIn p r rows i j : Nat))), .da (.int (i : Int)), b])
      (fun H' w2 => ⟨w1.trans w2, b, by rw [show wrongIn p r rows i 0 = 0 from rfl, Nat.add_zero]; exact S2.mono o w2⟩) (fun j σ3 H3 hj ⟨w3, b3, S3⟩ => ?_) (fun σ3 H3 ⟨w3, b3, S3⟩ => ?_)
    · have S4 := S3.putD (i := 5) (DT.int (j : Int))
      have hL3 := o.un w3 hL
      have hpix : p.isPlain = false → (0 : Int) ≤ j ∧ (j : Int) < wide p.rows ∧ (0 : Int) ≤ i ∧ (i : Int) < p.rows.length := fun hp => by
        unfold Pt.fits at ft
        rw [hp, Bool.false_or, Bool.and_eq_true, decide_eq_true_eq, decide_eq_true_eq] at ft
        omega
      refine s_if o (t_test o (e_neB o (e_call o hL3 (a_cons o (e_var o S4 rfl) (a_cons o (e_add o (e_rg o (r := r) (e_var o S4 rfl) 1) (e_var o S4 rfl)) (a_cons o (e_add o (e_rg o (r := r) (e_var o S4 rfl) 2) (e_var o S4 rfl)) (a_nil o)))) ⟨rows, _, _, im, rfl, rfl⟩)
        (e_call o hL3 (a_cons o (e_var o S4 rfl) (a_cons o (e_var o S4 rfl) (a_cons o (e_var o S4 rfl) (a_nil o)))) ⟨p, _, _, lf, hpix, rfl, rfl⟩))) (fun c H5 w5 => ?_) (fun c H5 w5 => ?_)
      · have S5 := S4.mono o w5
        obtain ⟨x, hx, rx⟩ := S5.da (i := 3) rfl
        have rx := rx.intI
        subst rx
        refine ⟨_, hx, _, _, rfl, rfl, w3.trans w5, .da (.int j), ?_⟩
        have S6 := S5.putD (i := 3) (DT.int (p.cost + (wrongs p r rows i + wrongIn p r rows i (j + 1) : Nat)))
        have e : p.cost + (wrongs p r rows i + wrongIn p r rows i (j + 1) : Nat) = p.cost + (wrongs p r rows i + wrongIn p r rows i j : Nat) + 1 := by
          rw [wrongIn_succ, if_pos (show (pixB rows (r.x + j) (r.y + i) != p.pix j i) = true from c)]
          omega
        rw [e] at S6
        rw [e]
        exact S6
      · refine ⟨w3.trans w5, .da (.int j), ?_⟩
        rw [wrongIn_succ, if_neg (show ¬ (pixB rows (r.x + j) (r.y + i) != p.pix j i) = true from fun z => Bool.false_ne_true (c.symm.trans z)), Nat.add_zero]
        exact S4.mono o w5
    · refine ⟨w3, .da (.int i), b3, ?_⟩
      rw [wrongs_succ]
      exact S3
  · exact s_ret o (e_var o S1 rfl) fun v H2 w2 r2 => k v H2 (w1.trans w2) r2
end
end SR

namespace SR
open PySem PySem.Spec PyProof.Rows L2
theorem bne_c (a b : Bool) : (a != b) = (b != a) := by cases a <;> cases b <;> rfl
section
variable {P : Program} {w : World} {K : PySem.W.Frag} {mg : Str → Option Value} {base : Heap}
abbrev N__law_extent : List Str := ["_law_part", "_law_region_here"]
abbrev s__law_extent : Stmt := top 58
theorem sc__law_extent : FnScope ["_law_part", "_law_region_here"] ["_law_part", "_law_region_here"] (defScope s__law_extent) := ⟨rfl, rfl, rfl, by decide +kernel, rfl, by decide +kernel, by decide +kernel⟩
theorem ok__law_extent (F : DefA K mg "_law_extent" s__law_extent) : C8.Cal P w K mg base 1 "_law_extent" (spD K Rextent) [] := by
  refine cal_by F sc__law_extent rfl rfl rfl (fun _ _ _ _ _ _ us hl => match us, hl with | [_, _], _ => rfl) (spD_len fun ds d ⟨p, r, e, _⟩ => by rw [e]; rfl) fun f cdv A outer s H vs Q E hr h => ?_
  obtain ⟨L, ds, d, hL, hd, ⟨p, r, rfl, rfl⟩, k⟩ := h
  have o := w0 K L
  have hu4 : _ + 64 < cLine := hr.units
  have S := Sl.start (C := W0 K L) (N := N__law_extent) hd
  refine ⟨_, (pss_c (ps_if (pt_cmpR (op_Q hu4) (pe_ix ix_seq (pv 0) pe_int (fun _ _ => rfl)) pe_str (nomark _)) (pss_one (ps_ret (pe_ix ix_seq (pv 1) pe_int (fun _ _ => rfl)))) pss_nil)
  (pss_one (ps_ret (pe_ix ix_seq (pv 1) pe_int (fun _ _ => rfl))))), ?_⟩
  obtain ⟨l, e⟩ := p.d0
  rw [e] at S
  refine s_if o (t_test o (e_eqS o (i := p.kind) (j := "across") (e_ixT o (i := 0) (e_var o S rfl) (e_int o) rfl) (e_str o))) (fun c H' w => ?_) (fun c H' w => ?_)
  · have S := S.mono o w
    refine s_ret o (e_ixT o (i := 3) (e_var o S rfl) (e_int o) rfl) fun v H2 w2 r2 => k v H2 (w.trans w2) ?_
    unfold Pt.ext
    rw [← p.kind_across, c]
    exact r2
  · have S := S.mono o w
    refine s_ret o (e_ixT o (i := 4) (e_var o S rfl) (e_int o) rfl) fun v H2 w2 r2 => k v H2 (w.trans w2) ?_
    unfold Pt.ext
    rw [← p.kind_across, c]
    exact r2
def R_law_piece (ds : List PyData) (d : PyData) : Prop := ∃ (p : Pt) (r : Rg) (a n s : Int), ds = [p.d, r.d, .int n, .int a, .int s] ∧ d = (p.piece r a n s).d
abbrev N__law_piece : List Str := ["_law_part", "_law_region_here", "_law_number", "_law_offset", "_law_size"]
abbrev s__law_piece : Stmt := top 59
theorem sc__law_piece : FnScope ["_law_part", "_law_region_here", "_law_number", "_law_offset", "_law_size"] ["_law_part", "_law_region_here", "_law_number", "_law_offset", "_law_size"] (defScope s__law_piece) := ⟨rfl, rfl, rfl, by decide +kernel, rfl, by decide +kernel, by decide +kernel⟩
theorem ok__law_piece (F : DefA K mg "_law_piece" s__law_piece) : C8.Cal P w K mg base 1 "_law_piece" (spD K R_law_piece) [] := by
  refine cal_by F sc__law_piece rfl rfl rfl (fun _ _ _ _ _ _ us hl => match us, hl with | [_, _, _, _, _], _ => rfl) ?_ fun f cdv A outer s H vs Q E hr h => ?_
  · exact spD_len fun ds d ⟨p, r, a, n, s, e, _⟩ => by rw [e]; rfl
  obtain ⟨L, ds, d, hL, hd, ⟨p, r, a, n, s, rfl, rfl⟩, k⟩ := h
  have o := w0 K L
  have hu4 : _ + 64 < cLine := hr.units
  have S := Sl.start (C := W0 K L) (N := N__law_piece) hd
  refine ⟨_, (pss_c (ps_if (pt_cmpR (op_Q hu4) (pe_ix ix_seq (pv 0) pe_int (fun _ _ => rfl)) pe_str (nomark _)) (pss_one (ps_ret (pe_tup (pa_cons (pv 2) (pa_cons (pe_op op_add (pe_ix ix_seq (pv 1) pe_int (fun _ _ => rfl)) (pv 3)) (pa_cons (pe_ix ix_seq (pv 1) pe_int (fun _ _ => rfl)) (pa_cons (pv 4) (pa_cons (pe_ix ix_seq (pv 1) pe_int (fun _ _ => rfl)) pa_nil)))))))) pss_nil)
  (pss_one (ps_ret (pe_tup (pa_cons (pv 2) (pa_cons (pe_ix ix_seq (pv 1) pe_int (fun _ _ => rfl)) (pa_cons (pe_op op_add (pe_ix ix_seq (pv 1) pe_int (fun _ _ => rfl)) (pv 3)) (pa_cons (pe_ix ix_seq (pv 1) pe_int (fun _ _ => rfl)) (pa_cons (pv 4) pa_nil))))))))), ?_⟩
  obtain ⟨l, e⟩ := p.d0
  rw [e] at S
  refine s_if o (t_test o (e_eqS o (i := p.kind) (j := "across") (e_ixT o (i := 0) (e_var o S rfl) (e_int o) rfl) (e_str o))) (fun c H' w => ?_) (fun c H' w => ?_)
  · have S := S.mono o w
    refine s_ret o (e_tup o (a_cons o (e_var o S rfl) (a_cons o (e_add o (e_ixT o (i := 1) (e_var o S rfl) (e_int o) rfl) (e_var o S rfl)) (a_cons o (e_ixT o (i := 2) (e_var o S rfl) (e_int o) rfl) (a_cons o (e_var o S rfl) (a_cons o (e_ixT o (i := 4) (e_var o S rfl) (e_int o) rfl) (a_nil o))))))) fun v H2 w2 r2 => k v H2 (w.trans w2) ?_
    unfold Pt.piece
    rw [← p.kind_across, c]
    exact r2
  · have S := S.mono o w
    refine s_ret o (e_tup o (a_cons o (e_var o S rfl) (a_cons o (e_ixT o (i := 1) (e_var o S rfl) (e_int o) rfl) (a_cons o (e_add o (e_ixT o (i := 2) (e_var o S rfl) (e_int o) rfl) (e_var o S rfl)) (a_cons o (e_ixT o (i := 3) (e_var o S rfl) (e_int o) rfl) (a_cons o (e_var o S rfl) (a_nil o))))))) fun v H2 w2 r2 => k v H2 (w.trans w2) ?_
    unfold Pt.piece
    rw [← p.kind_across, c]
    exact r2
abbrev N__law_black : List Str := ["_law_rows", "_law_x", "_law_y"]
abbrev s__law_black : Stmt := top 67
theorem sc__law_black : FnScope ["_law_rows", "_law_x", "_law_y"] ["_law_rows", "_law_x", "_law_y"] (defScope s__law_black) := ⟨rfl, rfl, rfl, by decide +kernel, rfl, by decide +kernel, by decide +kernel⟩
theorem ok__law_black (F : DefA K mg "_law_black" s__law_black) (B : Blt mg) : C8.Cal P w K mg base 1 "_law_black" (spD K Rpixel) [] := by
  refine cal_by F sc__law_black rfl rfl rfl (fun _ _ _ _ _ _ us hl => match us, hl with | [_, _, _], _ => rfl) ?_ fun f cdv A outer s H vs Q E hr h => ?_
  · exact spD_len fun ds d ⟨_, _, _, _, e, _⟩ => by rw [e]; rfl
  obtain ⟨L, ds, d, hL, hd, ⟨rows, x, y, g, rfl, rfl⟩, k⟩ := h
  have o := w0 K L
  have hu4 : _ + 64 < cLine := hr.units
  have S := Sl.start (C := W0 K L) (N := N__law_black) hd
  refine ⟨_, (pss_c (ps_if (PW.pt (pw_or (pt_cmpR op_lt (pv 1) pe_int (nomark _)) (pw_or (pt_cmpR op_lt (pv 2) pe_int (nomark _)) (pw_or (pt_cmpR op_ge (pv 2) (pe_callB call_len (by rfl) B.len PySem.boot_len (pa_cons (pv 0) pa_nil)) (nomark _)) (pw_or1 (pt_cmpR op_ge (pv 1) (pe_callB call_len (by rfl) B.len PySem.boot_len (pa_cons (pe_ix ix_seq (pv 0) pe_int (fun _ _ => rfl)) pa_nil)) (nomark _))))))) (pss_one (ps_ret pe_bl)) pss_nil)
  (pss_one (ps_ret (pe_cmpR (op_Q hu4) (pe_ix ix_seq (pe_ix ix_seq (pv 0) (pv 2) (fun _ _ => rfl)) (pv 1) (fun _ _ => rfl)) pe_str (nomark _))))), ?_⟩
  obtain ⟨r0, rs, e0⟩ : ∃ r0 rs, rows = r0 :: rs := by
    cases rows with
    | nil => exact absurd rfl g.ne
    | cons a b => exact ⟨a, b, rfl⟩
  have hw : r0.length = wide rows := g.len r0 (by rw [e0]; exact List.mem_cons_self)
  refine s_if o (t_or o (t_test o (e_cmp o (P := fun i j => decide (i < j)) (i := x) (j := 0) (e_var o S rfl) (e_int o))) fun _ => t_or o (t_test o (e_cmp o (P := fun i j => decide (i < j)) (i := y) (j := 0) (e_var o S rfl) (e_int o))) fun _ =>
    t_or o (t_test o (e_cmp o (P := fun i j => decide (j ≤ i)) (i := y) (j := (rows.map PyData.str).length) (e_var o S rfl) (e_lenT o (e_var o S rfl)))) fun _ =>
      t_test o (e_cmp o (P := fun i j => decide (j ≤ i)) (i := x) (j := r0.length) (e_var o S rfl) (e_lenS o (z := r0) (e_ixT o (i := 0) (e_var o S rfl) (e_int o) (by rw [e0]; rfl)) (by rw [hw]; exact g.wd)))) (fun c H' w => ?_) (fun c H' w => ?_)
  · refine s_ret o (e_bl o) fun v H2 w2 r2 => k v H2 (w.trans w2) ?_
    rw [hw, List.length_map] at c
    unfold pixB
    rw [if_pos c]
    exact r2
  · have S := S.mono o w
    rw [hw, List.length_map] at c
    have c2 := c
    simp only [Bool.or_eq_false_iff, decide_eq_false_iff_not] at c2
    obtain ⟨h1, h2, h3, h4⟩ := c2
    obtain ⟨r, ch, a1, a2, a3, a4⟩ := g.at (y := y.toNat) (x := x.toNat) (by omega) (by omega)
    refine s_ret o (e_eqS o (i := ⟨#[ch]⟩) (j := "#") (e_ixSz o (y := r) (e_ixTz o (e_var o S rfl) (e_var o S rfl) (by omega) (by rw [List.getElem?_map, a1]; rfl)) (e_var o S rfl) (by omega) a3 a2) (e_str o)) fun v H2 w2 r2 => k v H2 (w.trans w2) ?_
    unfold pixB
    rw [if_neg (by rw [c]; exact Bool.false_ne_true), a4]
    exact r2
abbrev N__law_meets : List Str := ["_law_one", "_law_other"]
abbrev s__law_meets : Stmt := top 75
theorem sc__law_meets : FnScope ["_law_one", "_law_other"] ["_law_one", "_law_other"] (defScope s__law_meets) := ⟨rfl, rfl, rfl, by decide +kernel, rfl, by decide +kernel, by decide +kernel⟩
theorem ok__law_meets (F : DefA K mg "_law_meets" s__law_meets) : C8.Cal P w K mg base 1 "_law_meets" (spD K Roverlap) [] := by
  refine cal_by F sc__law_meets rfl rfl rfl (fun _ _ _ _ _ _ us hl => match us, hl with | [_, _], _ => rfl) ?_ fun f cdv A outer s H vs Q E hr h => ?_
  · exact spD_len fun ds d ⟨_, _, e, _⟩ => by rw [e]; rfl
  obtain ⟨L, ds, d, hL, hd, ⟨a, b, rfl, rfl⟩, k⟩ := h
  have o := w0 K L
  have S := Sl.start (C := W0 K L) (N := N__law_meets) hd
  refine ⟨_, (pss_c (ps_if (PW.pt (pw_or (pt_cmpR op_ge (pe_ix ix_seq (pv 0) pe_int (fun _ _ => rfl)) (pe_op op_add (pe_ix ix_seq (pv 1) pe_int (fun _ _ => rfl)) (pe_ix ix_seq (pv 1) pe_int (fun _ _ => rfl))) (nomark _)) (pw_or1 (pt_cmpR op_ge (pe_ix ix_seq (pv 1) pe_int (fun _ _ => rfl)) (pe_op op_add (pe_ix ix_seq (pv 0) pe_int (fun _ _ => rfl)) (pe_ix ix_seq (pv 0) pe_int (fun _ _ => rfl))) (nomark _))))) (pss_one (ps_ret pe_bl)) pss_nil)
  (pss_one (ps_ret (pe_and (pe_cmpR op_lt (pe_ix ix_seq (pv 0) pe_int (fun _ _ => rfl)) (pe_op op_add (pe_ix ix_seq (pv 1) pe_int (fun _ _ => rfl)) (pe_ix ix_seq (pv 1) pe_int (fun _ _ => rfl))) (nomark _)) (pe_one (pe_cmpR op_lt (pe_ix ix_seq (pv 1) pe_int (fun _ _ => rfl)) (pe_op op_add (pe_ix ix_seq (pv 0) pe_int (fun _ _ => rfl)) (pe_ix ix_seq (pv 0) pe_int (fun _ _ => rfl))) (nomark _))))))), ?_⟩
  refine s_if o (t_or o (t_test o (e_cmp o (P := fun i j => decide (j ≤ i)) (e_rg o (r := a) (e_var o S rfl) 1) (e_add o (e_rg o (r := b) (e_var o S rfl) 1) (e_rg o (r := b) (e_var o S rfl) 3)))) fun _ => t_test o (e_cmp o (P := fun i j => decide (j ≤ i)) (e_rg o (r := b) (e_var o S rfl) 1) (e_add o (e_rg o (r := a) (e_var o S rfl) 1) (e_rg o (r := a) (e_var o S rfl) 3)))) (fun c H' w => ?_) (fun c H' w => ?_)
  · refine s_ret o (e_bl o) fun v H2 w2 r2 => k v H2 (w.trans w2) ?_
    rw [show a.over b = false by unfold Rg.over; exact if_pos c]
    exact r2
  · have S := S.mono o w
    refine s_ret o (e_and o (e_cmp o (P := fun i j => decide (i < j)) (e_rg o (r := a) (e_var o S rfl) 2) (e_add o (e_rg o (r := b) (e_var o S rfl) 2) (e_rg o (r := b) (e_var o S rfl) 4))) fun _ => e_cmp o (P := fun i j => decide (i < j)) (e_rg o (r := b) (e_var o S rfl) 2) (e_add o (e_rg o (r := a) (e_var o S rfl) 2) (e_rg o (r := a) (e_var o S rfl) 4))) fun v H2 w2 r2 => k v H2 (w.trans w2) ?_
    rw [show a.over b = (decide (a.y < b.y + b.h) && decide (b.y < a.y + a.h)) by unfold Rg.over; exact if_neg (fun z => Bool.false_ne_true (c.symm.trans z))]
    exact r2
abbrev N__law_strip : List Str := ["_law_part"]
abbrev s__law_strip : Stmt := top 57
theorem sc__law_strip : FnScope ["_law_part"] ["_law_part"] (defScope s__law_strip) := ⟨rfl, rfl, rfl, by decide +kernel, rfl, by decide +kernel, by decide +kernel⟩
theorem ok__law_strip (F : DefA K mg "_law_strip" s__law_strip) : C8.Cal P w K mg base 1 "_law_strip" (spD K RisStrip) [] := by
  refine cal_by F sc__law_strip rfl rfl rfl (fun _ _ _ _ _ _ us hl => match us, hl with | [_], _ => rfl) ?_ fun f cdv A outer s H vs Q E hr h => ?_
  · exact spD_len fun ds d ⟨p, e, _⟩ => by rw [e]; rfl
  obtain ⟨L, ds, d, hL, hd, ⟨p, rfl, rfl⟩, k⟩ := h
  have o := w0 K L
  have hu4 : _ + 64 < cLine := hr.units
  have S := Sl.start (C := W0 K L) (N := N__law_strip) hd
  refine ⟨_, (pss_one (ps_ret (pe_or (pe_cmpR (op_Q hu4) (pe_ix ix_seq (pv 0) pe_int (fun _ _ => rfl)) pe_str (nomark _)) (pe_one (pe_cmpR (op_Q hu4) (pe_ix ix_seq (pv 0) pe_int (fun _ _ => rfl)) pe_str (nomark _)))))), ?_⟩
  obtain ⟨l, e⟩ := p.d0
  rw [e] at S
  refine s_ret o (e_or o (e_eqS o (i := p.kind) (j := "across") (e_ixT o (i := 0) (e_var o S rfl) (e_int o) rfl) (e_str o)) fun _ => e_eqS o (i := p.kind) (j := "down") (e_ixT o (i := 0) (e_var o S rfl) (e_int o) rfl) (e_str o)) fun v H' w r => k v H' w ?_
  rw [← p.kind_strip]
  exact r
abbrev N__law_fits : List Str := ["_law_part", "_law_region_here"]
abbrev s__law_fits : Stmt := top 60
theorem sc__law_fits : FnScope ["_law_part", "_law_region_here"] ["_law_part", "_law_region_here"] (defScope s__law_fits) := ⟨rfl, rfl, rfl, by decide +kernel, rfl, by decide +kernel, by decide +kernel⟩
theorem ok__law_fits (F : DefA K mg "_law_fits" s__law_fits) (B : Blt mg) : C8.Cal P w K mg base 1 "_law_fits" (spD K Rfits) [] := by
  refine cal_by F sc__law_fits rfl rfl rfl (fun _ _ _ _ _ _ us hl => match us, hl with | [_, _], _ => rfl) ?_ fun f cdv A outer s H vs Q E hr h => ?_
  · exact spD_len fun ds d ⟨_, _, _, e, _⟩ => by rw [e]; rfl
  obtain ⟨L, ds, d, hL, hd, ⟨p, r, lf, rfl, rfl⟩, k⟩ := h
  have o := w0 K L
  have hu4 : _ + 64 < cLine := hr.units
  have S := Sl.start (C := W0 K L) (N := N__law_fits) hd
  refine ⟨_, (pss_one (ps_ret (pe_or (pe_cmpR (op_Q hu4) (pe_ix ix_seq (pv 0) pe_int (fun _ _ => rfl)) pe_str (nomark _)) (pe_one (pe_and (pe_cmpR (op_Q hu4) (pe_callB call_len (by rfl) B.len PySem.boot_len (pa_cons (pe_ix ix_seq (pv 0) pe_int (fun _ _ => rfl)) pa_nil)) (pe_ix ix_seq (pv 1) pe_int (fun _ _ => rfl)) (nomark _)) (pe_one (pe_cmpR (op_Q hu4) (pe_callB call_len (by rfl) B.len PySem.boot_len (pa_cons (pe_ix ix_seq (pe_ix ix_seq (pv 0) pe_int (fun _ _ => rfl)) pe_int (fun _ _ => rfl)) pa_nil)) (pe_ix ix_seq (pv 1) pe_int (fun _ _ => rfl)) (nomark _)))))))), ?_⟩
  rcases lf.d with ⟨n, l, c, b, rfl⟩ | ⟨n, l, c, rows, rfl⟩
  · refine s_ret o (e_or o (a := true) (b := true) (e_eqS o (i := "plain") (j := "plain") (e_ixT o (i := 0) (e_var o S rfl) (e_int o) rfl) (e_str o)) fun z => by cases z) fun v H2 w2 r2 => k v H2 w2 r2
  · have im : Img rows := lf.im rfl
    obtain ⟨r0, rs, e0⟩ : ∃ r0 rs, rows = r0 :: rs := by
      cases rows with
      | nil => exact absurd rfl im.ne
      | cons a b => exact ⟨a, b, rfl⟩
    have hw : r0.length = wide rows := im.len r0 (by rw [e0]; exact List.mem_cons_self)
    have hz := im.wd
    refine s_ret o (e_or o (e_eqS o (i := "shape") (j := "plain") (e_ixT o (i := 0) (e_var o S rfl) (e_int o) rfl) (e_str o)) fun _ => e_and o (e_eqI o (e_lenT o (ds := rows.map .str) (e_ixT o (i := 4) (e_var o S rfl) (e_int o) rfl)) (e_rg o (r := r) (e_var o S rfl) 4)) fun _ => e_eqI o (e_lenS o (z := r0) (e_ixT o (i := 0) (ds := rows.map .str) (e_ixT o (i := 4) (e_var o S rfl) (e_int o) rfl) (e_int o) (by rw [e0]; rfl)) (by omega)) (e_rg o (r := r) (e_var o S rfl) 3)) fun v H2 w2 r2 => k v H2 w2 ?_
    rw [hw, List.length_map] at r2
    have e : (decide (("shape" : Str) = "plain") || (decide (((rows.length : Nat) : Int) = r.at 4) && decide (((wide rows : Nat) : Int) = r.at 3))) = (Pt.shape n l c rows).fits r := by
      rw [show decide (("shape" : Str) = "plain") = false by decide +kernel, Bool.false_or, Bool.and_comm]
      show _ = (false || (decide (r.w = (wide rows : Int)) && decide (r.h = (rows.length : Int))))
      rw [Bool.false_or]
      congr 1
      · exact decide_eq_decide.mpr ⟨Eq.symm, Eq.symm⟩
      · exact decide_eq_decide.mpr ⟨Eq.symm, Eq.symm⟩
    rw [e] at r2
    exact r2
def pts (ps : List Pt) : PyData := .tuple (ps.map Pt.d)
abbrev N__law_wrong : List Str := ["_law_parts_here", "_law_leaf_here", "_law_rows", "_law_part", "_law_many", "_law_y", "_law_x", "_law_black_here"]
abbrev s__law_wrong : Stmt := top 68
theorem sc__law_wrong : FnScope ["_law_parts_here", "_law_leaf_here", "_law_rows", "_law_part", "_law_many", "_law_y", "_law_x", "_law_black_here"] ["_law_parts_here", "_law_leaf_here", "_law_rows"] (defScope s__law_wrong) := ⟨rfl, rfl, rfl, by decide +kernel, rfl, by decide +kernel, by decide +kernel⟩
def R_law_wrong (ds : List PyData) (d : PyData) : Prop := ∃ (ps : List Pt) (p : Pt) (r : Rg) (rows : List Str), 0 ≤ r.p ∧ ps[r.p.toNat]? = some p ∧ Leaf p ∧ p.fits r = true ∧ Img rows ∧ 0 ≤ r.w ∧ r.w ≤ 1000 ∧ 0 ≤ r.h ∧ r.h ≤ 1000 ∧ ds = [pts ps, r.d, .tuple (rows.map .str)] ∧ d = .int (wrongs p r rows r.h.toNat : Nat)
theorem ok__law_wrong (F : DefA K mg "_law_wrong" s__law_wrong) (B : Blt mg) (c__law_black : C8.Cal P w K mg base 1 "_law_black" (spD K Rpixel) []) : C8.Cal P w K mg base 2 "_law_wrong" (spD K R_law_wrong) [] := by
  refine cal_by F sc__law_wrong rfl rfl rfl (fun _ _ _ _ _ _ us hl => match us, hl with | [_, _, _], _ => rfl) ?_ fun f cdv A outer s H vs Q E hr h => ?_
  · exact spD_len fun ds d ⟨_, _, _, _, _, _, _, _, _, _, _, _, _, e, _⟩ => by rw [e]; rfl
  obtain ⟨L, ds, d, hL, hd, ⟨ps, p, r, rows, hp0, hp, lf, ft, im, h1, h2, h3, h4, rfl, rfl⟩, k⟩ := h
  have o := w0 K L
  have hu4 : _ + 64 < cLine := hr.units
  have S := Sl.start (C := W0 K L) (N := N__law_wrong) hd
  refine ⟨_, (pss_c (ps_set (i := 3) sc__law_wrong.nd rfl (Or.inl rfl) (pe_ix ix_seq (pv 0) (pe_ix ix_seq (pv 1) pe_int (fun _ _ => rfl)) (fun _ _ => rfl)))
  (pss_c (ps_set (i := 4) sc__law_wrong.nd rfl (Or.inl rfl) pe_int)
  (pss_c (ps_for PassesOwn.never rfl (pi_range1 (by rfl) B.range (pa_cons (pe_ix ix_seq (pv 1) pe_int (fun _ _ => rfl)) pa_nil)) (pg_name (i := 5) sc__law_wrong.nd rfl (Or.inl rfl)) (pss_one (ps_for PassesOwn.never rfl (pi_range1 (by rfl) B.range (pa_cons (pe_ix ix_seq (pv 1) pe_int (fun _ _ => rfl)) pa_nil)) (pg_name (i := 6) sc__law_wrong.nd rfl (Or.inl rfl)) (pss_c (ps_set (i := 7) sc__law_wrong.nd rfl (Or.inl rfl) (pe_ix ix_seq (pv 3) pe_int (fun _ _ => rfl)))
  (pss_c (ps_if (pt_cmpR (op_Q hu4) (pe_ix ix_seq (pv 3) pe_int (fun _ _ => rfl)) pe_str (nomark _)) (pss_one (ps_set (i := 7) sc__law_wrong.nd rfl (Or.inl rfl) (pe_cmpR (op_Q hu4) (pe_ix ix_seq (pe_ix ix_seq (pe_ix ix_seq (pv 3) pe_int (fun _ _ => rfl)) (pv 5) (fun _ _ => rfl)) (pv 6) (fun _ _ => rfl)) pe_str (nomark _)))) pss_nil)
  (pss_one (ps_set (i := 4) sc__law_wrong.nd rfl (Or.inl rfl) (pe_op op_add (pv 4) (pe_callTy call_int1 (by rfl) B.int (by decide +kernel) (pa_cons (pe_cmpR (op_NQ hu4) (pv 7) (C8.pe_c c__law_black hr (by omega) rfl (pa_cons (pv 2) (pa_cons (pe_op op_add (pe_ix ix_seq (pv 1) pe_int (fun _ _ => rfl)) (pv 6)) (pa_cons (pe_op op_add (pe_ix ix_seq (pv 1) pe_int (fun _ _ => rfl)) (pv 5)) pa_nil)))) (nomark _)) pa_nil))))))))))
  (pss_one (ps_ret (pv 4)))))), ?_⟩
  have hpd : (ps.map Pt.d)[r.p.toNat]? = some p.d := by rw [List.getElem?_map, hp]; rfl
  refine s_set o (e_ixTz o (ds := ps.map Pt.d) (e_var o S rfl) (e_rg o (r := r) (e_var o S rfl) 0) hp0 hpd) fun v0 H0 w0' r0 => ?_
  have S0 := (S.mono o w0').putD (i := 3) r0
  refine s_set (te := tC (V.int 0)) (i := 4) o (e_int o) fun v1 H1 w1' r1 => ?_
  have S1 := (S0.mono o w1').putD (i := 4) r1
  have w01 := w0'.trans w1'
  refine s_for1 o (n := r.h) (a_cons o (e_rg o (r := r) (e_var o S1 rfl) 4) (a_nil o)) (by omega) (by omega)
    (fun i σ' H' => Kp No H H' ∧ ∃ a b c, Sl (W0 K L) H' σ' [.da (pts ps), .da r.d, .da (.tuple (rows.map .str)), .da p.d, .da (.int (wrongs p r rows i : Nat)), a, b, c])
    (fun H' w1 => ⟨w01.trans w1, .un, .un, .un, S1.mono o w1⟩) (fun i σ1 H1 hi ⟨w1, a, b, c, S1⟩ => ?_) (fun σ1 H1 ⟨w1, a, b, c, S1⟩ => ?_)
  · have S2 := S1.putD (i := 5) (DT.int (i : Int))
    refine s_for1 o (n := r.w) (a_cons o (e_rg o (r := r) (e_var o S2 rfl) 3) (a_nil o)) (by omega) (by omega)
      (fun j σ' H' => Kp No H H' ∧ ∃ b c, Sl (W0 K L) H' σ' [.da (pts ps), .da r.d, .da (.tuple (rows.map .str)), .da p.d, .da (.int (wrongs p r rows i + wrongIn p r rows i j : Nat)), .da (.int (i : Int)), b, c])
      (fun H' w2 => ⟨w1.trans w2, b, c, by rw [show wrongIn p r rows i 0 = 0 from rfl, Nat.add_zero]; exact S2.mono o w2⟩) (fun j σ3 H3 hj ⟨w3, b3, c3, S3⟩ => ?_) (fun σ3 H3 ⟨w3, b3, c3, S3⟩ => ?_)
    · have S4 := S3.putD (i := 6) (DT.int (j : Int))
      have hpix : p.isPlain = false → (0 : Int) ≤ j ∧ (j : Int) < wide p.rows ∧ (0 : Int) ≤ i ∧ (i : Int) < p.rows.length := fun hp => by
        unfold Pt.fits at ft
        rw [hp, Bool.false_or, Bool.and_eq_true, decide_eq_true_eq, decide_eq_true_eq] at ft
        omega
      -- the rest of the turn, from the colour
      have rest : ∀ {σ5 H5}, Kp No H H5 → Sl (W0 K L) H5 σ5 [.da (pts ps), .da r.d, .da (.tuple (rows.map .str)), .da p.d, .da (.int (wrongs p r rows i + wrongIn p r rows i j : Nat)), .da (.int (i : Int)), .da (.int (j : Int)), .da (.bool (p.pix j i))] → ∀ Q : L2.St → Hp → Prop, (∀ σ6 H6, Kp No H H6 → Sl (W0 K L) H6 σ6 [.da (pts ps), .da r.d, .da (.tuple (rows.map .str)), .da p.d, .da (.int (wrongs p r rows i + wrongIn p r rows i (j + 1) : Nat)), .da (.int (i : Int)), .da (.int (j : Int)), .da (.bool (p.pix j i))] → Q σ6 H6) →
          tAsg (tOp (rI0 fun i j => .int (i + j)) (tVar 4) (tCB rInt1 (tCons (tOp (rNQ K) (tVar 7) (tCall (spD K Rpixel) [] E0 (tCons (tVar 2) (tCons (tOp (rI0 fun i j => .int (i + j)) (tOp (rIx K) (tVar 1) (tC (.int 1))) (tVar 6)) (tCons (tOp (rI0 fun i j => .int (i + j)) (tOp (rIx K) (tVar 1) (tC (.int 2))) (tVar 5)) tNil))))) tNil))) (gName 4) { nx := Q, rt := fun _ _ => False } σ5 H5 := fun {σ5 H5} w5 S5 Q q => by
        have hL5 := o.un w5 hL
        refine s_set o (e_add o (e_var o S5 rfl) (e_intB o (e_neB o (e_var o S5 rfl) (e_call o hL5 (a_cons o (e_var o S5 rfl) (a_cons o (e_add o (e_rg o (r := r) (e_var o S5 rfl) 1) (e_var o S5 rfl)) (a_cons o (e_add o (e_rg o (r := r) (e_var o S5 rfl) 2) (e_var o S5 rfl)) (a_nil o)))) ⟨rows, _, _, im, rfl, rfl⟩)))) fun v6 H6 w6 r6 => ?_
        refine q _ H6 (w5.trans w6) ?_
        have S6 := (S5.mono o w6).putD (i := 4) r6
        have e : (wrongs p r rows i + wrongIn p r rows i j : Nat) + (if (p.pix j i != pixB rows (r.at 1 + j) (r.at 2 + i)) = true then (1 : Int) else 0) = (wrongs p r rows i + wrongIn p r rows i (j + 1) : Nat) := by
          rw [wrongIn_succ, show (p.pix j i != pixB rows (r.at 1 + j) (r.at 2 + i)) = (pixB rows (r.x + j) (r.y + i) != p.pix j i) from bne_c _ _]
          split <;> omega
        rw [e] at S6
        exact S6
      rcases lf.d with ⟨n, l, cc, bb, rfl⟩ | ⟨n, l, cc, prows, rfl⟩
      · refine s_set o (e_ixT o (i := 4) (e_var o S4 rfl) (e_int o) rfl) fun v5 H5 w5 r5 => ?_
        have S5 := (S4.mono o w5).putD (i := 7) r5
        refine s_if o (t_test o (e_eqS o (i := "plain") (j := "shape") (e_ixT o (i := 0) (e_var o S5 rfl) (e_int o) rfl) (e_str o))) (fun c H6 w6 => absurd c (by decide +kernel)) (fun c H6 w6 => ?_)
        exact rest (w3.trans (w5.trans w6)) (S5.mono o w6) _ fun σ7 H7 w7 S7 => ⟨w7, _, _, S7⟩
      · obtain ⟨g1, g2, g3, g4⟩ := hpix rfl
        refine s_set o (e_ixT o (i := 4) (e_var o S4 rfl) (e_int o) rfl) fun v5 H5 w5 r5 => ?_
        have S5 := (S4.mono o w5).putD (i := 7) r5
        refine s_if o (t_test o (e_eqS o (i := "shape") (j := "shape") (e_ixT o (i := 0) (e_var o S5 rfl) (e_int o) rfl) (e_str o))) (fun c H6 w6 => ?_) (fun c H6 w6 => absurd c (by decide +kernel))
        have S6 := S5.mono o w6
        obtain ⟨rr, ch, a1, a2, a3, a4⟩ := (lf.im rfl).at (y := i) (x := j) (Int.ofNat_lt.mp g4) (Int.ofNat_lt.mp g2)
        refine s_set o (e_eqS o (i := ⟨#[ch]⟩) (j := "#") (e_ixS o (z := rr) (i := j) (e_ixT o (ds := prows.map .str) (i := i) (e_ixT o (i := 4) (e_var o S6 rfl) (e_int o) rfl) (e_var o S6 rfl) (by rw [List.getElem?_map, show prows[i]? = some rr from a1]; rfl)) (e_var o S6 rfl) a3 a2) (e_str o)) fun v7 H7 w7 r7 => ?_
        rw [← a4] at r7
        exact rest (w3.trans (w5.trans (w6.trans w7))) ((S6.mono o w7).putD (i := 7) r7) _ fun σ8 H8 w8 S8 => ⟨w8, _, _, S8⟩
    · refine ⟨w3, .da (.int i), b3, c3, ?_⟩
      rw [wrongs_succ]
      exact S3
  · exact s_ret o (e_var o S1 rfl) fun v H2 w2 r2 => k v H2 (w1.trans w2) r2
end
end SR

namespace SR
open PySem PySem.Spec PyProof.Rows L2
section
variable {P : Program} {w : World} {K : PySem.W.Frag} {mg : Str → Option Value} {base : Heap}
abbrev N_allowed : List Str := ["parts", "region", "wishes", "fixed", "forbidden", "other"]
abbrev s_allowed : Stmt := top 28
theorem sc_allowed : FnScope ["parts", "region", "wishes", "fixed", "forbidden", "other"] ["parts", "region", "wishes"] (defScope s_allowed) := ⟨rfl, rfl, rfl, by decide +kernel, rfl, by decide +kernel, by decide +kernel⟩
def allowedB (p : Pt) (r : Rg) (fixed forb : List Rg) : Bool := if forb.any (fun z => decide (z = r)) then false else if p.isStrip then true else (List.range fixed.length).all fun i => match fixed[i]? with
  | some o => decide (o = r) || !o.over r
  | none => true
def wish (fixed forb : List Rg) : PyData := .tuple [.tuple (fixed.map Rg.d), .tuple (forb.map Rg.d)]
def Rallowed (ds : List PyData) (d : PyData) : Prop := ∃ (ps : List Pt) (p : Pt) (r : Rg) (fixed forb : List Rg), 0 ≤ r.p ∧ ps[r.p.toNat]? = some p ∧ ds = [pts ps, r.d, wish fixed forb] ∧ d = .bool (allowedB p r fixed forb)
theorem ok_allowed {c T : Addr} {Ts : List Addr} (F : DefC K mg "allowed" s_allowed c) (TB : GxR.TabB base mg c T) (hT : T ∈ Ts) (B : Blt mg) (c_is_strip : C8.Cal P w K mg base 1 "is_strip" (spD K RisStrip) []) (c_overlap : C8.Cal P w K mg base 1 "overlap" (spD K Roverlap) []) :
    C8.Cal P w K mg base 3 "allowed" (spG K Ts Rallowed) [] := by
  refine cal_byC F sc_allowed rfl rfl rfl (fun _ _ _ _ _ _ us hl => match us, hl with | [_, _, _], _ => rfl) (spG_len fun ds d ⟨_, _, _, _, _, _, _, e, _⟩ => by rw [e]; rfl) fun f A outer s H vs Q E hr h => ?_
  obtain ⟨L, ds, d, hTs, hL, hd, ⟨ps, p, r, fixed, forb, hp0, hp, rfl, rfl⟩, k⟩ := h
  have o := w0 K L
  have hu4 : _ + 64 < cLine := hr.units
  have hu5 : _ + 65 < cLine := u65 hr
  have S := Sl.start (C := W0 K L) (N := N_allowed) hd
  refine ⟨_, (pss_c (ps_asg (pv 2) (pg_tup rfl (pgs_cons (pg_name (i := 3) sc_allowed.nd rfl (Or.inl rfl)) (pgs_cons (pg_name (i := 4) sc_allowed.nd rfl (Or.inl rfl)) pgs_nil))))
  (pss_c (ps_if (pt_cmpR (op_inT hu5) (pv 1) (pv 4) (by rfl)) (pss_one (ps_ret pe_bl)) pss_nil)
  (pss_c (ps_if (pt_val (C8.pe_c c_is_strip hr (by omega) rfl (pa_cons (pe_ix ix_seq (pv 0) (pe_ix ix_seq (pv 1) pe_int (fun _ _ => rfl)) (fun _ _ => rfl)) pa_nil))) (pss_one (ps_ret pe_bl)) pss_nil)
  (pss_one (ps_ret (pe_allG (own := [("other", 5)]) hr (by rfl) B.all TB rfl rfl sc_allowed.nd (blkOk_by (N := N_allowed) (sc := defScope s_allowed) (by decide +kernel)) rfl (by decide +kernel) rfl (pi_tup (pv 3)) (fun _ _ _ _ _ _ _ _ => (pg_name (i := 5) sc_allowed.nd rfl (Or.inl rfl))) (fun _ _ _ _ _ _ _ A hr => have hu4 : A.units + 64 < cLine := hr.units; (pe_or (pe_cmpR (r := rQ K) (op_Q hu4) (pv 5) (pv 1) (nomark _)) (pe_one (pe_not (C8.pe_c c_overlap hr (by omega) rfl (pa_cons (pv 5) (pa_cons (pv 1) pa_nil))))))))))))), ?_⟩
  have hpd : (ps.map Pt.d)[r.p.toNat]? = some p.d := by rw [List.getElem?_map, hp]; rfl
  refine s_asg o (e_var o S rfl) fun v H1 w1 r1 => g_pair r1 fun x y r2 r3 => ?_
  have S1 := ((S.mono o w1).putD (i := 3) r2).putD (i := 4) r3
  refine s_if o (t_test o (e_inT o (shaped_rg r) (shaped_rgsT forb) (e_var o S1 rfl) (e_var o S1 rfl))) (fun c H2 w2 => ?_) (fun c H2 w2 => ?_)
  · refine s_ret o (e_bl o) fun v H3 w3 r3 => k v H3 ((w1.trans w2).trans w3) ?_
    rw [any_rg] at c
    unfold allowedB
    rw [if_pos c]
    exact r3
  · have S2 := S1.mono o w2
    rw [any_rg] at c
    refine s_if o (t_test o (e_call o (o.un (w1.trans w2) hL) (a_cons o (e_ixTz o (ds := ps.map Pt.d) (e_var o S2 rfl) (e_rg o (r := r) (e_var o S2 rfl) 0) hp0 hpd) (a_nil o)) ⟨p, rfl, rfl⟩)) (fun c2 H3 w3 => ?_) (fun c2 H3 w3 => ?_)
    · refine s_ret o (e_bl o) fun v H4 w4 r4 => k v H4 (((w1.trans w2).trans w3).trans w4) ?_
      unfold allowedB
      rw [if_neg (by rw [c]; exact Bool.false_ne_true), if_pos c2]
      exact r4
    · have S3 := S2.mono o w3
      have w13 := (w1.trans w2).trans w3
      refine s_ret o (e_allT o (ds := fixed.map Rg.d) (g := fun i => match fixed[i]? with
        | some z => decide (z = r) || !z.over r
        | none => true) (w13.tab T (hTs T hT)) (e_var o S3 rfl) (fun v => by simp [wipe, List.set_set]) fun i d v H4 hi w4 r4 => ?_) fun v H4 w4 r4 => k v H4 (w13.trans w4) ?_
      · have S4 := ((S3.mono o w4).wipe [5]).putD (i := 5) r4
        rw [List.getElem?_map] at hi
        cases hz : fixed[i]? with
        | none => rw [hz] at hi; cases hi
        | some z =>
          rw [hz] at hi
          cases hi
          refine e_or o (a := decide (z = r)) (b := !z.over r) ?_ fun _ => e_not o (e_call o (o.un (w13.trans w4) hL) (a_cons o (e_var o S4 rfl) (a_cons o (e_var o S4 rfl) (a_nil o))) ⟨z, r, rfl, rfl⟩)
          have := e_eqD o (shaped_rg z) (shaped_rg r) (e_var o S4 (i := 5) rfl) (e_var o S4 (i := 1) rfl)
          rw [eqv_rg] at this
          exact this
      · unfold allowedB
        rw [if_neg (by rw [c]; exact Bool.false_ne_true), if_neg (by rw [c2]; exact Bool.false_ne_true)]
        rw [List.length_map] at r4
        exact r4
end
end SR

namespace SR
open PySem PySem.Spec PyProof.Rows L2
def prs (l : List (Nat × Int)) : List PyData := l.map pr
theorem prs_append (a b : List (Nat × Int)) : prs (a ++ b) = prs a ++ prs b := List.map_append ..
def looksTo (ms : List Mv) (st left : Int) (i : Nat) : List (Nat × Int) := (ms.zipIdx.take i).flatMap (lookI st left)
theorem looksTo_succ {ms : List Mv} {st left : Int} {i : Nat} {m : Mv} (h : ms[i]? = some m) : looksTo ms st left (i + 1) = looksTo ms st left i ++ lookI st left (m, i) := by
  unfold looksTo
  have h2 : ms.zipIdx[i]? = some (m, i) := by rw [List.getElem?_zipIdx, h]; simp
  rw [List.take_add_one, h2, List.flatMap_append]
  simp
theorem looksTo_all (ms : List Mv) (st left : Int) : looksTo ms st left ms.length = looks ms st left := by
  unfold looksTo looks
  rw [List.take_of_length_le (by simp)]
theorem looksTo_len {ms : List Mv} (g : Mvs ms) {st left : Int} (i : Nat) : (looksTo ms st left i).length ≤ 4000 := by
  have h := flat_len (lookI st left) 4 (ms.zipIdx.take i) fun x hx => by
    have hm : x.1 ∈ ms := by
      obtain ⟨a, b⟩ := x
      exact (List.mem_zipIdx (List.mem_of_mem_take hx)).2.2 ▸ List.getElem_mem _
    exact lookI_len (g.g x.1 hm).1 (g.g x.1 hm).2.2
  have h2 : (ms.zipIdx.take i).length ≤ ms.length := by rw [List.length_take, List.length_zipIdx]; exact Nat.min_le_right _ _
  have := g.n
  unfold looksTo
  omega
theorem looks_len {ms : List Mv} (g : Mvs ms) {st left : Int} : (looks ms st left).length ≤ 4000 := by
  rw [← looksTo_all]
  exact looksTo_len g _
section
variable {P : Program} {w : World} {K : PySem.W.Frag} {mg : Str → Option Value} {base : Heap}
abbrev N_looks_at : List Str := ["moves", "state", "left", "pairs", "number", "move", "size"]
abbrev s_looks_at : Stmt := top 17
theorem sc_looks_at : FnScope ["moves", "state", "left", "pairs", "number", "move", "size"] ["moves", "state", "left"] (defScope s_looks_at) := ⟨rfl, rfl, rfl, by decide +kernel, rfl, by decide +kernel, by decide +kernel⟩
def Rlooks_at (ds : List PyData) (d : PyData) : Prop := ∃ (ms : List Mv) (st left : Int), Mvs ms ∧ -1000 ≤ left ∧ ds = [mvs ms, .int st, .int left] ∧ d = .list (prs (looks ms st left))
theorem ok_looks_at (F : DefA K mg "looks_at" s_looks_at) (B : Blt mg) : C8.Cal P w K mg base 1 "looks_at" (spD K Rlooks_at) [] := by
  refine cal_by F sc_looks_at rfl rfl rfl (fun _ _ _ _ _ _ us hl => match us, hl with | [_, _, _], _ => rfl) ?_ fun f cdv A outer s H vs Q E hr h => ?_
  · exact spD_len fun ds d ⟨_, _, _, _, _, e, _⟩ => by rw [e]; rfl
  obtain ⟨L, ds, d, hL, hd, ⟨ms, st, left, g, hl0, rfl, rfl⟩, k⟩ := h
  have o := w0 K L
  have hu4 : _ + 64 < cLine := hr.units
  have S := Sl.start (C := W0 K L) (N := N_looks_at) hd
  refine ⟨_, (pss_c (ps_set (i := 3) sc_looks_at.nd rfl (Or.inl rfl) (pe_lst pa_nil))
  (pss_c (ps_for PassesOwn.never rfl (pi_enumT (by rfl) B.enumerate (pa_cons (pv 0) pa_nil)) (pg_tup rfl (pgs_cons (pg_name (i := 4) sc_looks_at.nd rfl (Or.inl rfl)) (pgs_cons (pg_name (i := 5) sc_looks_at.nd rfl (Or.inl rfl)) pgs_nil))) (pss_one (ps_if (pt_cmpR (op_Q hu4) (pe_ix ix_seq (pv 5) pe_int (fun _ _ => rfl)) (pv 1) (nomark _)) (pss_one (ps_for PassesOwn.never rfl (pi_range2 (by rfl) B.range (pa_cons (pe_ix ix_seq (pv 5) pe_int (fun _ _ => rfl)) (pa_cons (pe_op op_add (pe_callB (call_min2 rfl) (by rfl) B.min (by decide +kernel) (pa_cons (pe_ix ix_seq (pv 5) pe_int (fun _ _ => rfl)) (pa_cons (pv 2) pa_nil))) pe_int) pa_nil))) (pg_name (i := 6) sc_looks_at.nd rfl (Or.inl rfl)) (pss_one (ps_expr (pe_bm PySem.F.plainAttrs_list PySem.F.slot_list_append PySem.F.type_list_append mt_append (pv 3) (pa_cons (pe_tup (pa_cons (pv 4) (pa_cons (pv 6) pa_nil))) pa_nil)))))) pss_nil)))
  (pss_one (ps_ret (pv 3))))), ?_⟩
  refine s_new (i := 3) S fun p hp S1 => ?_
  have o1 := w0 K (Lp L p)
  have hM : ∀ a, a = p → Lp L p a := fun a e => .inr e
  refine s_forE o1 (ds := ms.map Mv.d) (a_cons o1 (e_var o1 S1 rfl) (a_nil o1)) (fun i σ' H' => Kp (· = p) (upd H p (.lst [])) H' ∧ ∃ a b c xs, Sl (W0 K (Lp L p)) H' σ' [.da (mvs ms), .da (.int st), .da (.int left), .va (.ref p), a, b, c] ∧ H' p = some (.lst xs) ∧ DTs K (Lp L p) H' xs (prs (looksTo ms st left i))) (M := (· = p)) hM
    (fun H1 w1 => ⟨w1.mono fun _ z => z.elim, .un, .un, .un, [], S1.mono o1 w1, w1.lst (fun z => z.elim) upd_same, .nil⟩) (fun H1 w1 i d v σ' H0 H2 hi rd k1 k2 ⟨k3, a, b, c, xs, S2, hx, r⟩ => ?_) (fun H1 w1 σ' H2 k1 ⟨k2, a, b, c, xs, S2, hx, r⟩ => ?_)
  · rw [List.getElem?_map] at hi
    cases hm : ms[i]? with
    | none => rw [hm] at hi; cases hi
    | some m =>
      rw [hm] at hi
      cases hi
      obtain ⟨g1, g2, g3⟩ := g.g m (List.mem_of_getElem? hm)
      have S3 := ((S2.mono o1 k2).putD (i := 4) (DT.int (i : Nat))).putD (i := 5) rd
      have hx2 : H2 p = some (.lst xs) := k2.lst (fun z => z.elim) hx
      have r2 := DTs.mono o1 k2 r
      have kk : Kp (· = p) (upd H p (.lst [])) H2 := k3.trans (k2.mono fun _ z => z.elim)
      have kk1 : Kp (· = p) H1 H2 := k1.trans (k2.mono fun _ z => z.elim)
      have hl := looksTo_len g (st := st) (left := left) i
      refine s_if o1 (t_test o1 (e_eqI o1 (e_mv o1 (m := m) (e_var o1 S3 rfl) 0) (e_var o1 S3 rfl))) (fun cc H3 w3 => ?_) (fun cc H3 w3 => ?_)
      · have S4 := S3.mono o1 w3
        have hx3 : H3 p = some (.lst xs) := w3.lst (fun z => z.elim) hx2
        refine s_for2 o1 (a := m.l) (b := min m.m left + 1) (a_cons o1 (e_mv o1 (m := m) (e_var o1 S4 rfl) 3) (a_cons o1 (e_add o1 (e_min2 o1 (e_mv o1 (m := m) (e_var o1 S4 rfl) 4) (e_var o1 S4 rfl)) (e_int o1)) (a_nil o1))) (by omega) (by omega) (by omega) (by omega)
          (fun j σ' H' => Kp (· = p) H3 H' ∧ ∃ c xs, Sl (W0 K (Lp L p)) H' σ' [.da (mvs ms), .da (.int st), .da (.int left), .va (.ref p), .da (.int (i : Nat)), .da m.d, c] ∧ H' p = some (.lst xs) ∧ DTs K (Lp L p) H' xs (prs (looksTo ms st left i ++ (List.range j).map fun k : Nat => (i, m.l + (k : Int)))))
          (fun H' w' => ⟨w'.mono fun _ z => z.elim, _, xs, S4.mono o1 w', w'.lst (fun z => z.elim) hx3, by
            rw [List.range_zero, List.map_nil, List.append_nil]
            exact DTs.mono o1 w' (DTs.mono o1 w3 r2)⟩) (fun j σ5 H5 hj ⟨k5, c5, xs5, S5, hx5, r5⟩ => ?_) (fun σ5 H5 ⟨k5, c5, xs5, S5, hx5, r5⟩ => ?_)
        · have S6 := S5.putD (i := 6) (DT.int (m.l + (j : Int)))
          have hl5 := r5.length
          refine s_app S6 rfl hx5 (lt_size (by rw [hl5]; simp [prs]; omega)) (e_tup o1 (a_cons o1 (e_var o1 S6 rfl) (a_cons o1 (e_var o1 S6 rfl) (a_nil o1)))) fun v H6 k6 r6 hx6 => ?_
          have k7 : Kp (· = p) H6 (upd H6 p (.lst (xs5 ++ [v]))) := (Kp.refl _ _).app hx6
          refine ⟨(k5.trans (k6.mono fun _ z => z.elim)).trans k7, _, _, (S6.mono o1 k6).step hM k7, upd_same, ?_⟩
          have := DTs.step hM k7 ((DTs.mono o1 k6 r5).snoc r6)
          rw [List.range_succ, List.map_append, ← List.append_assoc, prs_append]
          exact this
        · have ka : Kp (· = p) H2 H5 := (w3.mono fun _ z => z.elim).trans k5
          refine ⟨kk1.trans ka, kk.trans ka, _, _, _, _, S5, hx5, ?_⟩
          rw [looksTo_succ hm]
          have e : lookI st left (m, i) = (List.range (min m.m left + 1 - m.l).toNat).map fun k : Nat => (i, m.l + (k : Int)) := by
            unfold lookI Mv.sizes
            rw [if_pos (show (m, i).1.o = st from of_decide_eq_true cc), List.map_map]
            rfl
          rw [e]
          exact r5
      · refine ⟨kk1.trans (w3.mono fun _ z => z.elim), kk.trans (w3.mono fun _ z => z.elim), _, _, _, xs, S3.mono o1 w3, w3.lst (fun z => z.elim) hx2, ?_⟩
        have e : lookI st left (m, i) = [] := by
          unfold lookI
          rw [if_neg (show ¬ (m, i).1.o = st from of_decide_eq_false cc)]
        rw [looksTo_succ hm, e, List.append_nil]
        exact DTs.mono o1 w3 r2
  · refine s_ret o1 (e_val o1 S2 rfl) fun v H3 w3 e => ?_
    subst e
    have k4 : Kp (· = p) (upd H p (.lst [])) H3 := k2.trans (w3.mono fun _ z => z.elim)
    refine k _ H3 ((Kp.new hp).loc hp k4) (DT.retL hL hp (w3.lst (fun z => z.elim) hx) ?_)
    have := DTs.mono o1 w3 r
    rw [List.length_map, looksTo_all] at this
    exact this
end
end SR

namespace SR
open PySem PySem.Spec PyProof.Rows L2
/-- the spots that moves reach -/
inductive Reach (ms : List Mv) (far : Nat) : Int → Nat → Prop
  | start : Reach ms far 0 0
  | step {s : Int} {o : Nat} {m : Mv} {z : Int} : Reach ms far s o → m ∈ ms → m.o = s → m.l ≤ z → z ≤ min m.m ((far : Int) - o) → Reach ms far m.t (o + z.toNat)
abbrev Rws := Nat → List Int
structure Gd (ms : List Mv) (far : Nat) (R : Rws) : Prop where
  sound : ∀ i s, s ∈ R i → Reach ms far s i
  zero : 0 ∈ R 0
  nd : ∀ i, (R i).Nodup
def Don (far : Nat) (R : Rws) (k : Nat) (s : Int) (m : Mv) : Prop := m.o = s → ∀ z, m.l ≤ z → z ≤ min m.m ((far : Int) - k) → m.t ∈ R (k + z.toNat)
def Clo (ms : List Mv) (far : Nat) (R : Rws) (k : Nat) : Prop := ∀ i, i < k → ∀ s ∈ R i, ∀ m ∈ ms, Don far R i s m
def Sub (R R' : Rws) : Prop := ∀ i s, s ∈ R i → s ∈ R' i
theorem Sub.refl (R : Rws) : Sub R R := fun _ _ h => h
theorem Don.mono {far : Nat} {R R' : Rws} {k : Nat} {s : Int} {m : Mv} (u : Sub R R') (h : Don far R k s m) : Don far R' k s m := fun e z a b => u _ _ (h e z a b)
/-- one more in a row -/
def addR (R : Rws) (i : Nat) (x : Int) : Rws := fun j => if j = i then R i ++ [x] else R j
theorem addR_sub (R : Rws) (i : Nat) (x : Int) : Sub R (addR R i x) := fun j s h => by
  unfold addR
  split
  · rename_i e; subst e; exact List.mem_append_left _ h
  · exact h
theorem addR_ne {R : Rws} {i j : Nat} {x : Int} (h : j ≠ i) : addR R i x j = R j := if_neg h
theorem addR_same {R : Rws} {i : Nat} {x : Int} : addR R i x i = R i ++ [x] := if_pos rfl
theorem Gd.add {ms : List Mv} {far : Nat} {R : Rws} (g : Gd ms far R) {i : Nat} {x : Int} (h : Reach ms far x i) (n : x ∉ R i) : Gd ms far (addR R i x) where
  sound := fun j s hs => by
    unfold addR at hs
    split at hs
    · rename_i e; subst e
      rcases List.mem_append.mp hs with z | z
      · exact g.sound _ _ z
      · rw [List.mem_singleton.mp z]; exact h
    · exact g.sound _ _ hs
  zero := addR_sub R i x _ _ g.zero
  nd := fun j => by
    unfold addR
    split
    · rename_i e; subst e
      rw [List.nodup_append]
      exact ⟨g.nd _, by simp, fun a ha b hb => by rw [List.mem_singleton.mp hb]; exact fun e => n (e ▸ ha)⟩
    · exact g.nd _
theorem Clo.mono {ms : List Mv} {far : Nat} {R R' : Rws} {k : Nat} (h : Clo ms far R k) (u : Sub R R') (e : ∀ i, i < k → R' i = R i) : Clo ms far R' k := fun i hi s hs m hm => (h i hi s (by rw [← e i hi]; exact hs) m hm).mono u
/-- rows of ints in the heap: the outer list at p, the rows at as -/
structure Rw (H : Hp) (p : Addr) (as : List Addr) (R : Rws) : Prop where
  top : H p = some (.lst (as.map V.ref))
  row : ∀ i a, as[i]? = some a → H a = some (.lst ((R i).map V.int))
  nd : as.Nodup
theorem Rw.keep {H H' : Hp} {p : Addr} {as : List Addr} {R : Rws} (h : Rw H p as R) (k : Kp No H H') : Rw H' p as R := ⟨k.lst (fun z => z.elim) h.top, fun i a e => k.lst (fun z => z.elim) (h.row i a e), h.nd⟩
theorem Rw.add {H : Hp} {p : Addr} {as : List Addr} {R : Rws} (h : Rw H p as R) {i : Nat} {a : Addr} {x : Int} (e : as[i]? = some a) (hp : p ∉ as) : Rw (upd H a (.lst ((R i).map V.int ++ [.int x]))) p as (addR R i x) := by
  have hpa : p ≠ a := fun z => hp (z ▸ List.mem_of_getElem? e)
  refine ⟨by rw [upd_ne hpa]; exact h.top, fun j b eb => ?_, h.nd⟩
  by_cases hb : b = a
  · subst hb
    have : i = j := ((List.getElem?_inj (List.getElem?_eq_some_iff.mp e).1 h.nd).mp (e.trans eb.symm))
    subst this
    rw [upd_same, addR_same, List.map_append]
    rfl
  · have : j ≠ i := fun z => hb (by rw [z, e] at eb; exact (Option.some.inj eb).symm)
    rw [upd_ne hb, addR_ne this]
    exact h.row j b eb
/-- what is reached, as a list -/
structure RS (ms : List Mv) (far : Nat) (l : List (Int × Nat)) : Prop where
  iff : ∀ s o, (s, o) ∈ l ↔ Reach ms far s o
  nd : l.Nodup
  up : l.Pairwise fun a b => a.2 ≤ b.2
def spt (x : Int × Nat) : PyData := .tuple [.int x.1, .int (x.2 : Nat)]
theorem Reach.le {ms : List Mv} {far : Nat} (g : Mvs ms) {s : Int} {o : Nat} (h : Reach ms far s o) : o ≤ far ∧ 0 ≤ s ∧ s < 5 ∧ (o = 0 → s = 0) := by
  induction h with
  | start => exact ⟨Nat.zero_le _, by omega, by omega, fun _ => rfl⟩
  | step h hm ho h1 h2 ih =>
    obtain ⟨g1, g2, g3⟩ := g.g _ hm
    obtain ⟨t1, t2⟩ := g.t _ hm
    exact ⟨by omega, t1, t2, by omega⟩
/-- few distinct small numbers -/
theorem nodup_sub_len {α : Type} [DecidableEq α] : ∀ (l m : List α), l.Nodup → (∀ x ∈ l, x ∈ m) → l.length ≤ m.length
  | [], _, _, _ => Nat.zero_le _
  | x :: r, m, hn, hs => by
    have hx := hs x List.mem_cons_self
    have hn' := List.nodup_cons.mp hn
    have := nodup_sub_len r (m.erase x) hn'.2 fun y hy => (List.mem_erase_of_ne (fun (e : y = x) => hn'.1 (e ▸ hy))).mpr (hs y (List.mem_cons_of_mem _ hy))
    have h2 := List.length_erase_of_mem hx
    have h3 : 0 < m.length := List.length_pos_of_mem hx
    rw [List.length_cons]
    omega
theorem Gd.len {ms : List Mv} {far : Nat} {R : Rws} (g : Gd ms far R) (hm : Mvs ms) (i : Nat) : (R i).length ≤ 5 :=
  nodup_sub_len (R i) [0, 1, 2, 3, 4] (g.nd i) fun x hx => by
    obtain ⟨_, h1, h2, _⟩ := (g.sound i x hx).le hm
    have : x = 0 ∨ x = 1 ∨ x = 2 ∨ x = 3 ∨ x = 4 := by omega
    simpa using this
/-- how far the walk at offset k has come: D: the states and moves that are done -/
structure Prog (ms : List Mv) (far : Nat) (R : Rws) (k : Nat) (ys : List Int) (D : Int → Mv → Prop) : Prop where
  gd : Gd ms far R
  clo : Clo ms far R k
  row : R k = ys
  don : ∀ s m, D s m → Don far R k s m
theorem Prog.add {ms : List Mv} {far : Nat} {R : Rws} {k : Nat} {ys : List Int} {D : Int → Mv → Prop} (g : Prog ms far R k ys D) {x : Int} {z : Nat} (h : Reach ms far x (k + z)) (hz : 1 ≤ z) (n : x ∉ R (k + z)) : Prog ms far (addR R (k + z) x) k ys D :=
  ⟨g.gd.add h n, g.clo.mono (addR_sub _ _ _) fun i hi => addR_ne (by omega), (addR_ne (by omega)).trans g.row, fun s m d => (g.don s m d).mono (addR_sub _ _ _)⟩
theorem Prog.imp {ms : List Mv} {far : Nat} {R : Rws} {k : Nat} {ys : List Int} {D D' : Int → Mv → Prop} (g : Prog ms far R k ys D) (h : ∀ s m, D' s m → D s m ∨ Don far R k s m) : Prog ms far R k ys D' :=
  ⟨g.gd, g.clo, g.row, fun s m d => (h s m d).elim (g.don s m) id⟩
/-- the spots of the first rows -/
structure Fl (R : Rws) (i : Nat) (l : List (Int × Nat)) : Prop where
  iff : ∀ s o, (s, o) ∈ l ↔ o < i ∧ s ∈ R o
  nd : l.Nodup
  up : l.Pairwise fun a b => a.2 ≤ b.2
theorem Fl.zero (R : Rws) : Fl R 0 [] := ⟨fun s o => by simp, .nil, .nil⟩
theorem Fl.succ {R : Rws} {i : Nat} {l : List (Int × Nat)} (h : Fl R i l) (hn : (R i).Nodup) {ns : List Int} (hp : ns.Perm (R i)) : Fl R (i + 1) (l ++ ns.map fun s => (s, i)) where
  iff := fun s o => by
    rw [List.mem_append, h.iff, List.mem_map]
    constructor
    · rintro (⟨a, b⟩ | ⟨z, hz, e⟩)
      · exact ⟨by omega, b⟩
      · cases e
        exact ⟨Nat.lt_succ_self _, hp.mem_iff.mp hz⟩
    · rintro ⟨a, b⟩
      by_cases e : o = i
      · subst e
        exact .inr ⟨s, hp.mem_iff.mpr b, rfl⟩
      · exact .inl ⟨by omega, b⟩
  nd := by
    rw [List.nodup_append]
    refine ⟨h.nd, List.Pairwise.map (fun s => (s, i)) (fun a b hne e => hne (by cases e; rfl)) (hp.nodup_iff.mpr hn), fun a ha b hb e => ?_⟩
    obtain ⟨z, _, rfl⟩ := List.mem_map.mp hb
    subst e
    have := ((h.iff _ _).mp ha).1
    omega
  up := by
    rw [List.pairwise_append]
    refine ⟨h.up, ?_, fun a ha b hb => ?_⟩
    · rw [List.pairwise_map]
      exact List.pairwise_of_forall fun _ _ => Nat.le_refl _
    · obtain ⟨z, _, rfl⟩ := List.mem_map.mp hb
      have := ((h.iff a.1 a.2).mp ha).1
      show a.2 ≤ i
      omega
theorem Fl.rs {ms : List Mv} {far : Nat} {R : Rws} {l : List (Int × Nat)} (gm : Mvs ms) (h : Fl R (far + 1) l) (g : Gd ms far R) (c : Clo ms far R far) : RS ms far l where
  iff := fun s o => by
    rw [h.iff]
    constructor
    · exact fun z => g.sound _ _ z.2
    · intro hr
      have hle : o ≤ far := (hr.le gm).1
      refine ⟨by omega, ?_⟩
      induction hr with
      | start => exact g.zero
      | step h1 hm ho h2 h3 ih =>
        have hl := (gm.g _ hm).1
        have h4 := (h1.le gm).1
        exact c _ (by omega) _ (ih (by omega)) _ hm ho _ h2 h3
  nd := h.nd
  up := h.up
section
variable {P : Program} {w : World} {K : PySem.W.Frag} {mg : Str → Option Value} {base : Heap}
abbrev N_reached : List Str := ["moves", "far", "rows", "k", "offset", "state", "move", "size"]
abbrev s_reached : Stmt := top 16
theorem sc_reached : FnScope ["moves", "far", "rows", "k", "offset", "state", "move", "size"] ["moves", "far"] (defScope s_reached) := ⟨rfl, rfl, rfl, by decide +kernel, rfl, by decide +kernel, by decide +kernel⟩
def Rreached (ds : List PyData) (Z : PyData → Prop) : Prop := ∃ (ms : List Mv) (far : Nat), Mvs ms ∧ far ≤ 1000 ∧ ds = [mvs ms, .int (far : Int)] ∧ Z = fun d => ∃ l, RS ms far l ∧ d = .list (l.map spt)
theorem ok_reached (F : DefA K mg "reached" s_reached) (B : Blt mg) : C8.Cal P w K mg base 1 "reached" (spN K [] Rreached) [] := by
  refine cal_by F sc_reached rfl rfl rfl (fun _ _ _ _ _ _ us hl => match us, hl with | [_, _], _ => rfl) (spN_len fun ds d ⟨_, _, _, _, e, _⟩ => by rw [e]; rfl) fun f cdv A outer s H vs Q E hr h => ?_
  obtain ⟨L, ds, Z, _, hL, hd, ⟨ms, far, g, hfar, rfl, rfl⟩, k⟩ := h
  have o := w0 K L
  have hu4 : _ + 64 < cLine := hr.units
  have S := Sl.start (C := W0 K L) (N := N_reached) hd
  refine ⟨_, (pss_c (ps_set (i := 2) sc_reached.nd rfl (Or.inr rfl) (pe_lc (own := [("k", 3)]) rfl sc_reached.nd (pi_range1 (by rfl) B.range (pa_cons (pe_op op_add (pv 1) pe_int) pa_nil)) (blkOk_by (N := N_reached) (sc := defScope s_reached) (by decide +kernel)) (fun _ _ _ _ _ => (pg_name (i := 3) sc_reached.nd rfl (Or.inl rfl))) (fun _ _ _ _ _ => pts_nil) (fun _ _ _ _ _ => (pe_lst pa_nil))))
  (pss_c (ps_expr (pe_bm PySem.F.plainAttrs_list PySem.F.slot_list_append PySem.F.type_list_append mt_append (pe_ix ix_seq (pv 2) pe_int (fun _ _ => rfl)) (pa_cons pe_int pa_nil)))
  (pss_c (ps_for PassesOwn.never rfl (pi_range1 (by rfl) B.range (pa_cons (pv 1) pa_nil)) (pg_name (i := 4) sc_reached.nd rfl (Or.inl rfl)) (pss_one (ps_for PassesOwn.never rfl (pi_list (pe_callTy call_list_of (by rfl) B.list (by decide +kernel) (pa_cons (pe_ix ix_seq (pv 2) (pv 4) (fun _ _ => rfl)) pa_nil))) (pg_name (i := 5) sc_reached.nd rfl (Or.inl rfl)) (pss_one (ps_for PassesOwn.never rfl (pi_tup (pv 0)) (pg_name (i := 6) sc_reached.nd rfl (Or.inl rfl)) (pss_one (ps_if (pt_cmpR (op_Q hu4) (pe_ix ix_seq (pv 6) pe_int (fun _ _ => rfl)) (pv 5) (nomark _)) (pss_one (ps_for PassesOwn.never rfl (pi_range2 (by rfl) B.range (pa_cons (pe_ix ix_seq (pv 6) pe_int (fun _ _ => rfl)) (pa_cons (pe_op op_add (pe_callB (call_min2 rfl) (by rfl) B.min (by decide +kernel) (pa_cons (pe_ix ix_seq (pv 6) pe_int (fun _ _ => rfl)) (pa_cons (pe_op op_sub (pv 1) (pv 4)) pa_nil))) pe_int) pa_nil))) (pg_name (i := 7) sc_reached.nd rfl (Or.inl rfl)) (pss_one (ps_if (pt_cmpR op_notIn_seq (pe_ix ix_seq (pv 6) pe_int (fun _ _ => rfl)) (pe_ix ix_seq (pv 2) (pe_op op_add (pv 4) (pv 7)) (fun _ _ => rfl)) (by rfl)) (pss_one (ps_expr (pe_bm PySem.F.plainAttrs_list PySem.F.slot_list_append PySem.F.type_list_append mt_append (pe_ix ix_seq (pv 2) (pe_op op_add (pv 4) (pv 7)) (fun _ _ => rfl)) (pa_cons (pe_ix ix_seq (pv 6) pe_int (fun _ _ => rfl)) pa_nil)))) pss_nil)))) pss_nil)))))))
  (pss_one (ps_ret (pe_lc2 (own := [("offset", 4), ("state", 5)]) (vs1 := [5]) rfl sc_reached.nd (pi_range1 (by rfl) B.range (pa_cons (pe_op op_add (pv 1) pe_int) pa_nil)) (blkOk_by (N := N_reached) (sc := defScope s_reached) (by decide +kernel)) (by decide) (fun _ _ _ _ _ => (pg_name (i := 4) sc_reached.nd rfl (Or.inl rfl))) (fun _ _ _ _ _ => pts_nil) (fun _ _ _ _ _ => (show PI _ _ _ (iList K _) from pi_list (pe_callB (r := rSorted K) cr_sorted (by rfl) B.sorted (by decide +kernel) (pa_cons (pe_ix (r := rIx K) ix_seq (pv 2) (pv 4) (fun _ _ => rfl)) pa_nil)))) (fun _ _ _ _ _ => (pg_name (i := 5) sc_reached.nd rfl (Or.inl rfl))) (fun _ _ _ _ _ => pts_nil) (fun _ _ _ _ _ => (pe_tup (pa_cons (pv 5) (pa_cons (pv 4) pa_nil)))))))))), ?_⟩
  unfold tAsg tLc
  refine i_rng1 o (n := (far : Int) + 1) ?_ (by omega) (by omega) fun H1 w1 => ?_
  · exact a_cons o (e_add o (e_var o S rfl) (e_int o)) (a_nil o)
  refine (fun D hD => lc_range (lo := 0) (n := ((far : Int) + 1).toNat) (fun i H' => ∃ as : List Addr, as.length = i ∧ H' D = some (.lst (as.map V.ref)) ∧ (∀ a ∈ as, H1 a = none ∧ H' a = some (.lst [])) ∧ as.Nodup ∧ D ∉ as ∧ Kp (· = D) (upd H1 D (.lst [])) H')
    ⟨[], rfl, upd_same, fun a ha => by simp at ha, .nil, by simp, Kp.refl _ _⟩ (fun i H2 hi ⟨as, h1, h2, h3, h4, h5, h6⟩ => ⟨by simp [wipe], ?_⟩) (fun H2 ⟨as, h1, h2, h3, h4, h5, h6⟩ => ?_))
  · dsimp only [tYes]
    rw [if_pos rfl]
    refine ⟨Nat.zero_le _, fun q hq => ?_⟩
    have hqD : D ≠ q := fun e => by rw [e, hq] at h2; cases h2
    have hq1 : q ∉ as := fun z => by have := (h3 q z).2; rw [hq] at this; cases this
    refine ⟨as.map V.ref, by rw [upd_ne hqD]; exact h2, lt_size (by rw [List.length_map]; omega), as ++ [q], by rw [List.length_append, h1]; rfl, by rw [upd_same, List.map_append]; rfl, fun a ha => ?_, ?_, ?_, ?_⟩
    · rcases List.mem_append.mp ha with z | z
      · have hne : a ≠ D := fun e => h5 (e ▸ z)
        have hne2 : a ≠ q := fun e => hq1 (e ▸ z)
        exact ⟨(h3 a z).1, by rw [upd_ne hne, upd_ne hne2]; exact (h3 a z).2⟩
      · rw [List.mem_singleton.mp z]
        have hf := h6.free hq
        rw [upd_ne (fun e => hqD e.symm)] at hf
        exact ⟨hf, by rw [upd_ne (fun e => hqD e.symm), upd_same]⟩
    · rw [List.nodup_append]
      exact ⟨h4, by simp, fun a ha b hb => by rw [List.mem_singleton.mp hb]; exact fun e => hq1 (e ▸ ha)⟩
    · intro z
      rcases List.mem_append.mp z with z | z
      · exact h5 z
      · exact hqD (List.mem_singleton.mp z)
    · exact (h6.trans (Kp.new hq)).put (.inr rfl) (by rw [upd_ne hqD, h2]; trivial)
  · have hlen : as.length = far + 1 := by omega
    have kp2 : Kp No H1 H2 := (Kp.new hD).loc hD h6
    have kp02 : Kp No H H2 := w1.trans kp2
    have fr : ∀ a, a = D ∨ a ∈ as → H1 a = none := fun a h => h.elim (fun e => e ▸ hD) fun z => (h3 a z).1
    have fr0 : ∀ a, a = D ∨ a ∈ as → H a = none := fun a h => w1.free (fr a h)
    have st2 : ∀ a, a = D ∨ a ∈ as → H2 a ≠ none := fun a h => by
      rcases h with rfl | z
      · rw [h2]; exact fun z => by cases z
      · rw [(h3 a z).2]; exact fun z => by cases z
    generalize hL1 : (fun a => L a ∨ (a = D ∨ a ∈ as)) = L1
    have hL1' : ∀ a, L1 a ↔ L a ∨ (a = D ∨ a ∈ as) := fun a => by rw [← hL1]
    have hM : ∀ a, a ∈ as → L1 a := fun a z => (hL1' a).mpr (.inr (.inr z))
    have un2 : ∀ a, L1 a → H2 a ≠ none := fun a z => ((hL1' a).mp z).elim (kp02.un hL a) (st2 a)
    have o1 := w0 K L1
    have S2 : Sl (W0 K L1) H2 _ _ := (S.to (C' := W0 K L1) (H' := H2) fun v d h => DT.step (M := No) (fun _ z => z.elim) kp02 (DT.more (fun a z => ((hL1' a).mp z).elim .inl fun z => .inr (fr0 a z)) h)).putV (i := 2) (v := .ref D)
    have rw2 : Rw H2 D as fun _ => [] := ⟨h2, fun i a e => (h3 a (List.mem_of_getElem? e)).2, h4⟩
    obtain ⟨a0, ha0⟩ : ∃ a0, as[0]? = some a0 := ⟨as[0]'(by omega), List.getElem?_eq_getElem _⟩
    -- rows[0].append(0)
    refine s_appE (a := a0) (xs := []) (e_at o1 (i := 0) (e_val o1 S2 rfl) (e_int o1) (fun H' w => w.lst (fun z => z.elim) rw2.top) (by rw [List.getElem?_map, ha0]; rfl)) (fun H' w => (rw2.keep w).row 0 a0 ha0) (lt_size (Nat.zero_le _)) (e_int o1) fun v H3 w3 r3 hx3 => ?_
    have ev : v = .int 0 := r3.intI
    subst ev
    have rw3 : Rw (upd H3 a0 (.lst ([] ++ [.int 0]))) D as (addR (fun _ => []) 0 0) := (rw2.keep w3).add ha0 h5
    have k3 : Kp (· ∈ as) H2 (upd H3 a0 (.lst ([] ++ [.int 0]))) := (w3.mono fun _ z => z.elim).put (.inr (List.mem_of_getElem? ha0)) (by rw [hx3]; trivial)
    have S3 := S2.step hM k3
    generalize upd H3 a0 (.lst ([] ++ [.int 0])) = H4 at rw3 k3 S3 ⊢
    have g3 : Gd ms far (addR (fun _ => []) 0 0) := by
      refine ⟨fun i s hs => ?_, by rw [addR_same]; simp, fun i => ?_⟩
      · unfold addR at hs
        split at hs
        · rename_i e; subst e
          have : s = 0 := by simpa using hs
          rw [this]; exact .start
        · cases hs
      · unfold addR
        split
        · simp
        · exact .nil
    refine s_for1 o1 (n := (far : Int)) (a_cons o1 (e_var o1 S3 rfl) (a_nil o1)) (by omega) (by omega)
      (fun i σ' H' => Kp (· ∈ as) H2 H' ∧ ∃ x3 x4 x5 x6 x7 R, Sl (W0 K L1) H' σ' [.da (mvs ms), .da (.int far), .va (.ref D), x3, x4, x5, x6, x7] ∧ Rw H' D as R ∧ Gd ms far R ∧ Clo ms far R i)
      (fun H' w => ⟨k3.trans (w.mono fun _ z => z.elim), .un, .un, .un, .un, .un, _, S3.mono o1 w, rw3.keep w, g3, fun i hi => absurd hi (by omega)⟩) (fun i σ5 H5 hi ⟨k5, x3, x4, x5, x6, x7, R, S5, rw5, g5, c5⟩ => ?_) (fun σ5 H5 ⟨k5, x3, x4, x5, x6, x7, R, S5, rw5, g5, c5⟩ => ?_)
    · -- one offset
      have S6 := S5.putD (i := 4) (DT.int (i : Int))
      obtain ⟨ai, hai⟩ : ∃ ai, as[i]? = some ai := ⟨as[i]'(by omega), List.getElem?_eq_getElem _⟩
      refine s_forN o1 (M := (· ∈ as)) (e_listI o1 (zs := R i) (k5.un un2) (e_at o1 (i := i) (e_val o1 S6 rfl) (e_var o1 S6 rfl) (fun H' w => w.lst (fun z => z.elim) rw5.top) (by rw [List.getElem?_map, hai]; rfl)) fun H' w => (rw5.keep w).row i ai hai)
        (fun j σ' H' => Kp (· ∈ as) H2 H' ∧ ∃ x3 x5 x6 x7 R', Sl (W0 K L1) H' σ' [.da (mvs ms), .da (.int far), .va (.ref D), x3, .da (.int (i : Int)), x5, x6, x7] ∧ Rw H' D as R' ∧ Prog ms far R' i (R i) fun s m => s ∈ (R i).take j ∧ m ∈ ms) hM
        (fun H' w => ⟨k5.trans (w.mono fun _ z => z.elim), _, _, _, _, R, S6.mono o1 w, rw5.keep w, g5, c5, rfl, fun s m d => by simp at d⟩) (fun H6 w6 j d v σ7 H7 hj rd k67 ⟨k7, y3, y5, y6, y7, R7, S7, rw7, p7⟩ => ?_) (fun H6 w6 σ7 H7 k67 ⟨k7, y3, y5, y6, y7, R7, S7, rw7, p7⟩ => ?_)
      · rw [List.getElem?_map] at hj
        cases hs : (R i)[j]? with
        | none => rw [hs] at hj; cases hj
        | some st =>
          rw [hs] at hj
          cases hj
          have S8 := S7.putD (i := 5) rd
          have hreach : Reach ms far st i := p7.gd.sound i st (by rw [p7.row]; exact List.mem_of_getElem? hs)
          refine s_forTN o1 (ds := ms.map Mv.d) (M := (· ∈ as)) (e_var o1 S8 rfl)
            (fun q σ' H' => Kp (· ∈ as) H2 H' ∧ Kp (· ∈ as) H6 H' ∧ ∃ x3 x6 x7 R', Sl (W0 K L1) H' σ' [.da (mvs ms), .da (.int far), .va (.ref D), x3, .da (.int (i : Int)), .da (.int st), x6, x7] ∧ Rw H' D as R' ∧ Prog ms far R' i (R i) fun s m => (s ∈ (R i).take j ∧ m ∈ ms) ∨ (s = st ∧ m ∈ ms.take q)) hM
            (fun H' w => ⟨k7.trans (w.mono fun _ z => z.elim), k67.trans (w.mono fun _ z => z.elim), _, _, _, R7, S8.mono o1 w, rw7.keep w, p7.imp fun s m d => .inl (by simpa using d)⟩) (fun H8 w8 q d v σ9 H9 hq rd9 k89 ⟨k9, k69, z3, z6, z7, R9, S9, rw9, p9⟩ => ?_) (fun H8 w8 σ9 H9 k89 ⟨k9, k69, z3, z6, z7, R9, S9, rw9, p9⟩ => ?_)
          · rw [List.getElem?_map] at hq
            cases hm : ms[q]? with
            | none => rw [hm] at hq; cases hq
            | some m =>
              rw [hm] at hq
              cases hq
              have hmm : m ∈ ms := List.mem_of_getElem? hm
              obtain ⟨g1, g2, g3'⟩ := g.g m hmm
              have S10 := S9.putD (i := 6) rd9
              have htk : ∀ m', m' ∈ ms.take (q + 1) → m' ∈ ms.take q ∨ m' = m := fun m' h => by
                rw [List.take_add_one, hm] at h
                simpa using h
              refine s_if o1 (t_test o1 (e_eqI o1 (e_mv o1 (m := m) (e_var o1 S10 rfl) 0) (e_var o1 S10 rfl))) (fun cc H10 w10 => ?_) (fun cc H10 w10 => ?_)
              · have S11 := S10.mono o1 w10
                have hcc : m.o = st := of_decide_eq_true cc
                refine s_for2 o1 (a := m.l) (b := min m.m ((far : Int) - i) + 1) (a_cons o1 (e_mv o1 (m := m) (e_var o1 S11 rfl) 3) (a_cons o1 (e_add o1 (e_min2 o1 (e_mv o1 (m := m) (e_var o1 S11 rfl) 4) (e_sub o1 (e_var o1 S11 rfl) (e_var o1 S11 rfl))) (e_int o1)) (a_nil o1))) (by omega) (by omega) (by omega) (by omega)
                  (fun r σ' H' => Kp (· ∈ as) H10 H' ∧ ∃ x3 x7 R', Sl (W0 K L1) H' σ' [.da (mvs ms), .da (.int far), .va (.ref D), x3, .da (.int (i : Int)), .da (.int st), .da m.d, x7] ∧ Rw H' D as R' ∧ (Prog ms far R' i (R i) fun s m => (s ∈ (R i).take j ∧ m ∈ ms) ∨ (s = st ∧ m ∈ ms.take q)) ∧ ∀ z, m.l ≤ z → z < m.l + r → m.t ∈ R' (i + z.toNat))
                  (fun H' w => ⟨w.mono fun _ z => z.elim, _, _, R9, S11.mono o1 w, (rw9.keep w10).keep w, p9, fun z h1 h2 => by omega⟩) (fun r σ12 H12 hr12 ⟨k12, t3, t7, R12, S12, rw12, p12, d12⟩ => ?_) (fun σ12 H12 ⟨k12, t3, t7, R12, S12, rw12, p12, d12⟩ => ?_)
                · have S13 := S12.putD (i := 7) (DT.int (m.l + (r : Int)))
                  have un12 : ∀ a, L1 a → H12 a ≠ none := (k9.trans ((w10.mono fun _ z => z.elim).trans k12)).un un2
                  have hz : i + (m.l + (r : Int)).toNat < as.length := by omega
                  obtain ⟨az, haz⟩ : ∃ az, as[i + (m.l + (r : Int)).toNat]? = some az := ⟨as[i + (m.l + (r : Int)).toNat]'hz, List.getElem?_eq_getElem _⟩
                  have ez : (i : Int) + (m.l + (r : Int)) = ((i + (m.l + (r : Int)).toNat : Nat) : Int) := by omega
                  have hrow : ∀ {H' : Hp} {σ' : L2.St} {y3 : Ds}, Kp No H12 H' → Sl (W0 K L1) H' σ' [.da (mvs ms), .da (.int far), .va (.ref D), y3, .da (.int (i : Int)), .da (.int st), .da m.d, .da (.int (m.l + (r : Int)))] → Ee (W0 K L1) (tOp (rIx K) (tVar 2) (tOp (rI0 fun i j => .int (i + j)) (tVar 4) (tVar 7))) σ' H' (.ref az) := fun {H' σ' y3} w' S' =>
                    e_at o1 (i := i + (m.l + (r : Int)).toNat) (e_val o1 S' rfl) (by have := e_add o1 (e_var o1 S' (i := 4) rfl) (e_var o1 S' (i := 7) rfl); rw [ez] at this; exact this) (fun H'' w'' => w''.lst (fun z => z.elim) (rw12.keep w').top) (by rw [List.getElem?_map, haz]; rfl)
                  refine s_if o1 (t_test o1 (e_notInI o1 (x := m.t) (zs := R12 (i + (m.l + (r : Int)).toNat)) (e_mv o1 (m := m) (e_var o1 S13 rfl) 1) (hrow (Kp.refl _ _) S13) fun H' w => (rw12.keep w).row _ az haz)) (fun c13 H13 w13 => ?_) (fun c13 H13 w13 => ?_)
                  · have S14 := S13.mono o1 w13
                    have hni : m.t ∉ R12 (i + (m.l + (r : Int)).toNat) := by simpa using c13
                    refine s_appE (hrow w13 S14) (fun H' w => ((rw12.keep w13).keep w).row _ az haz) (lt_size (by rw [List.length_map]; have := p12.gd.len g (i + (m.l + (r : Int)).toNat); omega)) (e_mv o1 (m := m) (e_var o1 S14 rfl) 1) fun v H14 w14 r14 hx14 => ?_
                    have ev : v = .int m.t := r14.intI
                    subst ev
                    have k15 : Kp (· ∈ as) H12 (upd H14 az (.lst ((R12 (i + (m.l + (r : Int)).toNat)).map V.int ++ [.int m.t]))) := ((w13.trans w14).mono fun _ z => z.elim).put (.inr (List.mem_of_getElem? haz)) (by rw [hx14]; trivial)
                    have k15' : Kp (· ∈ as) H14 (upd H14 az (.lst ((R12 (i + (m.l + (r : Int)).toNat)).map V.int ++ [.int m.t]))) := (Kp.refl _ _).put (.inr (List.mem_of_getElem? haz)) (by rw [hx14]; trivial)
                    refine ⟨k12.trans k15, _, _, addR R12 (i + (m.l + (r : Int)).toNat) m.t, (S14.mono o1 w14).step hM k15', ((rw12.keep w13).keep w14).add haz h5, p12.add (.step hreach hmm hcc (by omega) (by omega)) (by omega) hni, fun z h1 h2 => ?_⟩
                    by_cases e : z < m.l + r
                    · exact addR_sub _ _ _ _ _ (d12 z h1 e)
                    · have : z = m.l + r := by omega
                      subst this
                      rw [addR_same]
                      simp
                  · have hi13 : m.t ∈ R12 (i + (m.l + (r : Int)).toNat) := by simpa using c13
                    refine ⟨k12.trans (w13.mono fun _ z => z.elim), _, _, R12, S13.mono o1 w13, rw12.keep w13, p12, fun z h1 h2 => ?_⟩
                    by_cases e : z < m.l + r
                    · exact d12 z h1 e
                    · have : z = m.l + r := by omega
                      subst this
                      exact hi13
                · have kk : Kp (· ∈ as) H9 H12 := (w10.mono fun _ z => z.elim).trans k12
                  refine ⟨k89.trans kk, k9.trans kk, k69.trans kk, _, _, _, R12, S12, rw12, p12.imp fun s m' d => ?_⟩
                  rcases d with d | ⟨rfl, d⟩
                  · exact .inl (.inl d)
                  · rcases htk m' d with d | rfl
                    · exact .inl (.inr ⟨rfl, d⟩)
                    · exact .inr fun _ z h1 h2 => d12 z h1 (by omega)
              · have hcc : ¬ m.o = st := of_decide_eq_false cc
                have kk : Kp (· ∈ as) H9 H10 := w10.mono fun _ z => z.elim
                refine ⟨k89.trans kk, k9.trans kk, k69.trans kk, _, _, _, R9, S10.mono o1 w10, rw9.keep w10, p9.imp fun s m' d => ?_⟩
                rcases d with d | ⟨rfl, d⟩
                · exact .inl (.inl d)
                · rcases htk m' d with d | rfl
                  · exact .inl (.inr ⟨rfl, d⟩)
                  · exact .inr fun e => absurd e hcc
          · refine ⟨k69, k9, _, _, _, _, R9, S9, rw9, p9.imp fun s m d => ?_⟩
            rw [List.take_add_one, hs] at d
            rcases List.mem_append.mp d.1 with z | z
            · exact .inl (.inl ⟨z, d.2⟩)
            · have : s = st := by simpa using z
              refine .inl (.inr ⟨this, ?_⟩)
              rw [List.length_map, List.take_length]
              exact d.2
      · rw [List.length_map] at p7
        refine ⟨k7, _, _, _, _, _, R7, S7, rw7, p7.gd, fun i' hi' s hs m hm => ?_⟩
        by_cases e : i' < i
        · exact p7.clo i' e s hs m hm
        · have : i' = i := by omega
          subst this
          rw [p7.row] at hs
          exact p7.don s m ⟨by rw [List.take_length]; exact hs, hm⟩
    · -- the list of spots
      rw [Int.toNat_natCast] at c5
      have k05 : Kp No H H5 := kp02.hide k5 fun c z => .inl (fr0 c (.inr z))
      unfold tRet tLc2
      refine i_rng1 o1 (n := (far : Int) + 1) ?_ (by omega) (by omega) fun H6 w6 => ?_
      · exact a_cons o1 (e_add o1 (e_var o1 S5 rfl) (e_int o1)) (a_nil o1)
      intro D2 hD2
      have e1 : ((far : Int) + 1).toNat = far + 1 := by omega
      rw [e1]
      have S6 := ((S5.mono o1 w6).own hD2 (.lst []))
      have hM2 : ∀ a, a = D2 → Lp L1 D2 a := fun a e => .inr e
      have o2 := w0 K (Lp L1 D2)
      have rw6 := (rw5.keep w6).keep (Kp.new (o := .lst []) hD2)
      generalize hH7 : upd H6 D2 (.lst []) = H7 at S6 rw6
      have hD7 : H7 D2 = some (.lst []) := by rw [← hH7]; exact upd_same
      have un7 : ∀ a, Lp L1 D2 a → H7 a ≠ none := by rw [← hH7]; exact own_un ((k5.trans (w6.mono fun _ z => z.elim)).un un2) _
      have hDD : D2 ≠ D := fun e => by
        have := rw6.top
        rw [← e, hD7] at this
        have h9 : as.map V.ref = [] := (HO.lst.inj (Option.some.inj this)).symm
        have : as = [] := List.map_eq_nil_iff.mp h9
        rw [this] at hlen
        cases hlen
      have hDas : D2 ∉ as := fun z => by
        have := st2 D2 (.inr z)
        have h9 := (k5.trans (w6.mono fun _ z => z.elim)).free hD2
        exact this h9
      have rwk : ∀ {H' : Hp}, Kp (· = D2) H7 H' → Rw H' D as R := fun {H'} k' => ⟨k'.lst (fun z => hDD z.symm) rw6.top, fun i a e => k'.lst (fun z => hDas (z ▸ List.mem_of_getElem? e)) (rw6.row i a e), h4⟩
      refine ⟨fun i m H' => m = far + 1 - i ∧ i ≤ far + 1 ∧ Kp (· = D2) H7 H' ∧ ∃ xs l, H' D2 = some (.lst xs) ∧ DTs K (Lp L1 D2) H' xs (l.map spt) ∧ l.length ≤ 5 * i ∧ Fl R i l, ⟨_, rfl, Nat.zero_le _, Kp.refl _ _, [], [], hD7, .nil, Nat.zero_le _, Fl.zero R⟩, ?_⟩
      rintro i m H8 ⟨rfl, hi, k8, xs, l, hx, r8, hl8, f8⟩
      by_cases hlt : i < far + 1
      · refine .inr ⟨hlt, fun H' => Kp (· = D2) H7 H' ∧ ∃ xs l, H' D2 = some (.lst xs) ∧ DTs K (Lp L1 D2) H' xs (l.map spt) ∧ l.length ≤ 5 * (i + 1) ∧ Fl R (i + 1) l, fun H' ⟨k', q'⟩ => ⟨far + 1 - (i + 1), by omega, rfl, hlt, k', q'⟩, fun x H' hy => ?_⟩
        obtain ⟨rfl, rfl⟩ := hy
        have ei : (0 : Int) + (i : Int) = ((i : Nat) : Int) := by omega
        rw [ei]
        refine ⟨wipe_two _ (by decide) _, ?_⟩
        dsimp only [tYes]
        rw [if_pos rfl]
        have S8 := ((S6.step hM2 k8).wipe [4, 5]).putD (i := 4) (DT.int (i : Int))
        obtain ⟨ai, hai⟩ : ∃ ai, as[i]? = some ai := ⟨as[i]'(by omega), List.getElem?_eq_getElem _⟩
        refine e_at o2 (i := i) (e_val o2 S8 rfl) (e_var o2 S8 rfl) (fun H'' w'' => w''.lst (fun z => z.elim) (rwk k8).top) (by rw [List.getElem?_map, hai]; rfl) H' (o2.refl _) _ fun v H9 w9 e => ?_
        subst e
        have hl5 := g5.len g i
        refine ⟨ai, R i, rfl, SqL.of (((rwk k8).keep w9).row i ai hai), by omega, fun ns q hp hs hq => ?_⟩
        have hqD : D2 ≠ q := fun e => by
          have := (k8.trans (w9.mono fun _ z => z.elim)).free (p := D2) (by rw [e]; exact hq)
          rw [hD7] at this; cases this
        have w10 : Kp No H9 (upd H9 q (.lst (ns.map V.int))) := Kp.new hq
        have k10 : Kp (· = D2) H' (upd H9 q (.lst (ns.map V.int))) := (w9.trans w10).mono fun _ z => z.elim
        have hnl : ns.length ≤ 5 := by rw [hp.length_eq]; exact hl5
        refine ⟨q, rfl, ⟨_, SqL.of upd_same⟩, fun j kk H' => kk = ns.length - j ∧ j ≤ ns.length ∧ Kp (· = D2) (upd H9 q (.lst (ns.map V.int))) H' ∧ ∃ xs, H' D2 = some (.lst xs) ∧ DTs K (Lp L1 D2) H' xs ((l ++ (ns.take j).map fun s => (s, i)).map spt), ⟨_, rfl, Nat.zero_le _, Kp.refl _ _, xs, (w9.trans w10).lst (fun z => z.elim) hx, by simpa using DTs.mono o2 (w9.trans w10) r8⟩, ?_⟩
        rintro j kk H11 ⟨rfl, hj, k11, ys, hy11, r11⟩
        have hqs : H11 q = some (.lst (ns.map V.int)) := k11.lst (fun z => hqD z.symm) upd_same
        by_cases hjl : j < ns.length
        · refine .inr ⟨⟨_, .int ns[j], SqL.of hqs, by rw [List.getElem?_map, List.getElem?_eq_getElem hjl]; rfl⟩, fun H' => Kp (· = D2) (upd H9 q (.lst (ns.map V.int))) H' ∧ ∃ xs, H' D2 = some (.lst xs) ∧ DTs K (Lp L1 D2) H' xs ((l ++ (ns.take (j + 1)).map fun s => (s, i)).map spt), fun H' ⟨k', q'⟩ => ⟨ns.length - (j + 1), by omega, rfl, hjl, k', q'⟩, fun x H' hy => ?_⟩
          obtain ⟨rfl, hx'⟩ := hy
          have hxx := hx' _ (SqL.of hqs)
          rw [List.getElem?_map, List.getElem?_eq_getElem hjl] at hxx
          have hxx : V.int ns[j] = x := Option.some.inj hxx
          subst hxx
          have S12 := (((S8.step hM2 (k10.trans k11)).wipe [5])).putD (i := 5) (DT.int ns[j])
          refine ⟨by simp [wipe], ?_⟩
          dsimp only [tYes]
          rw [if_pos rfl]
          refine (show Ed (W0 K (Lp L1 D2)) (tTup (tCons (tVar 5) (tCons (tVar 4) tNil))) _ H' (.tuple [.int ns[j], .int (i : Int)]) from e_tup o2 (a_cons o2 (e_var o2 S12 rfl) (a_cons o2 (e_var o2 S12 rfl) (a_nil o2)))) H' (o2.refl _) _ fun v H12 w12 r12 => ?_
          have hy12 : H12 D2 = some (.lst ys) := w12.lst (fun z => z.elim) hy11
          have hly := r11.length
          have k13 : Kp (· = D2) H12 (upd H12 D2 (.lst (ys ++ [v]))) := (Kp.refl _ _).app hy12
          refine ⟨ys, hy12, lt_size (by rw [hly]; simp; omega), (k11.trans (w12.mono fun _ z => z.elim)).trans k13, _, upd_same, ?_⟩
          have r13 := DTs.step hM2 k13 ((DTs.mono o2 w12 r11).snoc r12)
          rw [List.take_add_one, List.getElem?_eq_getElem hjl]
          rw [show (l ++ (ns.take j ++ (some ns[j]).toList).map fun s => (s, i)).map spt = (l ++ (ns.take j).map fun s => (s, i)).map spt ++ [.tuple [.int ns[j], .int (i : Int)]] by
            rw [List.map_append (l₁ := ns.take j), ← List.append_assoc, List.map_append (l₁ := l ++ _)]
            rfl]
          exact r13
        · have ej : j = ns.length := by omega
          subst ej
          rw [List.take_length] at r11
          refine .inl ⟨⟨_, SqL.of hqs, by rw [List.length_map]; exact Nat.le_refl _⟩, (k8.trans k10).trans k11, ys, _, hy11, r11, by rw [List.length_append, List.length_map]; omega, f8.succ (g5.nd i) hp⟩
      · have ei : i = far + 1 := by omega
        subst ei
        refine .inl ⟨Nat.le_refl _, ?_⟩
        have kfin : Kp No H6 H8 := by
          rw [← hH7] at k8
          exact (Kp.new hD2).loc hD2 k8
        have hDf : H D2 = none := (k05.trans w6).free hD2
        refine k _ H8 _ ⟨l, f8.rs g g5 c5, rfl⟩ ((k05.trans w6).trans kfin) (.lst (fun z => hL D2 z hDf) hx (DTs.less (fun a z => .inl ((hL1' a).mpr (.inl z))) r8))
end
end SR

/-! Dct: dicts with tuples as keys; sorted of one. -/
namespace SR
open PySem PySem.Spec PyProof.Rows L2
section
variable {prog : Program} {w : World} {A : Around} {E : Value → Shared → Prop} {s : Shared}
theorem collect_src {T : String} {d : Addr} {n : Nat} {P : Nat → Value → Prop} {OK : Heap → Prop} {Q : List Value → Shared → Prop} (K : PySem.W.KdlSrc prog w T d d n P OK) (hh : A.handled = none) (hok : OK s.heap) (hn : n ≤ sizeLine)
    (hQ : ∀ h' tk acc', (∀ b o, s.heap.get? b = some o → h'.get? b = some o) → s.heap.objs.size ≤ h'.objs.size → ItemsOf P acc' n → Q acc'.toList { s with heap := h', toks := tk }) :
    wpAny (model prog w) A (collect (.ref d)) Q E s := by
  have hlt := (K.there _ hok).1
  unfold collect
  refine wpAny_bind (wpAny_runValue (codeAny_builtin F.entry_proto_collect ?_))
  rw [Around.under_plainId F.plain_proto_collect _]
  show wpAny _ A.in1 (newList [] >>= fun l => again (.builtin "list.__iadd__" ⟨[l, .ref d], []⟩)) _ _ s
  refine wpAny_bind (wpAny_newObj_type ?_)
  refine wpAny_pure ⟨plainId_quiet F.plain_list_iadd _, codeAny_builtin F.entry_list_iadd ?_⟩
  rw [Around.under_plainId F.plain_list_iadd _]
  have hS : (s.heap.push { cls := .type "list", data := .seq ([] : List Value).toArray }).get? s.heap.objs.size = some { cls := .type "list", data := .seq #[] } := Heap.get?_push_size _ rfl
  show wpAny _ A.in1 (Builtin.List.listExtendWith (.ref s.heap.objs.size) (.ref d) (.ref s.heap.objs.size)) _ _ _
  refine PySem.W.kdl_extend (A := A) (R := fun r s' => match r with | .ok (.ret v) => wpAny (model prog w) A (match v with | .ref a => (do match (← load a).data with | .seq xs _ => pure xs.toList | _ => unsupported "internal:collect") | _ => unsupported "internal:collect") Q E s' | .ok _ => False | .error e => E e s') (s := { s with heap := s.heap.push { cls := .type "list", data := .seq ([] : List Value).toArray } }) K hh (K.keep _ _ hok fun b _ o e => Heap.get?_push_of_some _ e) s.heap.objs.size (Nat.ne_of_gt hlt) (Nat.ne_of_gt hlt) (.ref s.heap.objs.size) 0 hS (fun h' tk acc' c' kp hS' it => ?_) hn
  show wpAny _ A (load s.heap.objs.size >>= _) _ _ _
  refine wpAny_bind (wpAny_load hS' ?_)
  refine wpAny_pure ?_
  exact hQ h' tk acc' (fun b o e => kp b o (Nat.ne_of_lt (Heap.lt_size e)) (Heap.get?_push_of_some _ e)) (Nat.le_of_lt (Heap.lt_size hS')) it
theorem sorted_src {T : String} {d : Addr} {n : Nat} {P : Nat → Value → Prop} {OK : Heap → Prop} {Q : Value → Shared → Prop} {β : Type} {R : Value → β → Prop} {enc : β → PyData} {bs : List β} (K : PySem.W.KdlSrc prog w T d d n P OK) (hh : A.handled = none) (hok : OK s.heap) (hn : n ≤ sizeLine)
    (hv : ∀ acc : Array Value, ItemsOf P acc n → PySem.W.EachIs R acc.toList bs ∧ PySem.W.EachIs (fun v b => ∃ as, Reads s.heap v (enc b) as) acc.toList bs) (hal : PySem.W.AllAlike (bs.map enc)) (hk : PySem.W.Sortable (bs.map enc)) (hL : bs.length ≤ sizeLine)
    (hu : ∀ b, b ∈ bs → A.units + 2 + (enc b).depth < cLine)
    (h : ∀ h' tk D c (out : List Value), (∀ b o, s.heap.get? b = some o → h'.get? b = some o) → s.heap.objs.size ≤ D → h'.get? D = some (seqObj "list" out.toArray c) → PySem.W.EachIs R out (bs.mergeSort (PySem.W.dataLe false enc)) → Q (.ref D) { s with heap := h', toks := tk }) :
    wpAny (model prog w) A (call (.builtin "sorted") [.ref d]) Q E s := by
  refine Calls.call_function_entry kind_sorted plain_sorted entry_sorted (args_sorted1 _) ?_
  unfold Builtin.«sorted»
  refine wpAny_bind (m := checkCount "sorted" 1 1 _) (wpAny_pure ?_)
  refine wpAny_bind (collect_src (A := A.in1) K hh hok hn fun h1 tk acc kp hz it => ?_)
  obtain ⟨e1, er⟩ := hv acc it
  have hvl : acc.toList.length ≤ sizeLine := by rw [e1.length]; exact hL
  refine wpAny_bind (wpAny_newList ?_ hvl)
  have hoL : (h1.push (seqObj "list" acc.toList.toArray 0)).get? h1.objs.size = some (seqObj "list" acc.toList.toArray 0) := Heap.get?_push_size _ rfl
  have kp2 : ∀ b o, s.heap.get? b = some o → (PySem.W.sortingHeap (h1.push (seqObj "list" acc.toList.toArray 0)) h1.objs.size acc.toList).get? b = some o := fun b o e =>
    PySem.W.sortingHeap_old (Nat.ne_of_lt (Nat.lt_of_lt_of_le (Heap.lt_size e) hz)) (Heap.get?_push_of_some _ (kp b o e))
  have er' : PySem.W.EachIs (fun v b => ∃ as, Reads (PySem.W.sortingHeap (h1.push (seqObj "list" acc.toList.toArray 0)) h1.objs.size acc.toList) v (enc b) as) acc.toList bs := er.mono fun _ _ ⟨as, r⟩ => ⟨as, PyProof.Rows.Reads.keeps kp2 r⟩
  refine wpAny_bind (wpAny_holding (wpAny_call_entry slot_list_sort ⟨_, hoL, rfl⟩ entry_list_sort (PySem.W.list_sort_vals (κ := PySem.W.dataKind (PySem.W.sortingHeap (h1.push (seqObj "list" acc.toList.toArray 0)) h1.objs.size acc.toList) (bs.map enc)) hoL
    (PySem.W.SortsAt.data (s := { s with heap := PySem.W.sortingHeap (h1.push (seqObj "list" acc.toList.toArray 0)) h1.objs.size acc.toList, toks := tk }) (PySem.W.each_map (R := fun v d => ∃ as, Reads (PySem.W.sortingHeap (h1.push (seqObj "list" acc.toList.toArray 0)) h1.objs.size acc.toList) v d as) enc er') hal hk (PySem.W.bound_map hu)) hvl ⟨_, rfl, ?_⟩) (args_list_sort _)))
  obtain ⟨c, hc⟩ := sortedHeap_at (vs := acc.toList) (out := (PySem.W.sortVals (PySem.W.dataKind (PySem.W.sortingHeap (h1.push (seqObj "list" acc.toList.toArray 0)) h1.objs.size acc.toList) (bs.map enc)) false acc.toList acc.toList).toArray) hoL
  refine wpAny_pure ⟨_, rfl, h _ tk h1.objs.size c _ (fun b o e => ?_) hz hc (PySem.W.sortVals_data false e1 er' hal)⟩
  have q := kp b o e
  have hlt := Heap.lt_size q
  rw [sortedHeap_old (Nat.ne_of_lt hlt) (by rw [size_push']; exact Nat.lt_succ_of_lt hlt)]
  exact Heap.get?_push_of_some _ q
end

/-- keys of whole numbers -/
abbrev iks (ns : List Int) : List L2.Key := ns.map Sum.inl
theorem kV_iks (ns : List Int) : (iks ns).map kV = ns.map V.int := by
  unfold iks
  rw [List.map_map]
  rfl
theorem iks_inj : ∀ {a b : List Int}, iks a = iks b → a = b
  | [], [], _ => rfl
  | [], _ :: _, h => by cases h
  | _ :: _, [], h => by cases h
  | x :: a, y :: b, h => by
    have h' : (Sum.inl x : L2.Key) = Sum.inl y ∧ iks a = iks b := List.cons.inj h
    rw [Sum.inl.inj h'.1, iks_inj h'.2]
theorem dataLe_tups {β : Type} (x : β → List Int) : PySem.W.dataLe false (fun b => .tuple ((x b).map .int)) = fun p q => decide (x p ≤ x q) := by
  funext p q
  show (!PySem.W.dataLt (.tuple ((x q).map .int)) (.tuple ((x p).map .int))) = _
  rw [PySem.W.dataLt_tuple]
  show (!PySem.W.rowLt ((x q).map .int) ((x p).map .int)) = _
  rw [PySem.W.dataLt_ints]
  by_cases h : x q < x p
  · have h' : ¬ x p ≤ x q := fun z => List.not_lt.mpr z h
    simp [h, h']
  · have h' : x p ≤ x q := List.not_lt.mp h
    simp [h, h']
theorem eachPaired {R : Value → (List Int × Addr) → Prop} {S : (List Int × Addr) → V → Prop} : ∀ {vs : List Value} {bs : List (List Int × Addr)}, PySem.W.EachIs R vs bs → (∀ v b, R v b → v = .ref b.2) → vs = bs.map fun b => Value.ref b.2
  | _, _, .nil, _ => rfl
  | _, _, .cons h t, f => by rw [f _ _ h, eachPaired (S := S) t f]; rfl
/-- sorted of a dict whose keys are tuples of whole numbers -/
def rSortedD : List V → Hp → VK → Prop := fun vs H Q => ∃ (a : Addr) (kvs : List (List L2.Key × V)) (ks : List (List Int)), vs = [.ref a] ∧ H a = some (.dT kvs) ∧ kvs.map (·.1) = ks.map iks ∧ (∀ k ∈ ks, k ≠ []) ∧
  ∀ (bs : List (List Int × Addr)) (D : Addr), (bs.map (·.1)).Perm ks → (bs.map (·.1)).Pairwise (· ≤ ·) → (∀ b ∈ bs, H b.2 = some (.tup (b.1.map V.int))) → H D = none → Q (.ref D) (upd H D (.lst (bs.map fun b => V.ref b.2)))
section
variable {X : Cx}
theorem cr_sortedD (hc : X.calm = true) (hu : X.A.units + 64 < cLine) : CallR X (.builtin "sorted") rSortedD := by
  intro pins s σ H vs us Q I r h
  obtain ⟨d, kvs, ks, rfl, hd, hks, hne, q⟩ := h
  obtain ⟨u, rfl, rx⟩ := r.one
  cases rx
  obtain ⟨z, hs, xs, pr, o, es, ep, ho, hx, hdt, he, hn⟩ := (show ObjOk X.prog X.w H s.heap d (.dT kvs) from I.hok d _ hd)
  have l1 : es.size = xs.length := size_of_entries he
  have l2 : kvs.length = xs.length := Paired.length pr
  -- the keys with their tuples
  obtain ⟨bs, hbs1, hbs2, hbs3⟩ : ∃ bs : List (List Int × Addr), bs.map (·.1) = ks ∧ (bs.map fun b => b.2) = xs.map (fun x => x.2.1) ∧ ∀ b ∈ bs, b.1 ≠ [] ∧ H b.2 = some (.tup (b.1.map V.int)) := by
    clear he hn l1 l2 ho hdt q hd z
    induction pr generalizing ks with
    | nil =>
      cases ks with
      | nil => exact ⟨[], rfl, rfl, fun b hb => by simp at hb⟩
      | cons k r => simp at hks
    | @cons p x kr xr hp ht ih =>
      cases ks with
      | nil => simp at hks
      | cons k r =>
        rw [List.map_cons, List.map_cons, List.cons.injEq] at hks
        obtain ⟨bs, b1, b2, b3⟩ := ih r hks.2 fun k hk => hne k (List.mem_cons_of_mem _ hk)
        refine ⟨(k, x.2.1) :: bs, by rw [List.map_cons, b1], by rw [List.map_cons, List.map_cons, b2], fun b hb => ?_⟩
        rcases List.mem_cons.mp hb with rfl | hb
        · refine ⟨hne k List.mem_cons_self, ?_⟩
          have := hp.2.1
          rw [hks.1, kV_iks] at this
          exact this
        · exact b3 b hb
  have lb : bs.length = xs.length := by have := congrArg List.length hbs2; rw [List.length_map, List.length_map] at this; exact this
  refine sorted_src (β := List Int × Addr) (R := fun v b => v = .ref b.2 ∧ H b.2 = some (.tup (b.1.map V.int))) (enc := fun b => .tuple (b.1.map .int)) (bs := bs) (kdl_raw hs hx hdt) (I.ok.hd hc) ho (by omega) (fun acc it => ?_) ?_ ?_ (by omega) (fun b hb => ?_) fun h' tk D c out kp hD hO eo => ?_
  · have ea : acc.toList = bs.map fun b => Value.ref b.2 := by
      have hl : acc.toList.length = bs.length := by rw [Array.length_toList, it.1]; omega
      apply List.ext_getElem?
      intro j
      rw [List.getElem?_map]
      cases hj : acc.toList[j]? with
      | none =>
        have h1 := List.getElem?_eq_none_iff.mp hj
        rw [List.getElem?_eq_none (by omega)]
        rfl
      | some v =>
        obtain ⟨en, hen, hv⟩ := it.2 j v (by rw [← Array.getElem?_toList]; exact hj)
        have qe := entry_at he j
        rw [hen] at qe
        cases hb : xs[j]? with
        | none =>
          rw [hb] at qe
          exact nomatch (show some en = none from qe)
        | some b =>
          rw [hb] at qe
          have e2 : en = entryOfKey (tupleKind (mixKind X.prog X.w)) b := Option.some.inj qe
          have h3 : (bs.map fun b => b.2)[j]? = some b.2.1 := by rw [hbs2, List.getElem?_map, hb]; rfl
          rw [List.getElem?_map] at h3
          cases h4 : bs[j]? with
          | none => rw [h4] at h3; cases h3
          | some c =>
            rw [h4] at h3
            have h5 : c.2 = b.2.1 := Option.some.inj h3
            rw [hv, e2]
            show some (Value.ref b.2.1) = some (Value.ref c.2)
            rw [h5]
    rw [ea]
    clear ea it hbs1 hbs2 lb q
    induction bs with
    | nil => exact ⟨.nil, .nil⟩
    | cons b r ih =>
      obtain ⟨i1, i2⟩ := ih fun b hb => hbs3 b (List.mem_cons_of_mem _ hb)
      have hb := (hbs3 b List.mem_cons_self).2
      refine ⟨.cons ⟨rfl, hb⟩ i1, .cons ?_ i2⟩
      have dp : Dp X.K H (.ref b.2) (.tuple (b.1.map .int)) := .tup (SqT.of hb) (DTs.dp (L := fun _ => False) DTs.ints)
      exact Dp.reads I _ _ _ dp rfl
  · exact PySem.W.AllAlike.of fun b b' => by
      show PySem.W.alike (.tuple (b.1.map .int)) (.tuple (b'.1.map .int)) = true
      simp only [PySem.W.alike]
      exact PySem.W.alike_ints _ _
  · refine .inl fun d hd => ?_
    obtain ⟨b, hb, rfl⟩ := List.mem_map.mp hd
    obtain ⟨h1, _⟩ := hbs3 b hb
    cases hb1 : b.1 with
    | nil => exact absurd hb1 h1
    | cons i r => exact ⟨.int i, r.map .int, rfl⟩
  · show X.A.units + 2 + (PyData.depthAll (b.1.map .int) + 1) < cLine
    rw [PySem.W.depth_ints]
    omega
  · have eo1 : out = (bs.mergeSort (PySem.W.dataLe false fun b => .tuple (b.1.map .int))).map fun b => Value.ref b.2 := eachPaired (S := fun _ _ => True) eo fun v b h => h.1
    have pm := List.mergeSort_perm bs (PySem.W.dataLe false fun b => .tuple (b.1.map .int))
    have hp : (bs.mergeSort (PySem.W.dataLe false fun b => .tuple (b.1.map .int))).Pairwise fun a b => a.1 ≤ b.1 := by
      have hle := dataLe_tups (β := List Int × Addr) (fun b => b.1)
      have := List.pairwise_mergeSort (le := PySem.W.dataLe false fun b : List Int × Addr => .tuple (b.1.map .int)) (fun a b c h1 h2 => by
        rw [hle] at h1 h2 ⊢
        simp only [decide_eq_true_eq] at h1 h2 ⊢
        exact List.le_trans h1 h2) (fun a b => by
        rw [hle]
        simp only [Bool.or_eq_true, decide_eq_true_eq]
        exact List.le_total _ _) bs
      refine this.imp fun {a b} h => ?_
      rw [hle] at h
      exact of_decide_eq_true h
    generalize bs.mergeSort (PySem.W.dataLe false fun b => .tuple (b.1.map .int)) = ms at eo1 pm hp
    have lm : ms.length = bs.length := pm.length_eq
    refine ⟨.ref D, upd H D (.lst (ms.map fun b => V.ref b.2)), I.laid (t' := tk) (o := .lst (ms.map fun b => V.ref b.2)) kp hD ?_, rfl, q ms D (by rw [← hbs1]; exact pm.map _) ?_ (fun b hb => (hbs3 b (pm.mem_iff.mp hb)).2) (I.hok.fresh hD)⟩
    · refine ⟨by rw [List.length_map]; omega, out, c, ?_, hO⟩
      rw [eo1]
      have := vals_refs (ms.map (·.2))
      rw [List.map_map, List.map_map] at this
      exact this
    · rw [List.pairwise_map]
      exact hp
end

/-- {k: v}, k a tuple -/
def tDisp1 (tk tv : TE) : TE := fun σ H Q => ∀ p, H p = none → tk σ (upd H p (.dT [])) fun x H1 => tv σ H1 fun v H2 => H2 p = some (.dT []) ∧ ∃ (k : List L2.Key) (b : Addr), x = .ref b ∧ H2 b = some (.tup (k.map kV)) ∧ Q (.ref p) (upd H2 p (.dT [(k, v)]))
section
variable {X : Cx}
theorem pe_disp1 {k v : Expr} {pos : Pos} {tk tv : TE} (hu : X.A.units + 1 < cLine) (hk : PE X k tk) (hv : PE X v tv) : PE X (.Dict [some k] [v] pos) (tDisp1 tk tv) := by
  refine ⟨fun pins s σ H Q I q => ?_⟩
  have hn := I.hok.fresh (Nat.le_refl s.heap.objs.size)
  have I1 := I.laid (a := s.heap.objs.size) (o := .dT []) (h' := s.heap.push { cls := .type "dict", data := .dict #[] }) (t' := s.toks) (fun _ _ q => Heap.get?_push_of_some _ q) (Nat.le_refl _) (dt_empty s.heap I.big)
  rw [arm_eval_Dict, zip_pairTrees [some k] [v] X.env pos rfl rfl, dictDisplay_pairs (pairTrees [some k] [v] X.env pos) (by intro z; cases z) (by rw [pairTrees_length [some k] [v] X.env pos rfl rfl]; show 1 < 17; decide)]
  refine wpAny_bind (wpAny_standAt (wpAny_bind (wpAny_subDictH (knd := tupleKind (mixKind X.prog X.w)) (Q := fun d s' => wpAny (model X.prog X.w) X.A (pure (Value.ref d)) (EP X pins σ Q) X.xe s') (show X.A.units < cLine by omega) (by rw [pairTrees_length [some k] [v] X.env pos rfl rfl]; show 1 ≤ 15; decide) ?_)))
  refine pairTrees_cons_walk (thn (hk.run pins _ σ _ _ I1 (q _ hn)) fun u s1 ⟨x, H1, I1', rx, q1⟩ => thn (hv.run pins s1 σ H1 _ I1' q1) fun w2 s2 ⟨y, H2, I2, ry, e, ks, b, ex, eb, q2⟩ => pairTrees_nil_walk ?_)
  subst ex
  obtain rfl : u = Value.ref b := rx
  obtain ⟨z, hd, xs, rel, dd⟩ := dt_of I2.hok e
  cases rel
  refine ⟨[(ks, b, w2)], ⟨rfl, rfl, key_of I2.hok eb, trivial⟩, dd, fun h' tk dd' hs => wpAny_pure ?_⟩
  have dd'' : h'.DictOfH (tupleKind (mixKind X.prog X.w)) s.heap.objs.size [(ks, b, w2)] := dd'
  obtain ⟨o, es, ep, ho, h2, h3, h4, _, h5⟩ := dd''
  have hne : b ≠ s.heap.objs.size := fun z => by rw [z, e] at eb; cases eb
  have J : Inv X pins σ (upd H2 s.heap.objs.size (.dT [(ks, y)])) { s2 with heap := h', toks := tk } := by
    have := d_write (X := X) (t' := tk) I2 (by rw [e]; exact True.intro) hs ⟨o, ho⟩ (show ObjOk X.prog X.w (upd H2 s.heap.objs.size (.dT [(ks, y)])) h' s.heap.objs.size (.dT [(ks, y)]) from
      ⟨by show 1 ≤ sizeLine; decide, hd, [(ks, b, w2)], .cons ⟨rfl, by rw [upd_ne hne]; exact eb, ry⟩ .nil, o, es, ep, ho, h2, h3, h4, h5⟩)
    exact this
  exact ⟨.ref s.heap.objs.size, _, J, rfl, q2⟩
end

/-! ### described -/
theorem DT.keyI {K : PySem.W.Frag} {L : Addr → Prop} {H : Hp} {v : V} {ns : List Int} (h : DT K L H v (.tuple (ns.map .int))) : ∃ b, v = .ref b ∧ H b = some (.tup ((iks ns).map kV)) := by
  obtain ⟨a, xs, rfl, e, r⟩ := h.tupX
  refine ⟨a, rfl, ?_⟩
  rw [kV_iks, ← DTs.intsI r]
  exact e
section
variable {C : Wd} (o : C.Ok) {H : Hp} {σ : L2.St} {td ty tv : TE} {p : Addr} {kvs : List (List L2.Key × V)} {ns : List Int} {v : V}
include o
theorem e_dget (hd : Ee C td σ H (.ref p)) (hk : Ed C ty σ H (.tuple (ns.map .int))) (hx : ∀ H', C.W H H' → H' p = some (.dT kvs)) (hv : valV kvs (iks ns) = some v) : Ee C (tDGet td ty) σ H v := fun H1 w Q q =>
  hd H1 w _ fun x H2 w2 e => hk H2 (o.trans w w2) _ fun y H3 w3 r => by
    subst e
    obtain ⟨b, rfl, hb⟩ := r.keyI
    exact ⟨p, v, rfl, by rw [← hv]; exact DGet.t (hx H3 (o.trans (o.trans w w2) w3)) hb, q v H3 (o.trans w2 w3) rfl⟩
theorem e_din (hd : Ee C td σ H (.ref p)) (hk : Ed C ty σ H (.tuple (ns.map .int))) (hx : ∀ H', C.W H H' → H' p = some (.dT kvs)) : Ed C (tDIn ty td) σ H (.bool (valV kvs (iks ns)).isSome) := fun H1 w Q q =>
  hk H1 w _ fun y H2 w2 r => hd H2 (o.trans w w2) _ fun x H3 w3 e => by
    subst e
    obtain ⟨b, rfl, hb⟩ := r.keyI
    exact ⟨p, _, rfl, DGet.t (hx H3 (o.trans (o.trans w w2) w3)) ((o.kp w3).tup _ _ hb), q _ H3 (o.trans w2 w3) (.bl _)⟩
theorem e_dnotin (hd : Ee C td σ H (.ref p)) (hk : Ed C ty σ H (.tuple (ns.map .int))) (hx : ∀ H', C.W H H' → H' p = some (.dT kvs)) : Ed C (tDNotIn ty td) σ H (.bool (!(valV kvs (iks ns)).isSome)) := fun H1 w Q q =>
  hk H1 w _ fun y H2 w2 r => hd H2 (o.trans w w2) _ fun x H3 w3 e => by
    subst e
    obtain ⟨b, rfl, hb⟩ := r.keyI
    exact ⟨p, _, rfl, DGet.t (hx H3 (o.trans (o.trans w w2) w3)) ((o.kp w3).tup _ _ hb), q _ H3 (o.trans w2 w3) (.bl _)⟩
end
theorem s_dput {K : PySem.W.Frag} {L : Addr → Prop} {H : Hp} {σ : L2.St} {td ty tv : TE} {p : Addr} {kvs : List (List L2.Key × V)} {ns : List Int} {nx bk ct : L2.St → Hp → Prop} {rt : VK} {P : V → Hp → Prop} (hv : EvP (W0 K L) tv σ H P) (hd : ∀ H', Kp No H H' → Ee (W0 K L) td σ H' (.ref p)) (hk : ∀ H', Kp No H H' → Ed (W0 K L) ty σ H' (.tuple (ns.map .int)))
    (hP : ∀ v H1 H2, Kp No H1 H2 → P v H1 → P v H2) (hx : ∀ H', Kp No H H' → H' p = some (.dT kvs)) (hz : kvs.length < sizeLine) (q : ∀ v H', Kp No H H' → P v H' → H' p = some (.dT kvs) → nx σ (upd H' p (.dT (putK kvs (iks ns) v)))) : sDPut td ty tv ⟨nx, rt, bk, ct⟩ σ H :=
  hv H (Kp.refl _ _) _ fun v H1 w1 r1 => hd H1 w1 H1 (Kp.refl _ _) _ fun x H2 w2 e => hk H2 (w1.trans w2) H2 (Kp.refl _ _) _ fun y H3 w3 r3 => by
    subst e
    obtain ⟨b, rfl, hb⟩ := r3.keyI
    have w13 : Kp No H H3 := (w1.trans w2).trans w3
    exact ⟨p, _, rfl, DPut.t (hx H3 w13) hb hz, q v H3 w13 (hP _ _ _ (w2.trans w3) r1) (hx H3 w13)⟩
theorem Kp.dput {H H' : Hp} {p : Addr} {kvs kvs' : List (List L2.Key × V)} (k : Kp (· = p) H H') (hp : H' p = some (.dT kvs)) : Kp (· = p) H (upd H' p (.dT kvs')) := k.put (.inr rfl) (by rw [hp]; trivial)
theorem Kp.dT {L : Addr → Prop} {H H' : Hp} {p : Addr} {kvs : List (List L2.Key × V)} (k : Kp L H H') (n : ¬ L p) (h : H p = some (.dT kvs)) : H' p = some (.dT kvs) := k.keep p _ h n (fun _ z => by cases z)
/-! ### putK, valV -/
section
variable {κ : Type} [DecidableEq κ]
theorem valV_put_same (kvs : List (κ × V)) (k : κ) (v : V) : valV (putK kvs k v) k = some v := by
  unfold putK
  split
  · rename_i h
    induction kvs with
    | nil => simp at h
    | cons p r ih =>
      rw [List.map_cons]
      by_cases e : p.1 = k
      · rw [if_pos e, valV_pos (p := (p.1, v)) e]
      · rw [if_neg e, valV_neg e]
        exact ih (by simpa [e] using h)
  · rename_i h
    have h' : ∀ p ∈ kvs, ¬ p.1 = k := fun p hp e => h (List.any_eq_true.mpr ⟨p, hp, decide_eq_true e⟩)
    clear h
    induction kvs with
    | nil => exact valV_pos (p := (k, v)) rfl
    | cons p r ih =>
      rw [List.cons_append, valV_neg (h' p List.mem_cons_self)]
      exact ih fun q hq => h' q (List.mem_cons_of_mem _ hq)
theorem valV_put_ne (kvs : List (κ × V)) {k k' : κ} (v : V) (hne : k' ≠ k) : valV (putK kvs k v) k' = valV kvs k' := by
  unfold putK
  split
  · rename_i h
    clear h
    induction kvs with
    | nil => rfl
    | cons p r ih =>
      rw [List.map_cons]
      by_cases e : p.1 = k
      · rw [if_pos e, valV_neg (p := (p.1, v)) (fun z => hne (z.symm.trans e)), valV_neg (fun z => hne (z.symm.trans e)), ih]
      · rw [if_neg e]
        by_cases e2 : p.1 = k'
        · rw [valV_pos e2, valV_pos e2]
        · rw [valV_neg e2, valV_neg e2, ih]
  · rename_i h
    clear h
    induction kvs with
    | nil => exact valV_neg (p := (k, v)) (fun z => hne z.symm)
    | cons p r ih =>
      rw [List.cons_append]
      by_cases e2 : p.1 = k'
      · rw [valV_pos e2, valV_pos e2]
      · rw [valV_neg e2, valV_neg e2, ih]
theorem putK_new {kvs : List (κ × V)} {k : κ} {v : V} (h : valV kvs k = none) : putK kvs k v = kvs ++ [(k, v)] := by
  unfold putK
  rw [if_neg]
  rw [valV_any, h]
  exact Bool.false_ne_true
theorem valV_none {kvs : List (κ × V)} {k : κ} : valV kvs k = none ↔ k ∉ kvs.map (·.1) := by
  induction kvs with
  | nil => simp [valV_nil]
  | cons p r ih =>
    rw [List.map_cons, List.mem_cons, not_or]
    by_cases e : p.1 = k
    · rw [valV_pos e]
      simp [e]
    · rw [valV_neg e, ih]
      exact ⟨fun h => ⟨fun z => e z.symm, h⟩, fun h => h.2⟩
end
end SR

namespace SR
open PySem PySem.Spec PyProof.Rows L2
/-- a machine -/
structure Mch where
  ends : List Bool
  moves : List Mv
def Mch.d (M : Mch) : PyData := .tuple [.tuple (M.ends.map .bool), mvs M.moves]
def mchD : Option Mch → PyData
  | none => .tuple []
  | some M => M.d
def mcs (l : List (Option Mch)) : PyData := .tuple (l.map mchD)
theorem mem_looks {ms : List Mv} {st left : Int} {n : Nat} {z : Int} : (n, z) ∈ looks ms st left ↔ ∃ m, ms[n]? = some m ∧ m.o = st ∧ m.l ≤ z ∧ z ≤ min m.m left := by
  unfold looks
  rw [List.mem_flatMap]
  constructor
  · rintro ⟨⟨m, i⟩, hm, h⟩
    unfold lookI at h
    split at h
    · rename_i ho
      obtain ⟨s, hs, e⟩ := List.mem_map.mp h
      cases e
      obtain ⟨k, hk, e⟩ := List.mem_map.mp hs
      have hk := List.mem_range.mp hk
      have h1 := List.mem_zipIdx hm
      refine ⟨m, ?_, ho, ?_, ?_⟩
      · have h2 := (List.mem_zipIdx_iff_getElem?.mp hm)
        exact h2
      · rw [← e]
        show m.l ≤ m.l + (k : Int)
        omega
      · rw [← e]
        have hk' : k < (min m.m left + 1 - m.l).toNat := hk
        show m.l + (k : Int) ≤ min m.m left
        omega
    · cases h
  · rintro ⟨m, hm, ho, h1, h2⟩
    refine ⟨(m, n), List.mem_zipIdx_iff_getElem?.mpr hm, ?_⟩
    unfold lookI
    rw [if_pos (show (m, n).1.o = st from ho)]
    refine List.mem_map.mpr ⟨z, List.mem_map.mpr ⟨(z - m.l).toNat, List.mem_range.mpr ?_, ?_⟩, rfl⟩
    · show (z - m.l).toNat < (min m.m left + 1 - m.l).toNat
      omega
    · show m.l + ((z - m.l).toNat : Int) = z
      omega
/-- the pieces of the looks of a region -/
def Pcs (p : Pt) (ms : List Mv) (r : Rg) (x : Rg) : Prop := ∃ s o n z m, Reach ms (p.ext r).toNat s o ∧ (n, z) ∈ looks ms s (p.ext r - (o : Nat)) ∧ ms[n]? = some m ∧ x = p.piece r (o : Nat) m.p z
section
variable {P : Program} {w : World} {K : PySem.W.Frag} {mg : Str → Option Value} {base : Heap}
abbrev N_pieces_looked_at : List Str := ["part", "moves", "region", "far", "found", "state", "offset", "number", "size"]
abbrev s_pieces_looked_at : Stmt := top 18
theorem sc_pieces_looked_at : FnScope ["part", "moves", "region", "far", "found", "state", "offset", "number", "size"] ["part", "moves", "region"] (defScope s_pieces_looked_at) := ⟨rfl, rfl, rfl, by decide +kernel, rfl, by decide +kernel, by decide +kernel⟩
def Rpieces (ds : List PyData) (Z : PyData → Prop) : Prop := ∃ (p : Pt) (ms : List Mv) (r : Rg), Mvs ms ∧ 0 ≤ p.ext r ∧ p.ext r ≤ 100 ∧ ds = [p.d, mvs ms, r.d] ∧ Z = fun d => ∃ l : List Rg, (∀ x, x ∈ l ↔ Pcs p ms r x) ∧ l.length ≤ 5000000 ∧ d = .list (l.map Rg.d)
theorem ok_pieces (F : DefA K mg "pieces_looked_at" s_pieces_looked_at) (c_extent : C8.Cal P w K mg base 1 "extent" (spD K Rextent) []) (c_reached : C8.Cal P w K mg base 1 "reached" (spN K [] Rreached) []) (c_looks_at : C8.Cal P w K mg base 1 "looks_at" (spD K Rlooks_at) []) (c_piece : C8.Cal P w K mg base 1 "piece" (spD K Rpiece) []) : C8.Cal P w K mg base 2 "pieces_looked_at" (spN K [] Rpieces) [] := by
  refine cal_by F sc_pieces_looked_at rfl rfl rfl (fun _ _ _ _ _ _ us hl => match us, hl with | [_, _, _], _ => rfl) (spN_len fun ds d ⟨_, _, _, _, _, _, e, _⟩ => by rw [e]; rfl) fun f cdv A outer s H vs Q E hr h => ?_
  obtain ⟨L, ds, Z, _, hL, hd, ⟨p, ms, r, g, h1, h2, rfl, rfl⟩, k⟩ := h
  have o := w0 K L
  have hu4 : _ + 64 < cLine := hr.units
  have S := Sl.start (C := W0 K L) (N := N_pieces_looked_at) hd
  refine ⟨_, (pss_c (ps_set (i := 3) sc_pieces_looked_at.nd rfl (Or.inl rfl) (C8.pe_c c_extent hr (by omega) rfl (pa_cons (pv 0) (pa_cons (pv 2) pa_nil))))
  (pss_c (ps_set (i := 4) sc_pieces_looked_at.nd rfl (Or.inl rfl) (pe_lst pa_nil))
  (pss_c (ps_for PassesOwn.never rfl (pi_list (C8.pe_c c_reached hr (by omega) rfl (pa_cons (pv 1) (pa_cons (pv 3) pa_nil)))) (pg_tup rfl (pgs_cons (pg_name (i := 5) sc_pieces_looked_at.nd rfl (Or.inl rfl)) (pgs_cons (pg_name (i := 6) sc_pieces_looked_at.nd rfl (Or.inl rfl)) pgs_nil))) (pss_one (ps_for PassesOwn.never rfl (pi_list (C8.pe_c c_looks_at hr (by omega) rfl (pa_cons (pv 1) (pa_cons (pv 5) (pa_cons (pe_op op_sub (pv 3) (pv 6)) pa_nil))))) (pg_tup rfl (pgs_cons (pg_name (i := 7) sc_pieces_looked_at.nd rfl (Or.inl rfl)) (pgs_cons (pg_name (i := 8) sc_pieces_looked_at.nd rfl (Or.inl rfl)) pgs_nil))) (pss_one (ps_expr (pe_bm PySem.F.plainAttrs_list PySem.F.slot_list_append PySem.F.type_list_append mt_append (pv 4) (pa_cons (C8.pe_c c_piece hr (by omega) rfl (pa_cons (pv 0) (pa_cons (pv 2) (pa_cons (pv 6) (pa_cons (pe_ix ix_seq (pe_ix ix_seq (pv 1) (pv 7) (fun _ _ => rfl)) pe_int (fun _ _ => rfl)) (pa_cons (pv 8) pa_nil)))))) pa_nil)))))))
  (pss_one (ps_ret (pv 4)))))), ?_⟩
  obtain ⟨F, hF⟩ : ∃ F : Nat, p.ext r = (F : Int) := ⟨(p.ext r).toNat, by omega⟩
  have hF' : (p.ext r).toNat = F := by omega
  refine s_set o (e_call o hL (a_cons o (e_var o S rfl) (a_cons o (e_var o S rfl) (a_nil o))) ⟨p, r, rfl, rfl⟩) fun v0 H0 w0' r0 => ?_
  rw [hF] at r0
  have S0 := (S.mono o w0').putD (i := 3) r0
  refine s_new (i := 4) S0 fun q hq S1 => ?_
  have o1 := w0 K (Lp L q)
  have hM : ∀ a, a = q → Lp L q a := fun a e => .inr e
  have un1 : ∀ a, Lp L q a → upd H0 q (.lst []) a ≠ none := own_un (o.un w0' hL) _
  have hq1 : upd H0 q (.lst []) q = some (.lst []) := upd_same
  have kend : ∀ {H'}, Kp (· = q) (upd H0 q (.lst [])) H' → Kp No H H' := fun {H'} k' => w0'.trans ((Kp.new hq).loc hq k')
  generalize upd H0 q (.lst []) = H1 at S1 un1 hq1 kend ⊢
  refine s_forEv o1 (e_callN o1 noT un1 (a_cons o1 (e_var o1 S1 rfl) (a_cons o1 (e_var o1 S1 rfl) (a_nil o1))) ⟨ms, F, g, by omega, rfl, rfl⟩) fun v2 H2 w2 ⟨d2, ⟨l, rs, ed⟩, r2⟩ => ?_
  subst ed
  have hll : l.length ≤ 505 := by
    have := nodup_sub_len l ((List.range 101).flatMap fun o => (List.range 5).map fun s : Nat => ((s : Int), o)) rs.nd fun x hx => by
      obtain ⟨s, o⟩ := x
      obtain ⟨a1, a2, a3, _⟩ := ((rs.iff s o).mp hx).le g
      refine List.mem_flatMap.mpr ⟨o, List.mem_range.mpr (by omega), List.mem_map.mpr ⟨s.toNat, List.mem_range.mpr (by omega), ?_⟩⟩
      rw [Int.toNat_of_nonneg a2]
    have e : ((List.range 101).flatMap fun o => (List.range 5).map fun s : Nat => ((s : Int), o)).length = 505 := by decide +kernel
    omega
  have S2 := S1.mono o1 w2
  have hq2 : H2 q = some (.lst []) := w2.lst (fun z => z.elim) hq1
  have at_ : ∀ (x : Rg), (Pcs p ms r x ↔ ∃ so ∈ l, ∃ n z m, (n, z) ∈ looks ms so.1 ((F : Int) - (so.2 : Nat)) ∧ ms[n]? = some m ∧ x = p.piece r (so.2 : Nat) m.p z) := fun x => by
    unfold Pcs
    rw [hF', hF]
    constructor
    · rintro ⟨s, o, n, z, m, a, b⟩
      exact ⟨(s, o), (rs.iff s o).mpr a, n, z, m, b⟩
    · rintro ⟨so, a, n, z, m, b⟩
      exact ⟨so.1, so.2, n, z, m, (rs.iff _ _).mp a, b⟩
  refine s_forP o1 (ds := l.map spt) (e_c o1 r2) (fun i σ' H' => Kp (· = q) H2 H' ∧ ∃ a b c d xs fs, Sl (W0 K (Lp L q)) H' σ' [.da p.d, .da (mvs ms), .da r.d, .da (.int F), .va (.ref q), a, b, c, d] ∧ H' q = some (.lst xs) ∧ DTs K (Lp L q) H' xs (fs.map Rg.d) ∧
      (∀ x, x ∈ fs ↔ ∃ so ∈ l.take i, ∃ n z m, (n, z) ∈ looks ms so.1 ((F : Int) - (so.2 : Nat)) ∧ ms[n]? = some m ∧ x = p.piece r (so.2 : Nat) m.p z) ∧ fs.length ≤ 5000 * i) (M := (· = q)) hM
    (fun H' w => ⟨w.mono fun _ z => z.elim, .un, .un, .un, .un, [], [], S2.mono o1 w, w.lst (fun z => z.elim) hq2, .nil, fun x => by simp, Nat.zero_le _⟩) (fun d hd => by obtain ⟨x, _, rfl⟩ := List.mem_map.mp hd; exact ⟨_, _, rfl⟩) (fun H3 w3 i d e v u σ4 H4 hi rd re k34 ⟨k4, a, b, c, dd, xs, fs, S4, hx, rx, hfs, hlen⟩ => ?_) (fun H3 w3 σ4 H4 k34 ⟨k4, a, b, c, dd, xs, fs, S4, hx, rx, hfs, hlen⟩ => ?_)
  · rw [List.getElem?_map] at hi
    cases hso : l[i]? with
    | none => rw [hso] at hi; cases hi
    | some so =>
      rw [hso] at hi
      have hi := Option.some.inj hi
      unfold spt at hi
      cases hi
      have hsl : so ∈ l := List.mem_of_getElem? hso
      obtain ⟨b1, b2, b3, _⟩ := ((rs.iff so.1 so.2).mp hsl).le g
      have hil : i < l.length := (List.getElem?_eq_some_iff.mp hso).1
      have S5 := (S4.putD (i := 5) rd).putD (i := 6) re
      have hlk := looks_len g (st := so.1) (left := (F : Int) - (so.2 : Nat))
      refine s_forP o1 (ds := prs (looks ms so.1 ((F : Int) - (so.2 : Nat)))) (e_call o1 ((w2.mono fun _ z => z.elim).trans k4 |>.un un1) (a_cons o1 (e_var o1 S5 rfl) (a_cons o1 (e_var o1 S5 rfl) (a_cons o1 (e_sub o1 (e_var o1 S5 rfl) (e_var o1 S5 rfl)) (a_nil o1)))) ⟨ms, so.1, _, g, by omega, rfl, rfl⟩)
        (fun j σ' H' => Kp (· = q) H4 H' ∧ ∃ c d xs fs, Sl (W0 K (Lp L q)) H' σ' [.da p.d, .da (mvs ms), .da r.d, .da (.int F), .va (.ref q), .da (.int so.1), .da (.int (so.2 : Nat)), c, d] ∧ H' q = some (.lst xs) ∧ DTs K (Lp L q) H' xs (fs.map Rg.d) ∧
          (∀ x, x ∈ fs ↔ (∃ so ∈ l.take i, ∃ n z m, (n, z) ∈ looks ms so.1 ((F : Int) - (so.2 : Nat)) ∧ ms[n]? = some m ∧ x = p.piece r (so.2 : Nat) m.p z) ∨ ∃ n z m, (n, z) ∈ (looks ms so.1 ((F : Int) - (so.2 : Nat))).take j ∧ ms[n]? = some m ∧ x = p.piece r (so.2 : Nat) m.p z) ∧ fs.length ≤ 5000 * i + j) (M := (· = q)) hM
        (fun H' w => ⟨w.mono fun _ z => z.elim, _, _, xs, fs, S5.mono o1 w, w.lst (fun z => z.elim) hx, DTs.mono o1 w rx, fun x => by rw [hfs]; simp, hlen⟩) (fun d hd => by obtain ⟨x, _, rfl⟩ := List.mem_map.mp hd; exact ⟨_, _, rfl⟩) (fun H5 w5 j d e v u σ6 H6 hj rd re k56 ⟨k6, c, dd, xs6, fs6, S6, hx6, rx6, hfs6, hlen6⟩ => ?_) (fun H5 w5 σ6 H6 k56 ⟨k6, c, dd, xs6, fs6, S6, hx6, rx6, hfs6, hlen6⟩ => ?_)
      · unfold prs at hj
        rw [List.getElem?_map] at hj
        cases hnz : (looks ms so.1 ((F : Int) - (so.2 : Nat)))[j]? with
        | none => rw [hnz] at hj; cases hj
        | some nz =>
          rw [hnz] at hj
          have hj := Option.some.inj hj
          unfold pr at hj
          cases hj
          obtain ⟨n, z⟩ := nz
          obtain ⟨m, hm, _⟩ := mem_looks.mp (List.mem_of_getElem? hnz)
          have hjl : j < (looks ms so.1 ((F : Int) - (so.2 : Nat))).length := (List.getElem?_eq_some_iff.mp hnz).1
          have S7 := (S6.putD (i := 7) rd).putD (i := 8) re
          have un6 : ∀ a, Lp L q a → H6 a ≠ none := (((w2.mono fun _ z => z.elim).trans k4).trans k6).un un1
          refine s_app S7 rfl hx6 (lt_size (by rw [rx6.length, List.length_map]; omega)) (e_call o1 un6 (a_cons o1 (e_var o1 S7 rfl) (a_cons o1 (e_var o1 S7 rfl) (a_cons o1 (e_var o1 S7 rfl) (a_cons o1 (e_mv o1 (m := m) (e_ixT o1 (ds := ms.map Mv.d) (i := n) (e_var o1 S7 rfl) (e_var o1 S7 rfl) (by rw [List.getElem?_map, hm]; rfl)) 2) (a_cons o1 (e_var o1 S7 rfl) (a_nil o1)))))) ⟨p, r, (so.2 : Nat), m.p, z, rfl, rfl⟩) fun v7 H7 w7 r7 hx7 => ?_
          have k8 : Kp (· = q) H7 (upd H7 q (.lst (xs6 ++ [v7]))) := (Kp.refl _ _).app hx7
          have k68 := (w7.mono (M := (· = q)) fun _ z => z.elim).trans k8
          refine ⟨k56.trans k68, k6.trans k68, _, _, _, fs6 ++ [p.piece r (so.2 : Nat) m.p z], (S7.mono o1 w7).step hM k8, upd_same, ?_, fun x => ?_, by rw [List.length_append]; simp; omega⟩
          · rw [List.map_append]
            exact DTs.step hM k8 ((DTs.mono o1 w7 rx6).snoc r7)
          · rw [List.mem_append, hfs6, List.take_add_one, hnz, List.mem_singleton]
            constructor
            · rintro ((h | ⟨n', z', m', h, h'⟩) | rfl)
              · exact .inl h
              · exact .inr ⟨n', z', m', List.mem_append_left _ h, h'⟩
              · exact .inr ⟨n, z, m, by simp, hm, rfl⟩
            · rintro (h | ⟨n', z', m', h, h1, h2⟩)
              · exact .inl (.inl h)
              · rcases List.mem_append.mp h with h | h
                · exact .inl (.inr ⟨n', z', m', h, h1, h2⟩)
                · have : (n', z') = (n, z) := by simpa using h
                  cases this
                  rw [hm] at h1
                  cases h1
                  exact .inr h2
      · refine ⟨k34.trans k6, k4.trans k6, _, _, _, _, xs6, fs6, S6, hx6, rx6, fun x => ?_, by unfold prs at hlen6; rw [List.length_map] at hlen6; omega⟩
        rw [hfs6, List.take_add_one, hso]
        unfold prs
        rw [List.length_map, List.take_length]
        constructor
        · rintro (⟨so', h, h'⟩ | h)
          · exact ⟨so', List.mem_append_left _ h, h'⟩
          · exact ⟨so, by simp, h⟩
        · rintro ⟨so', h, h'⟩
          rcases List.mem_append.mp h with h | h
          · exact .inl ⟨so', h, h'⟩
          · have : so' = so := by simpa using h
            subst this
            exact .inr h'
  · refine s_ret o1 (e_val o1 S4 rfl) fun v5 H5 w5 e => ?_
    subst e
    rw [List.length_map] at hfs hlen
    refine k _ H5 _ ⟨fs, fun x => by rw [hfs, List.take_length]; exact (at_ x).symm, by omega, rfl⟩ (kend (((w2.mono fun _ z => z.elim).trans k4).trans (w5.mono fun _ z => z.elim))) (DT.retL (o.un w0' hL) hq (w5.lst (fun z => z.elim) hx) (DTs.mono o1 w5 rx))
end
end SR

namespace SR
open PySem PySem.Spec PyProof.Rows L2
/-- a grammar with its machines -/
structure Gram (ps : List Pt) (ms : List (Option Mch)) : Prop where
  len : ms.length = ps.length
  few : ps.length ≤ 6
  leaf : ∀ (i : Nat) (p : Pt), ps[i]? = some p → p.isStrip = false → ms[i]? = some none ∧ Leaf p
  strip : ∀ (i : Nat) (p : Pt), ps[i]? = some p → p.isStrip = true → ∃ M : Mch, ms[i]? = some (some M) ∧ Mvs M.moves ∧ 1 ≤ M.ends.length ∧ M.ends.length ≤ 5 ∧ ∀ m ∈ M.moves, 0 ≤ m.p ∧ m.p < (i : Int) ∧ 0 ≤ m.o ∧ m.o < (M.ends.length : Int) ∧ m.t < (M.ends.length : Int) ∧ 0 ≤ m.c ∧ m.c ≤ 2
def Nxt (ps : List Pt) (ms : List (Option Mch)) (r x : Rg) : Prop := ∃ (p : Pt) (M : Mch), ps[r.p.toNat]? = some p ∧ ms[r.p.toNat]? = some (some M) ∧ Pcs p M.moves r x
inductive Needed (ps : List Pt) (ms : List (Option Mch)) (r : Rg) : Rg → Prop
  | refl : Needed ps ms r r
  | step {x y : Rg} : Needed ps ms r x → Nxt ps ms x y → Needed ps ms r y
/-- a region of a part within a region -/
structure Ins (ps : List Pt) (r x : Rg) : Prop where
  p0 : 0 ≤ x.p
  p1 : x.p < (ps.length : Int)
  x0 : r.x ≤ x.x
  x1 : x.x + x.w ≤ r.x + r.w
  y0 : r.y ≤ x.y
  y1 : x.y + x.h ≤ r.y + r.h
  w0 : 1 ≤ x.w
  h0 : 1 ≤ x.h
/-- a page's region -/
structure Page (ps : List Pt) (r : Rg) : Prop where
  ins : Ins ps r r
  w : r.w ≤ 6
  h : r.h ≤ 4
theorem Ins.part {ps : List Pt} {r x : Rg} (h : Ins ps r x) : ∃ p, ps[x.p.toNat]? = some p := by
  have := h.p0; have := h.p1
  exact ⟨ps[x.p.toNat]'(by omega), List.getElem?_eq_getElem _⟩
theorem Ins.ext {ps : List Pt} {r x : Rg} (g : Page ps r) (h : Ins ps r x) (p : Pt) : 1 ≤ p.ext x ∧ p.ext x ≤ 6 := by
  have := g.w; have := g.h; have := h.x0; have := h.x1; have := h.y0; have := h.y1; have := h.w0; have := h.h0
  unfold Pt.ext
  split <;> omega
theorem Ins.next {ps : List Pt} {ms : List (Option Mch)} {r x y : Rg} (G : Gram ps ms) (g : Page ps r) (h : Ins ps r x) (n : Nxt ps ms x y) : Ins ps r y ∧ y.p < x.p := by
  obtain ⟨p, M, hp, hM, s, o, n, z, m, hr, hl, hm, rfl⟩ := n
  have hs : p.isStrip = true := by
    cases e : p.isStrip with
    | true => rfl
    | false =>
      have := (G.leaf _ p hp e).1
      rw [hM] at this
      cases this
  obtain ⟨M', hM', gm, _, _, hgm⟩ := G.strip _ p hp hs
  rw [hM] at hM'
  cases hM'
  obtain ⟨q1, q2, _⟩ := hgm m (List.mem_of_getElem? hm)
  obtain ⟨m', hm', _, k1, k2⟩ := mem_looks.mp hl
  rw [hm] at hm'
  cases hm'
  have hle := (hr.le gm).1
  have he := h.ext g p
  have hml := (gm.g m (List.mem_of_getElem? hm)).1
  have a0 := h.p0; have a1 := h.p1; have a2 := h.x0; have a3 := h.x1; have a4 := h.y0; have a5 := h.y1; have a6 := h.w0; have a7 := h.h0
  have hnp : m.p < x.p := by omega
  unfold Pt.ext at k2 he hle
  unfold Pt.piece
  split
  · rename_i hc
    rw [if_pos hc] at k2 he hle
    exact ⟨⟨by show 0 ≤ m.p; omega, by show m.p < _; omega, by show r.x ≤ x.x + _; omega, by show x.x + _ + z ≤ _; omega, a4, a5, by show 1 ≤ z; omega, a7⟩, hnp⟩
  · rename_i hc
    rw [if_neg hc] at k2 he hle
    exact ⟨⟨by show 0 ≤ m.p; omega, by show m.p < _; omega, a2, a3, by show r.y ≤ x.y + _; omega, by show x.y + _ + z ≤ _; omega, a6, by show 1 ≤ z; omega⟩, hnp⟩
theorem Needed.ins {ps : List Pt} {ms : List (Option Mch)} {r x : Rg} (G : Gram ps ms) (g : Page ps r) (h : Needed ps ms r x) : Ins ps r x := by
  induction h with
  | refl => exact g.ins
  | step _ n ih => exact (ih.next G g n).1
/-- all regions within -/
def allIn (ps : List Pt) (r : Rg) : List Rg := (List.range ps.length).flatMap fun p : Nat => (List.range 6).flatMap fun a : Nat => (List.range 4).flatMap fun b : Nat => (List.range 7).flatMap fun c : Nat => (List.range 5).map fun d : Nat => ⟨(p : Int), r.x + (a : Int), r.y + (b : Int), (c : Int), (d : Int)⟩
theorem Ins.all {ps : List Pt} {r x : Rg} (g : Page ps r) (h : Ins ps r x) : x ∈ allIn ps r := by
  have := g.w; have := g.h; have a0 := h.p0; have a1 := h.p1; have a2 := h.x0; have a3 := h.x1; have a4 := h.y0; have a5 := h.y1; have a6 := h.w0; have a7 := h.h0
  refine List.mem_flatMap.mpr ⟨x.p.toNat, List.mem_range.mpr (by omega), List.mem_flatMap.mpr ⟨(x.x - r.x).toNat, List.mem_range.mpr (by omega), List.mem_flatMap.mpr ⟨(x.y - r.y).toNat, List.mem_range.mpr (by omega), List.mem_flatMap.mpr ⟨x.w.toNat, List.mem_range.mpr (by omega), List.mem_map.mpr ⟨x.h.toNat, List.mem_range.mpr (by omega), ?_⟩⟩⟩⟩⟩
  cases x
  simp only [Rg.mk.injEq]
  simp only at a0 a1 a2 a3 a4 a5 a6 a7
  refine ⟨by omega, by omega, by omega, by omega, by omega⟩
theorem flat_len' {α β : Type} {f : α → List β} {n : Nat} {l : List α} (h : ∀ x ∈ l, (f x).length ≤ n) : (l.flatMap f).length ≤ n * l.length := flat_len f n l h
theorem allIn_len {ps : List Pt} {ms : List (Option Mch)} (G : Gram ps ms) (r : Rg) : (allIn ps r).length ≤ 6000 := by
  have h : (allIn ps r).length ≤ 840 * (List.range ps.length).length := flat_len' fun p _ => by
    have h2 : ∀ q : Nat, ((List.range 6).flatMap fun a : Nat => (List.range 4).flatMap fun b : Nat => (List.range 7).flatMap fun c : Nat => (List.range 5).map fun d : Nat => (⟨(q : Int), r.x + (a : Int), r.y + (b : Int), (c : Int), (d : Int)⟩ : Rg)).length ≤ 140 * (List.range 6).length := fun q => flat_len' fun a _ => by
      have : ((List.range 4).flatMap fun b : Nat => (List.range 7).flatMap fun c : Nat => (List.range 5).map fun d : Nat => (⟨(q : Int), r.x + (a : Int), r.y + (b : Int), (c : Int), (d : Int)⟩ : Rg)).length ≤ 35 * (List.range 4).length := flat_len' fun b _ => by
        have : ((List.range 7).flatMap fun c : Nat => (List.range 5).map fun d : Nat => (⟨(q : Int), r.x + (a : Int), r.y + (b : Int), (c : Int), (d : Int)⟩ : Rg)).length ≤ 5 * (List.range 7).length := flat_len' fun c _ => by simp
        simpa using this
      simpa using this
    have := h2 p
    simpa using this
  rw [List.length_range] at h
  have := G.few
  omega
def Rg.ns (r : Rg) : List Int := [r.p, r.x, r.y, r.w, r.h]
theorem Rg.d_ns (r : Rg) : r.d = .tuple (r.ns.map .int) := rfl
def Rg.of : List Int → Rg
  | [p, x, y, w, h] => ⟨p, x, y, w, h⟩
  | _ => ⟨0, 0, 0, 0, 0⟩
theorem Rg.of_ns (r : Rg) : Rg.of r.ns = r := rfl
theorem Rg.ns_inj {a b : Rg} (h : a.ns = b.ns) : a = b := by rw [← Rg.of_ns a, h, Rg.of_ns]
theorem perm_ns {as : List (List Int)} {ks : List Rg} (h : as.Perm (ks.map Rg.ns)) : ∃ l : List Rg, l.map Rg.ns = as ∧ l.Perm ks := by
  refine ⟨as.map Rg.of, ?_, ?_⟩
  · rw [List.map_map]
    refine (List.map_congr_left fun a ha => ?_).trans (List.map_id _)
    obtain ⟨r, _, rfl⟩ := List.mem_map.mp (h.mem_iff.mp ha)
    rfl
  · have := h.map Rg.of
    rw [List.map_map] at this
    refine this.trans (List.Perm.of_eq ((List.map_congr_left fun a _ => ?_).trans (List.map_id _)))
    rfl
structure NeedL (ps : List Pt) (ms : List (Option Mch)) (r : Rg) (l : List Rg) : Prop where
  nd : l.Nodup
  iff : ∀ x, x ∈ l ↔ Needed ps ms r x
  up : l.Pairwise fun a b => a.p ≤ b.p
theorem le_head {a b : Int} {as bs : List Int} (h : (a :: as) ≤ (b :: bs)) : a ≤ b := by
  by_cases e : a ≤ b
  · exact e
  · exact absurd (List.Lex.rel (by omega) : List.Lex (· < ·) (b :: bs) (a :: as)) (List.not_lt.mpr h)
section
variable {P : Program} {w : World} {K : PySem.W.Frag} {mg : Str → Option Value} {base : Heap}
abbrev N_looks_of : List Str := ["parts", "table", "region", "part"]
abbrev s_looks_of : Stmt := top 19
theorem sc_looks_of : FnScope ["parts", "table", "region", "part"] ["parts", "table", "region"] (defScope s_looks_of) := ⟨rfl, rfl, rfl, by decide +kernel, rfl, by decide +kernel, by decide +kernel⟩
def Rlooks_of (ds : List PyData) (Z : PyData → Prop) : Prop := ∃ (ps : List Pt) (ms : List (Option Mch)) (p : Pt) (r : Rg), Gram ps ms ∧ 0 ≤ r.p ∧ ps[r.p.toNat]? = some p ∧ 0 ≤ p.ext r ∧ p.ext r ≤ 100 ∧ ds = [pts ps, mcs ms, r.d] ∧ Z = fun d => ∃ l : List Rg, (∀ x, x ∈ l ↔ Nxt ps ms r x) ∧ l.length ≤ 5000000 ∧ d = .list (l.map Rg.d)
theorem ok_looks_of (F : DefA K mg "looks_of" s_looks_of) (c_is_strip : C8.Cal P w K mg base 1 "is_strip" (spD K RisStrip) []) (c_pieces_looked_at : C8.Cal P w K mg base 2 "pieces_looked_at" (spN K [] Rpieces) []) : C8.Cal P w K mg base 3 "looks_of" (spN K [] Rlooks_of) [] := by
  refine cal_by F sc_looks_of rfl rfl rfl (fun _ _ _ _ _ _ us hl => match us, hl with | [_, _, _], _ => rfl) (spN_len fun ds d ⟨_, _, _, _, _, _, _, _, _, e, _⟩ => by rw [e]; rfl) fun f cdv A outer s H vs Q E hr h => ?_
  obtain ⟨L, ds, Z, _, hL, hd, ⟨ps, ms, p, r, G, hp0, hp, h1, h2, rfl, rfl⟩, k⟩ := h
  have o := w0 K L
  have hu4 : _ + 64 < cLine := hr.units
  have S := Sl.start (C := W0 K L) (N := N_looks_of) hd
  refine ⟨_, (pss_c (ps_set (i := 3) sc_looks_of.nd rfl (Or.inl rfl) (pe_ix ix_seq (pv 0) (pe_ix ix_seq (pv 2) pe_int (fun _ _ => rfl)) (fun _ _ => rfl)))
  (pss_c (ps_if (pt_not (pt_val (C8.pe_c c_is_strip hr (by omega) rfl (pa_cons (pv 3) pa_nil)))) (pss_one (ps_ret (pe_lst pa_nil))) pss_nil)
  (pss_one (ps_ret (C8.pe_c c_pieces_looked_at hr (by omega) rfl (pa_cons (pv 3) (pa_cons (pe_ix ix_seq (pe_ix ix_seq (pv 1) (pe_ix ix_seq (pv 2) pe_int (fun _ _ => rfl)) (fun _ _ => rfl)) pe_int (fun _ _ => rfl)) (pa_cons (pv 2) pa_nil)))))))), ?_⟩
  have hpd : (ps.map Pt.d)[r.p.toNat]? = some p.d := by rw [List.getElem?_map, hp]; rfl
  refine s_set o (e_ixTz o (ds := ps.map Pt.d) (e_var o S rfl) (e_rg o (r := r) (e_var o S rfl) 0) hp0 hpd) fun v1 H1 w1 r1 => ?_
  have S1 := (S.mono o w1).putD (i := 3) r1
  refine s_if o (t_not o (t_B o (e_call o (o.un w1 hL) (a_cons o (e_var o S1 rfl) (a_nil o)) ⟨p, rfl, rfl⟩))) (fun c H2 w2 => ?_) (fun c H2 w2 => ?_)
  · refine s_ret o (e_lst o (o.un (w1.trans w2) hL) (a_nil o)) fun v H3 w3 r3 => k v H3 _ ⟨[], fun x => ?_, Nat.zero_le _, rfl⟩ ((w1.trans w2).trans w3) r3
    have hs : p.isStrip = false := by simpa using c
    have hm := (G.leaf _ p hp hs).1
    constructor
    · intro h; cases h
    · rintro ⟨_, M, _, hM, _⟩
      rw [hm] at hM
      cases hM
  · have hs : p.isStrip = true := by simpa using c
    obtain ⟨M, hM, gm, _⟩ := G.strip _ p hp hs
    have S2 := S1.mono o w2
    have hmd : (ms.map mchD)[r.p.toNat]? = some M.d := by rw [List.getElem?_map, hM]; rfl
    refine s_ret o (e_callN o noT (o.un (w1.trans w2) hL) (a_cons o (e_var o S2 rfl) (a_cons o (e_ixT o (i := 1) (ds := [.tuple (M.ends.map .bool), mvs M.moves]) (e_ixTz o (ds := ms.map mchD) (d := M.d) (e_var o S2 rfl) (e_rg o (r := r) (e_var o S2 rfl) 0) hp0 hmd) (e_int o) rfl) (a_cons o (e_var o S2 rfl) (a_nil o)))) ⟨p, M.moves, r, gm, h1, h2, rfl, rfl⟩) fun v H3 w3 hz => ?_
    obtain ⟨d, ⟨l, hl, hn, ed⟩, r3⟩ := hz
    subst ed
    refine k v H3 _ ⟨l, fun x => ?_, hn, rfl⟩ ((w1.trans w2).trans w3) r3
    rw [hl]
    constructor
    · exact fun h => ⟨p, M, hp, hM, h⟩
    · rintro ⟨p', M', hp', hM', h⟩
      rw [hp] at hp'
      rw [hM] at hM'
      cases hp'
      cases hM'
      exact h
abbrev N_needed_with : List Str := ["parts", "table", "region", "known", "todo", "many", "pieces", "other"]
abbrev s_needed_with : Stmt := top 20
theorem sc_needed_with : FnScope ["parts", "table", "region", "known", "todo", "many", "pieces", "other"] ["parts", "table", "region"] (defScope s_needed_with) := ⟨rfl, rfl, rfl, by decide +kernel, rfl, by decide +kernel, by decide +kernel⟩
def Rneeded (ds : List PyData) (Z : PyData → Prop) : Prop := ∃ (ps : List Pt) (ms : List (Option Mch)) (r : Rg), Gram ps ms ∧ Page ps r ∧ ds = [pts ps, mcs ms, r.d] ∧ Z = fun d => ∃ (l : List Rg) (n : Int), NeedL ps ms r l ∧ d = .tuple [.list (l.map Rg.d), .int n]
theorem ok_needed_with (F : DefA K mg "needed_with" s_needed_with) (B : Blt mg) (c_looks_of : C8.Cal P w K mg base 3 "looks_of" (spN K [] Rlooks_of) []) : C8.Cal P w K mg base 4 "needed_with" (spN K [] Rneeded) [] := by
  refine cal_by F sc_needed_with rfl rfl rfl (fun _ _ _ _ _ _ us hl => match us, hl with | [_, _, _], _ => rfl) (spN_len fun ds d ⟨_, _, _, _, _, e, _⟩ => by rw [e]; rfl) fun f cdv A outer s H vs Q E hr h => ?_
  obtain ⟨L, ds, Z, _, hL, hd, ⟨ps, ms, r, G, g, rfl, rfl⟩, k⟩ := h
  have o := w0 K L
  have hu4 : _ + 64 < cLine := hr.units
  have hu := hu_of hr
  have S := Sl.start (C := W0 K L) (N := N_needed_with) hd
  refine ⟨_, (pss_c (ps_set (i := 3) sc_needed_with.nd rfl (Or.inl rfl) (pe_disp1 hu (pv 2) pe_bl))
  (pss_c (ps_set (i := 4) sc_needed_with.nd rfl (Or.inl rfl) (pe_lst (pa_cons (pv 2) pa_nil)))
  (pss_c (ps_set (i := 5) sc_needed_with.nd rfl (Or.inl rfl) pe_int)
  (pss_c (ps_while PassesOwn.never (pt_truth (pv 4) (by intro _; rfl)) (pss_c (ps_set (i := 6) sc_needed_with.nd rfl (Or.inl rfl) (C8.pe_c c_looks_of hr (by omega) rfl (pa_cons (pv 0) (pa_cons (pv 1) (pa_cons (pe_bm0 PySem.F.plainAttrs_list PySem.F.slot_list_pop PySem.F.type_list_pop mt_pop (pv 4)) pa_nil)))))
  (pss_c (ps_aug (i := 5) sc_needed_with.nd rfl (Or.inl rfl) (pe_callB call_len (by rfl) B.len PySem.boot_len (pa_cons (pv 6) pa_nil)) ip_add)
  (pss_one (ps_for PassesOwn.never rfl (pi_list (pv 6)) (pg_name (i := 7) sc_needed_with.nd rfl (Or.inl rfl)) (pss_one (ps_if (pt_cmp (pc_dnotin hu (pv 7) (pv 3))) (pss_c (ps_dput hu (pv 3) (pv 7) pe_bl rfl)
  (pss_one (ps_expr (pe_bm PySem.F.plainAttrs_list PySem.F.slot_list_append PySem.F.type_list_append mt_append (pv 4) (pa_cons (pv 7) pa_nil))))) pss_nil)))))))
  (pss_one (ps_ret (pe_tup (pa_cons (pe_callB (cr_sortedD rfl hu4) (by rfl) B.sorted (by decide +kernel) (pa_cons (pv 3) pa_nil)) (pa_cons (pv 5) pa_nil))))))))), ?_⟩
  -- known = {region: True}
  change ∀ p, H p = none → _
  intro q1 hq1
  obtain ⟨vr, evr, rr⟩ := S.da (i := 2) rfl
  obtain ⟨br, rfl, hbr⟩ := DT.keyI (ns := r.ns) rr
  have hne : br ≠ q1 := fun e => by rw [e, hq1] at hbr; cases hbr
  refine ⟨_, evr, upd_same, iks r.ns, br, rfl, (by rw [upd_ne hne]; exact hbr), ?_⟩
  have k1 : Kp No H (upd (upd H q1 (.dT [])) q1 (.dT [(iks r.ns, .bl true)])) := by
    have := (Kp.new (o := .dT []) hq1).loc hq1 ((Kp.refl (· = q1) (upd H q1 (.dT []))).put (o := .dT [(iks r.ns, .bl true)]) (.inr rfl) (by rw [upd_same]; trivial))
    exact this
  have S1 : Sl (W0 K (Lp L q1)) (upd (upd H q1 (.dT [])) q1 (.dT [(iks r.ns, .bl true)])) _ _ := ((S.own hq1 (.dT [])).step (M := (· = q1)) (fun a e => .inr e) ((Kp.refl _ _).put (.inr rfl) (by rw [upd_same]; trivial))).putV (i := 3) (v := .ref q1)
  have hd1 : (upd (upd H q1 (.dT [])) q1 (.dT [(iks r.ns, .bl true)])) q1 = some (.dT [(iks r.ns, .bl true)]) := upd_same
  have un1 : ∀ a, Lp L q1 a → (upd (upd H q1 (.dT [])) q1 (.dT [(iks r.ns, .bl true)])) a ≠ none := fun a z => by
    by_cases e : a = q1
    · subst e; rw [upd_same]; intro h; cases h
    · rw [upd_ne e, upd_ne e]; exact z.elim (hL a) (fun z => absurd z e)
  generalize upd (upd H q1 (.dT [])) q1 (.dT [(iks r.ns, .bl true)]) = H1 at k1 S1 hd1 un1 ⊢
  have o1 := w0 K (Lp L q1)
  -- todo = [region]
  refine (e_var o1 S1 rfl : Ed (W0 K (Lp L q1)) _ _ H1 r.d) H1 (Kp.refl _ _) _ fun v2 H2 w2 r2 => ⟨Nat.le_trans (by decide : 1 ≤ 1000) (by decide), fun q2 hq2 => ?_⟩
  have S2 := ((S1.mono o1 w2).own hq2 (.lst [v2])).putV (i := 4) (v := .ref q2)
  have r3 := DT.own r2 hq2 (.lst [v2])
  have hx2 : upd H2 q2 (.lst [v2]) q2 = some (.lst [v2]) := upd_same
  have hqq : q1 ≠ q2 := fun e => by
    have : H2 q1 = some _ := w2.dT (fun z => z.elim) hd1
    rw [e, hq2] at this; cases this
  have hd2 : upd H2 q2 (.lst [v2]) q1 = some (.dT [(iks r.ns, .bl true)]) := by rw [upd_ne hqq]; exact w2.dT (fun z => z.elim) hd1
  have un2 : ∀ a, Lp (Lp L q1) q2 a → upd H2 q2 (.lst [v2]) a ≠ none := own_un (w2.un un1) _
  have k2 : Kp No H (upd H2 q2 (.lst [v2])) := k1.trans (w2.trans (Kp.new hq2))
  generalize upd H2 q2 (.lst [v2]) = H3 at S2 r3 hx2 hd2 un2 k2 ⊢
  have o2 := w0 K (Lp (Lp L q1) q2)
  have hM : ∀ a, (a = q1 ∨ a = q2) → Lp (Lp L q1) q2 a := fun a e => e.elim (fun e => .inl (.inr e)) .inr
  refine s_set (rt := fun _ _ => False) (bk := fun _ _ => False) (ct := fun _ _ => False) (te := tC (V.int 0)) (i := 5) o2 (e_int o2) fun v4 H4 w4 r4 => ?_
  have S4 := (S2.mono o2 w4).putD (i := 5) r4
  have hx4 : H4 q2 = some (.lst [v2]) := w4.lst (fun z => z.elim) hx2
  have hd4 : H4 q1 = some (.dT [(iks r.ns, .bl true)]) := w4.dT (fun z => z.elim) hd2
  have r4' := DT.mono o2 w4 r3
  have un4 := w4.un un2
  have k4 : Kp No H H4 := k2.trans w4
  have fr1 : ∀ a, (a = q1 ∨ a = q2) → H a = none := fun a e => e.elim (fun e => e ▸ hq1) fun e => (k1.trans w2).free (e ▸ hq2)
  have nl : (allIn ps r).length ≤ 6000 := allIn_len G r
  let Iv : List Rg → List Rg → Prop := fun ks td => ks.Nodup ∧ td.Nodup ∧ r ∈ ks ∧ (∀ x ∈ ks, Needed ps ms r x) ∧ (∀ x ∈ td, x ∈ ks) ∧ ∀ x ∈ ks, x ∉ td → ∀ y, Nxt ps ms x y → y ∈ ks
  have hks : ∀ {ks : List Rg}, ks.Nodup → (∀ x ∈ ks, Needed ps ms r x) → ks.length ≤ (allIn ps r).length := fun {ks} hn hN => nodup_sub_len ks _ hn fun x hx => ((hN x hx).ins G g).all g
  let kv : List Rg → List (List L2.Key × V) := fun ks => ks.map fun x => (iks x.ns, .bl true)
  have hkv : ∀ (ks : List Rg) (x : Rg), (valV (kv ks) (iks x.ns)).isSome = decide (x ∈ ks) := fun ks x => by
    rw [Bool.eq_iff_iff, decide_eq_true_eq]
    cases e : valV (kv ks) (iks x.ns) with
    | none =>
      have := valV_none.mp e
      constructor
      · intro z; cases z
      · intro z
        exact absurd (List.mem_map.mpr ⟨(iks x.ns, .bl true), List.mem_map.mpr ⟨x, z, rfl⟩, rfl⟩) this
    | some v =>
      have : ¬ valV (kv ks) (iks x.ns) = none := by rw [e]; intro z; cases z
      rw [valV_none] at this
      constructor
      · intro _
        obtain ⟨p, hp, e2⟩ := List.mem_map.mp (Classical.not_not.mp this)
        obtain ⟨y, hy, rfl⟩ := List.mem_map.mp hp
        rw [← Rg.ns_inj (iks_inj e2)]
        exact hy
      · intro _; rfl
  -- while todo
  refine ⟨fun m σ' H' => Kp (fun a => a = q1 ∨ a = q2) H4 H' ∧ ∃ a b n ks td xs, Sl (W0 K (Lp (Lp L q1) q2)) H' σ' [.da (pts ps), .da (mcs ms), .da r.d, .va (.ref q1), .va (.ref q2), .da (.int n), a, b] ∧ H' q1 = some (.dT (kv ks)) ∧ H' q2 = some (.lst xs) ∧ DTs K (Lp (Lp L q1) q2) H' xs (td.map Rg.d) ∧ Iv ks td ∧ m = 2 * ((allIn ps r).length - ks.length) + td.length,
    ⟨_, Kp.refl _ _, .un, .un, 0, [r], [r], [v2], S4, hd4, hx4, .cons r4' .nil, ⟨by simp, by simp, by simp, fun x hx => by rw [List.mem_singleton.mp hx]; exact .refl, fun x hx => hx, fun x hx h => absurd hx h⟩, rfl⟩, ?_⟩
  rintro m σ5 H5 ⟨k5, a, b, n, ks, td, xs, S5, hd5, hx5, rx5, ⟨i1, i2, i3, i4, i5, i6⟩, rfl⟩
  have un5 := k5.un un4
  refine e_val o2 S5 rfl H5 (Kp.refl _ _) _ fun v6 H6 w6 e => ?_
  subst e
  have hx6 : H6 q2 = some (.lst xs) := w6.lst (fun z => z.elim) hx5
  refine ⟨!xs.isEmpty, .inl ⟨xs, SqL.of hx6, rfl⟩, ?_⟩
  have hd6 : H6 q1 = some (.dT (kv ks)) := w6.dT (fun z => z.elim) hd5
  have S6 := S5.mono o2 w6
  have rx6 := DTs.mono o2 w6 rx5
  have k6 : Kp (fun a => a = q1 ∨ a = q2) H4 H6 := k5.trans (w6.mono fun _ z => z.elim)
  by_cases htd : td = []
  · -- the end
    subst htd
    have : xs = [] := by cases rx6; rfl
    subst this
    dsimp only
    rw [if_neg (by simp)]
    refine s_ret o2 (P := fun v H' => ∃ l : List Rg, NeedL ps ms r l ∧ Dw (W0 K (Lp (Lp L q1) q2)) H' v (.tuple [.list (l.map Rg.d), .int n])) ?_ ?_
    · intro H7 w7 Qx qx
      refine e_val o2 S6 rfl H7 w7 _ fun v8 H8 w8 e => ?_
      subst e
      have hd8 : H8 q1 = some (.dT (kv ks)) := w8.dT (fun z => z.elim) (w7.dT (fun z => z.elim) hd6)
      refine ⟨q1, kv ks, ks.map Rg.ns, rfl, hd8, (by rw [List.map_map, List.map_map]; rfl), (fun k hk => by obtain ⟨x, _, rfl⟩ := List.mem_map.mp hk; intro z; cases z), fun bs D hp hs hb hD => ?_⟩
      obtain ⟨l, hl1, hl2⟩ := perm_ns hp
      have w9 : Kp No H8 (upd H8 D (.lst (bs.map fun b => V.ref b.2))) := Kp.new hD
      have hDl : ¬ Lp (Lp L q1) q2 D := fun z => ((w7.trans w8).un (w6.un un5)) D z hD
      have rD : Dw (W0 K (Lp (Lp L q1) q2)) (upd H8 D (.lst (bs.map fun b => V.ref b.2))) (.ref D) (.list (l.map Rg.d)) := by
        refine .lst hDl upd_same ?_
        have hb' : ∀ b ∈ bs, upd H8 D (.lst (bs.map fun b => V.ref b.2)) b.2 = some (.tup (b.1.map V.int)) := fun b hbb => w9.tup _ _ (hb b hbb)
        revert hb'
        generalize upd H8 D (.lst (bs.map fun b => V.ref b.2)) = H9
        clear hp hs hb hl2 w9
        intro hb'
        induction bs generalizing l with
        | nil =>
          cases l with
          | nil => exact .nil
          | cons x r => cases hl1
        | cons b r ih =>
          cases l with
          | nil => cases hl1
          | cons x l =>
            rw [List.map_cons, List.map_cons, List.cons.injEq] at hl1
            refine .cons ?_ (ih l hl1.2 fun b hbb => hb' b (List.mem_cons_of_mem _ hbb))
            have := hb' b List.mem_cons_self
            rw [← hl1.1] at this
            rw [Rg.d_ns]
            exact .tup this DTs.ints
      refine e_var o2 ((S6.mono o2 (w7.trans w8)).mono o2 w9) (i := 5) rfl _ (Kp.refl _ _) _ fun v10 H10 w10 r10 => ?_
      refine ⟨Nat.le_trans (by decide : 2 ≤ 1000) (by decide), fun T hT => ?_⟩
      have w11 : Kp No H10 (upd H10 T (.tup [.ref D, v10])) := Kp.new hT
      refine qx _ _ (((w8.trans w9).trans w10).trans w11) ⟨l, ⟨hl2.nodup_iff.mpr i1, fun x => ?_, ?_⟩, .tup upd_same (.cons (DT.mono o2 (w10.trans w11) rD) (.cons (DT.mono o2 w11 r10) .nil))⟩
      · rw [hl2.mem_iff]
        constructor
        · exact i4 x
        · intro hx
          induction hx with
          | refl => exact i3
          | step _ hn ih => exact i6 _ ih (by simp) _ hn
      · rw [← hl1, List.pairwise_map] at hs
        exact hs.imp fun h => le_head h
    · intro v7 H7 w7 ⟨l, hl, r7⟩
      refine k v7 H7 _ ⟨l, n, hl, rfl⟩ ((k4.hide (k6.trans (w7.mono fun _ z => z.elim)) fun c z => .inl (fr1 c z))) (DT.less (fun a z => .inl (.inl z)) r7)
  · -- one more
    obtain ⟨td', x, rfl⟩ : ∃ td' x, td = td' ++ [x] := ⟨td.dropLast, td.getLast htd, (List.dropLast_concat_getLast htd).symm⟩
    have hxl := rx6.length
    rw [List.length_map, List.length_append, List.length_singleton] at hxl
    have hxne : xs.isEmpty = false := by cases xs with
      | nil => simp at hxl
      | cons _ _ => rfl
    dsimp only
    rw [hxne, if_pos (by rfl)]
    obtain ⟨vx, hvx, rvx⟩ := rx6.get (i := td'.length) (d := x.d) (by rw [List.getElem?_map, List.getElem?_append_right (Nat.le_refl _), Nat.sub_self]; rfl)
    have hxk : x ∈ ks := i5 x (by simp)
    have hNx := i4 x hxk
    have hix := hNx.ins G g
    obtain ⟨px, hpx⟩ := hix.part
    have hex := hix.ext g px
    refine ⟨fun σ' H' => ∃ m', m' < 2 * ((allIn ps r).length - ks.length) + (td' ++ [x]).length ∧ Kp (fun a => a = q1 ∨ a = q2) H4 H' ∧ ∃ a b n ks td xs, Sl (W0 K (Lp (Lp L q1) q2)) H' σ' [.da (pts ps), .da (mcs ms), .da r.d, .va (.ref q1), .va (.ref q2), .da (.int n), a, b] ∧ H' q1 = some (.dT (kv ks)) ∧ H' q2 = some (.lst xs) ∧ DTs K (Lp (Lp L q1) q2) H' xs (td.map Rg.d) ∧ Iv ks td ∧ m' = 2 * ((allIn ps r).length - ks.length) + td.length, fun σ' H' h => h, ?_⟩
    -- pieces = looks_of(parts, table, todo.pop())
    obtain ⟨u0, e0, t0⟩ := S6.da (i := 0) rfl
    obtain ⟨u1, e1, t1⟩ := S6.da (i := 1) rfl
    have e4 := S6.va (i := 4) rfl
    have k7 : Kp (fun a => a = q1 ∨ a = q2) H6 (upd H6 q2 (.lst xs.dropLast)) := (Kp.refl _ _).put (.inr (.inr rfl)) (by rw [hx6]; trivial)
    have hdl : DTs K (Lp (Lp L q1) q2) (upd H6 q2 (.lst xs.dropLast)) xs.dropLast (td'.map Rg.d) := by
      have := DTs.step hM k7 (rx6.take td'.length)
      have e : ((td' ++ [x]).map Rg.d).take td'.length = td'.map Rg.d := by
        rw [List.map_append, List.take_append_of_le_length (by rw [List.length_map]; exact Nat.le_refl _), List.take_of_length_le (by rw [List.length_map]; exact Nat.le_refl _)]
      rw [e] at this
      have e2 : xs.dropLast = xs.take td'.length := by rw [List.dropLast_eq_take, show xs.length - 1 = td'.length by omega]
      rw [← e2] at this
      exact this
    have hx7 : upd H6 q2 (.lst xs.dropLast) q2 = some (.lst xs.dropLast) := upd_same
    have hd7 : upd H6 q2 (.lst xs.dropLast) q1 = some (.dT (kv ks)) := by rw [upd_ne hqq]; exact hd6
    have S7 := S6.step hM k7
    have un7 := (k7.un (w6.un un5))
    have args : DTs K (Lp (Lp L q1) q2) (upd H6 q2 (.lst xs.dropLast)) [u0, u1, vx] [pts ps, mcs ms, x.d] := .cons (DT.step hM k7 t0) (.cons (DT.step hM k7 t1) (.cons (DT.step hM k7 rvx) .nil))
    refine ⟨u0, e0, u1, e1, _, e4, .inl ⟨rfl, _, SqL.of hx6⟩, q2, xs, vx, rfl, rfl, hx6, by rw [show xs.length - 1 = td'.length by omega]; exact hvx, ?_⟩
    generalize upd H6 q2 (.lst xs.dropLast) = H7 at k7 hdl hx7 hd7 S7 un7 args ⊢
    refine ⟨Lp (Lp L q1) q2, _, _, noT, un7, args, ⟨ps, ms, px, x, G, hix.p0, hpx, by omega, by omega, rfl, rfl⟩, fun v8 H8 d8 ⟨pc, hpc, hpn, ed⟩ w8 r8 => ?_⟩
    subst ed
    have S8 := (S7.mono o2 w8).putD (i := 6) r8
    refine s_inc o2 S8 rfl (e_lenL o2 (e_var o2 S8 rfl)) fun H9 w9 => ?_
    have S9 := (S8.mono o2 w9).putD (i := 5) (DT.int (n + ((pc.map Rg.d).length : Nat)))
    have w79 : Kp No H7 H9 := w8.trans w9
    have hx9 : H9 q2 = some (.lst xs.dropLast) := w79.lst (fun z => z.elim) hx7
    have hd9 : H9 q1 = some (.dT (kv ks)) := w79.dT (fun z => z.elim) hd7
    have rx9 := DTs.mono o2 w79 hdl
    have k9 : Kp (fun a => a = q1 ∨ a = q2) H4 H9 := (k6.trans k7).trans (w79.mono fun _ z => z.elim)
    have hxt : x ∉ td' := fun z => by
      have := List.nodup_append.mp i2
      exact this.2.2 x z x (by simp) rfl
    have htd' : td'.Nodup := (List.nodup_append.mp i2).1
    refine s_forN o2 (ds := pc.map Rg.d) (M := fun a => a = q1 ∨ a = q2) (e_var o2 S9 rfl)
      (fun j σ' H' => Kp (fun a => a = q1 ∨ a = q2) H4 H' ∧ ∃ b ks' td' xs', Sl (W0 K (Lp (Lp L q1) q2)) H' σ' [.da (pts ps), .da (mcs ms), .da r.d, .va (.ref q1), .va (.ref q2), .da (.int (n + ((pc.map Rg.d).length : Nat))), .da (.list (pc.map Rg.d)), b] ∧ H' q1 = some (.dT (kv ks')) ∧ H' q2 = some (.lst xs') ∧ DTs K (Lp (Lp L q1) q2) H' xs' (td'.map Rg.d) ∧
        ks'.Nodup ∧ td'.Nodup ∧ (∀ y ∈ ks, y ∈ ks') ∧ (∀ y ∈ ks', Needed ps ms r y) ∧ (∀ y ∈ td', y ∈ ks') ∧ (∀ y ∈ ks', y ≠ x → y ∉ td' → ∀ z, Nxt ps ms y z → z ∈ ks') ∧ (∀ y ∈ pc.take j, y ∈ ks') ∧ 2 * ((allIn ps r).length - ks'.length) + td'.length + 1 ≤ 2 * ((allIn ps r).length - ks.length) + xs.length ∧ x ∉ td') hM
      (fun H' w => ⟨k9.trans (w.mono fun _ z => z.elim), _, ks, td', _, S9.mono o2 w, w.dT (fun z => z.elim) hd9, w.lst (fun z => z.elim) hx9, DTs.mono o2 w rx9, i1, htd', fun y h => h, i4, fun y h => i5 y (List.mem_append_left _ h), fun y h hne hnt => i6 y h (fun z => (List.mem_append.mp z).elim hnt fun z => hne (List.mem_singleton.mp z)), (fun y h => by simp at h), by omega, hxt⟩)
      (fun H10 w10 j d v σ11 H11 hj rd k1011 ⟨k11, b11, ks', td'', xs', S11, hd11, hx11, rx11, j1, j2, j3, j4, j5, j6, j7, j8, j9⟩ => ?_) (fun H10 w10 σ11 H11 k1011 ⟨k11, b11, ks', td'', xs', S11, hd11, hx11, rx11, j1, j2, j3, j4, j5, j6, j7, j8, j9⟩ => ?_)
    · rw [List.getElem?_map] at hj
      cases hy : pc[j]? with
      | none => rw [hy] at hj; cases hj
      | some y =>
        rw [hy] at hj
        have ej := Option.some.inj hj
        subst ej
        have hyn : Nxt ps ms x y := (hpc y).mp (List.mem_of_getElem? hy)
        have hNy : Needed ps ms r y := .step hNx hyn
        have S12 := S11.putD (i := 7) rd
        have tk : ∀ {z : Rg}, z ∈ pc.take (j + 1) → z ∈ pc.take j ∨ z = y := fun {z} h => by
          rw [List.take_add_one, hy] at h
          simpa using h
        refine s_if o2 (t_B o2 (e_dnotin o2 (ns := y.ns) (e_val o2 S12 rfl) (e_var o2 S12 rfl) fun H' w => w.dT (fun z => z.elim) hd11)) (fun c H12 w12 => ?_) (fun c H12 w12 => ?_)
        · rw [hkv] at c
          have hny : y ∉ ks' := by simpa using c
          have S13 := S12.mono o2 w12
          have hz : ks'.length ≤ 6000 := Nat.le_trans (hks j1 j4) nl
          refine s_dput (ns := y.ns) (e_bl o2) (fun H' w => e_val o2 (S13.mono o2 w) rfl) (fun H' w => e_var o2 (S13.mono o2 w) rfl) (fun v H1 H2 k h => DT.mono o2 k h) (fun H' w => (w12.trans w).dT (fun z => z.elim) hd11) (lt_size (by rw [List.length_map]; omega)) fun v13 H13 w13 r13 hd13 => ?_
          have ev : v13 = .bl true := r13.blI
          subst ev
          have eput : putK (kv ks') (iks y.ns) (.bl true) = kv (ks' ++ [y]) := by
            have : valV (kv ks') (iks y.ns) = none := by
              have := hkv ks' y
              rw [decide_eq_false hny] at this
              cases e : valV (kv ks') (iks y.ns) with
              | none => rfl
              | some v => rw [e] at this; cases this
            rw [putK_new this]
            show _ = (ks' ++ [y]).map _
            rw [List.map_append]
            rfl
          rw [eput]
          have k14 : Kp (fun a => a = q1 ∨ a = q2) H13 (upd H13 q1 (.dT (kv (ks' ++ [y])))) := (Kp.refl _ _).put (.inr (.inl rfl)) (by rw [hd13]; trivial)
          have w1113 : Kp No H11 H13 := w12.trans w13
          have hx14 : upd H13 q1 (.dT (kv (ks' ++ [y]))) q2 = some (.lst xs') := by rw [upd_ne (fun e => hqq e.symm)]; exact w1113.lst (fun z => z.elim) hx11
          have hd14 : upd H13 q1 (.dT (kv (ks' ++ [y]))) q1 = some (.dT (kv (ks' ++ [y]))) := upd_same
          have S14 := (S13.mono o2 w13).step hM k14
          have rx14 := DTs.step hM k14 (DTs.mono o2 w1113 rx11)
          generalize upd H13 q1 (.dT (kv (ks' ++ [y]))) = H14 at k14 hx14 hd14 S14 rx14 ⊢
          have hlt : td''.length ≤ 6000 := Nat.le_trans (nodup_sub_len td'' ks' j2 j5) hz
          refine s_app S14 rfl hx14 (lt_size (by rw [rx14.length, List.length_map]; omega)) (e_var o2 S14 rfl) fun v15 H15 w15 r15 hx15 => ?_
          have k16 : Kp (fun a => a = q1 ∨ a = q2) H15 (upd H15 q2 (.lst (xs' ++ [v15]))) := (Kp.refl _ _).put (.inr (.inr rfl)) (by rw [hx15]; trivial)
          have kk : Kp (fun a => a = q1 ∨ a = q2) H11 (upd H15 q2 (.lst (xs' ++ [v15]))) := (((w1113.mono fun _ z => z.elim).trans k14).trans (w15.mono fun _ z => z.elim)).trans k16
          have hnd : (ks' ++ [y]).Nodup := by
            rw [List.nodup_append]
            exact ⟨j1, by simp, fun a ha b hb => by rw [List.mem_singleton.mp hb]; exact fun e => hny (e ▸ ha)⟩
          have hN' : ∀ z ∈ ks' ++ [y], Needed ps ms r z := fun z h => (List.mem_append.mp h).elim (j4 z) fun h => by rw [List.mem_singleton.mp h]; exact hNy
          have hl2 := hks hnd hN'
          rw [List.length_append, List.length_singleton] at hl2
          refine ⟨k1011.trans kk, k11.trans kk, _, ks' ++ [y], td'' ++ [y], _, (S14.mono o2 w15).step hM k16, by rw [upd_ne hqq]; exact w15.dT (fun z => z.elim) hd14, upd_same, ?_, hnd, ?_, fun z h => List.mem_append_left _ (j3 z h), hN', ?_, ?_, ?_, ?_, ?_⟩
          · rw [List.map_append]
            exact DTs.step hM k16 ((DTs.mono o2 w15 rx14).snoc r15)
          · rw [List.nodup_append]
            exact ⟨j2, by simp, fun a ha b hb => by rw [List.mem_singleton.mp hb]; exact fun e => hny (e ▸ j5 a ha)⟩
          · intro z h
            rcases List.mem_append.mp h with h | h
            · exact List.mem_append_left _ (j5 z h)
            · exact List.mem_append_right _ h
          · intro z h hne hnt z' hz'
            rcases List.mem_append.mp h with h | h
            · exact List.mem_append_left _ (j6 z h hne (fun q => hnt (List.mem_append_left _ q)) z' hz')
            · exact absurd (List.mem_append_right _ h) hnt
          · intro z h
            rcases tk h with h | h
            · exact List.mem_append_left _ (j7 z h)
            · rw [h]; simp
          · simp only [List.length_append, List.length_singleton]
            omega
          · intro z
            rcases List.mem_append.mp z with z | z
            · exact j9 z
            · have : x = y := List.mem_singleton.mp z
              exact hny (this ▸ j3 x hxk)
        · rw [hkv] at c
          have hy' : y ∈ ks' := by simpa using c
          refine ⟨k1011.trans (w12.mono fun _ z => z.elim), k11.trans (w12.mono fun _ z => z.elim), _, ks', td'', xs', S12.mono o2 w12, w12.dT (fun z => z.elim) hd11, w12.lst (fun z => z.elim) hx11, DTs.mono o2 w12 rx11, j1, j2, j3, j4, j5, j6, fun z h => ?_, j8, j9⟩
          rcases tk h with h | h
          · exact j7 z h
          · rw [h]; exact hy'
    · rw [List.length_map, List.take_length] at j7
      refine ⟨_, ?_, k11, _, _, _, ks', td'', xs', S11, hd11, hx11, rx11, ⟨j1, j2, j3 r i3, j4, j5, fun y h hnt z hz => ?_⟩, rfl⟩
      · rw [List.length_append, List.length_singleton]
        omega
      · by_cases e : y = x
        · subst e
          exact j7 z ((hpc z).mpr hz)
        · exact j6 y h e hnt z hz
end
end SR

/-! Lcs: list comprehensions by description; lists joined. -/
namespace SR
open PySem PySem.Spec PyProof.Rows L2
def lcF (n : Nat) (b : Nat → Bool) (e : Nat → PyData) : List PyData := (List.range n).filterMap fun i => if b i then some (e i) else none
theorem lcF_succ (n : Nat) (b : Nat → Bool) (e : Nat → PyData) : lcF (n + 1) b e = lcF n b e ++ (if b n then [e n] else []) := by
  unfold lcF
  rw [List.range_succ, List.filterMap_append]
  congr 1
  by_cases h : b n <;> simp [h]
theorem lcF_len (n : Nat) (b : Nat → Bool) (e : Nat → PyData) : (lcF n b e).length ≤ n := by
  unfold lcF
  have := List.length_filterMap_le (fun i => if b i then some (e i) else none) (List.range n)
  rw [List.length_range] at this
  exact this
theorem lcF_list {α : Type} (d0 : α) (p : α → Bool) (g : α → PyData) : ∀ l : List α, lcF l.length (fun i => p (l.getD i d0)) (fun i => g (l.getD i d0)) = (l.filter p).map g
  | [] => rfl
  | x :: l => by
    have ih := lcF_list d0 p g l
    unfold lcF at ih ⊢
    rw [List.length_cons, List.range_succ_eq_map, List.filterMap_cons, List.filterMap_map]
    have e : (fun i => if p (List.getD (x :: l) i d0) = true then some (g (List.getD (x :: l) i d0)) else none) ∘ Nat.succ = fun i => if p (l.getD i d0) = true then some (g (l.getD i d0)) else none := by
      funext i
      show (if p (List.getD (x :: l) (i + 1) d0) = true then some (g (List.getD (x :: l) (i + 1) d0)) else none) = _
      rw [List.getD_cons_succ]
    rw [e, ih]
    simp only [List.getD_cons_zero]
    by_cases h : p x = true
    · simp [h]
    · simp [h]
theorem getD_of {α : Type} {l : List α} {i : Nat} {x d0 : α} (h : l[i]? = some x) : l.getD i d0 = x := by rw [List.getD_eq_getElem?_getD, h]; rfl
section
variable {K : PySem.W.Frag} {L : Addr → Prop} {H : Hp} {σ : L2.St} {te tu ta tb : TE} {tt : TT} {j : Nat} {vs : List Nat}
/-- what a turn must do -/
def LcT (K : PySem.W.Frag) (L : Addr → Prop) (H : Hp) (σ : L2.St) (vs : List Nat) (ds : List PyData) (j : Nat) (tt : TT) (tu : TE) (b : Nat → Bool) (e : Nat → PyData) : Prop :=
  ∀ (D : Addr) (H0 H' : Hp), H0 D = none → Kp No H H0 → Kp No H H' → (∀ a, Lp L D a → H' a ≠ none) → (∀ ρ, Sl (W0 K L) H σ ρ → Sl (W0 K (Lp L D)) H' (wipe σ vs) (wipeD ρ vs)) → ∀ (i : Nat) (d : PyData) (v : V), ds[i]? = some d → DT K (Lp L D) H' v d →
    Et (W0 K (Lp L D)) tt ((wipe σ vs).set j (some v)) H' (b i) ∧ (b i = true → ∀ H2, Kp No H' H2 → Ed (W0 K (Lp L D)) tu ((wipe σ vs).set j (some v)) H2 (e i))
theorem lc_turns {ds : List PyData} {b : Nat → Bool} {e : Nat → PyData} (hL : ∀ a, L a → H a ≠ none) (hn : ds.length ≤ 16000000) (hw : ∀ v : V, wipe ((wipe σ vs).set j (some v)) vs = wipe σ vs) (hs : LcT K L H σ vs ds j tt tu b e)
    {H1 : Hp} {D : Addr} {J : It} {xs : List V} (k1 : Kp No H H1) (hD : H1 D = none) (r : DTs K L H1 xs ds) {Q : VK} (q : ∀ v H2, Kp No H1 H2 → DT K L H2 v (.list (lcF ds.length b e)) → Q v H2) (hgo : ∀ i H', i < ds.length → Kp No H1 H' → J.go i H' ∧ ∀ x H'', J.yld i H' x H'' → H'' = H' ∧ xs[i]? = some x) (hst : ∀ H', Kp No H1 H' → J.stop ds.length H') :
    ∃ W : Nat → Nat → Hp → Prop, (∃ m, W 0 m (upd H1 D (.lst []))) ∧ ∀ i m H, W i m H →
      (J.stop i H ∧ Q (.ref D) H) ∨ (J.go i H ∧ ∃ Nx : Hp → Prop, (∀ H', Nx H' → ∃ m', m' < m ∧ W (i + 1) m' H') ∧ ∀ x H', J.yld i H x H' → gName j x (wipe σ vs) H' fun σ2 H2 => wipe σ2 vs = wipe σ vs ∧ tt σ2 H2 fun b H3 =>
        if b = true then tu σ2 H3 fun y H4 => ∃ acc, H4 D = some (.lst acc) ∧ acc.length < sizeLine ∧ Nx (upd H4 D (.lst (acc ++ [y]))) else Nx H3) := by
  have hM : ∀ a, a = D → Lp L D a := fun a e => .inr e
  have o2 := w0 K (Lp L D)
  have hDL : ¬ L D := fun l => hL D l (k1.free hD)
  have kb : Kp No H1 (upd H1 D (.lst [])) := Kp.new hD
  refine ⟨fun i m H' => m = ds.length - i ∧ i ≤ ds.length ∧ Kp (· = D) (upd H1 D (.lst [])) H' ∧ ∃ acc, H' D = some (.lst acc) ∧ DTs K (Lp L D) H' acc (lcF i b e), ⟨_, rfl, Nat.zero_le _, Kp.refl _ _, [], upd_same, .nil⟩, ?_⟩
  rintro i m H2 ⟨rfl, hi, k2, acc, hx, ra⟩
  have k12 : Kp No H1 H2 := kb.loc hD k2
  by_cases hlt : i < ds.length
  · obtain ⟨g1, g2⟩ := hgo i H2 hlt k12
    refine .inr ⟨g1, fun H' => Kp (· = D) (upd H1 D (.lst [])) H' ∧ ∃ acc, H' D = some (.lst acc) ∧ DTs K (Lp L D) H' acc (lcF (i + 1) b e), fun H' ⟨a1, a2⟩ => ⟨ds.length - (i + 1), by omega, rfl, hlt, a1, a2⟩, fun x H' hy => ?_⟩
    obtain ⟨rfl, hxi⟩ := g2 x H' hy
    obtain ⟨d, hd, rd⟩ := r.get' hxi
    have rd2 : DT K (Lp L D) H' x d := DT.step hM k2 (DT.own rd hD (.lst []))
    have un2 : ∀ a, Lp L D a → H' a ≠ none := k2.un (own_un (k1.un hL) _)
    have kS : ∀ ρ, Sl (W0 K L) H σ ρ → Sl (W0 K (Lp L D)) H' (wipe σ vs) (wipeD ρ vs) := fun ρ S => ((((S.mono (w0 K L) k1).own hD (.lst [])).step hM k2).wipe vs)
    obtain ⟨t1, t2⟩ := hs D H1 H' hD k1 (k1.trans k12) un2 kS i d x hd rd2
    refine ⟨hw x, ?_⟩
    refine t1 H' (Kp.refl _ _) _ fun c H3 w3 ec => ?_
    subst ec
    have hlen := ra.length
    have hlf := lcF_len i b e
    cases hb : b i with
    | false =>
      rw [if_neg Bool.false_ne_true]
      refine ⟨k2.trans (w3.mono fun _ z => z.elim), acc, w3.lst (fun z => z.elim) hx, ?_⟩
      rw [lcF_succ, hb, if_neg Bool.false_ne_true, List.append_nil]
      exact DTs.mono o2 w3 ra
    | true =>
      rw [if_pos rfl]
      refine t2 hb H3 w3 H3 (Kp.refl _ _) _ fun y H4 w4 ry => ?_
      have hx4 : H4 D = some (.lst acc) := (w3.trans w4).lst (fun z => z.elim) hx
      have k5 : Kp (· = D) H4 (upd H4 D (.lst (acc ++ [y]))) := (Kp.refl _ _).app hx4
      refine ⟨acc, hx4, lt_size (by omega), (k2.trans ((w3.trans w4).mono fun _ z => z.elim)).trans k5, _, upd_same, ?_⟩
      rw [lcF_succ, hb, if_pos rfl]
      exact DTs.step hM k5 ((DTs.mono o2 (w3.trans w4) ra).snoc ry)
  · have hi' : i = ds.length := by omega
    subst hi'
    exact .inl ⟨hst H2 k12, q _ H2 k12 (.lst hDL hx (DTs.less (fun a z => .inl z) ra))⟩
/-- [.. for x in list if ..] -/
theorem e_lcL {ds : List PyData} {b : Nat → Bool} {e : Nat → PyData} (hL : ∀ a, L a → H a ≠ none) (h : Ed (W0 K L) te σ H (.list ds)) (hn : ds.length ≤ 16000000) (hw : ∀ v : V, wipe ((wipe σ vs).set j (some v)) vs = wipe σ vs) (hs : LcT K L H σ vs ds j tt tu b e) :
    Ed (W0 K L) (tLc (iList K te) (gName j) tt tu vs) σ H (.list (lcF ds.length b e)) := fun H0 w0' Q q =>
  h H0 w0' _ fun v H1 w1 p => by
    obtain ⟨a, xs, rfl, n, e1, r⟩ := p.lstI
    refine ⟨a, rfl, ⟨xs, SqL.of e1⟩, fun D hD => lc_turns hL hn hw hs (w0'.trans w1) hD r (fun v H2 k2 r2 => q v H2 (w1.trans k2) r2) (fun i H' hi k => ?_) fun H' k => ?_⟩
    · have e2 := SqL.of (K := K) (k.lst (fun z => z.elim) e1)
      have hl := r.length
      exact ⟨⟨xs, xs[i]'(by omega), e2, List.getElem?_eq_getElem _⟩, fun x H'' hy => ⟨hy.1, hy.2 xs e2⟩⟩
    · exact ⟨xs, SqL.of (k.lst (fun z => z.elim) e1), Nat.le_of_eq r.length⟩
/-- .. for x in tuple .. -/
theorem e_lcT {ds : List PyData} {b : Nat → Bool} {e : Nat → PyData} (hL : ∀ a, L a → H a ≠ none) (h : Ed (W0 K L) te σ H (.tuple ds)) (hn : ds.length ≤ 16000000) (hw : ∀ v : V, wipe ((wipe σ vs).set j (some v)) vs = wipe σ vs) (hs : LcT K L H σ vs ds j tt tu b e) :
    Ed (W0 K L) (tLc (iTup K te) (gName j) tt tu vs) σ H (.list (lcF ds.length b e)) := fun H0 w0' Q q =>
  h H0 w0' _ fun v H1 w1 p => by
    obtain ⟨a, xs, rfl, e1, r⟩ := p.tupI
    refine ⟨a, rfl, ⟨xs, e1⟩, fun D hD => lc_turns hL hn hw hs (w0'.trans w1) hD r (fun v H2 k2 r2 => q v H2 (w1.trans k2) r2) (fun i H' hi k => ?_) fun H' k => ?_⟩
    · have e2 := kp_sqT k e1
      have hl := r.length
      exact ⟨⟨xs, xs[i]'(by omega), e2, List.getElem?_eq_getElem _⟩, fun x H'' hy => ⟨hy.1, hy.2 xs e2⟩⟩
    · exact ⟨xs, kp_sqT k e1, Nat.le_of_eq r.length⟩
/-- a + b of lists -/
theorem e_catL {ds es : List PyData} (hL : ∀ a, L a → H a ≠ none) (ha : Ed (W0 K L) ta σ H (.list ds)) (hb : Ed (W0 K L) tb σ H (.list es)) (hl : ds.length + es.length ≤ 16000000) : Ed (W0 K L) (tOp rCat ta tb) σ H (.list (ds ++ es)) := fun H0 w0' Q q =>
  ha H0 w0' _ fun x H1 w1 p => hb H1 (w0'.trans w1) _ fun y H2 w2 p' => by
    obtain ⟨a, xs, rfl, n1, e1, r1⟩ := p.lstI
    obtain ⟨b, ys, rfl, n2, e2, r2⟩ := p'.lstI
    refine ⟨a, b, xs, ys, rfl, rfl, w2.lst (fun z => z.elim) e1, e2, by rw [r1.length, r2.length]; exact Nat.le_of_lt (lt_size hl), fun c hc => ?_⟩
    have k3 : Kp No H2 (upd H2 c (.lst (xs ++ ys))) := Kp.new hc
    refine q _ _ ((w1.trans w2).trans k3) (.lst (fun l => hL c l (((w0'.trans w1).trans w2).free hc)) upd_same ?_)
    exact ((DTs.mono (w0 K L) (w2.trans k3) r1).append (DTs.mono (w0 K L) k3 r2))
/-- tuple(list) -/
theorem e_tupL {C : Wd} (o : C.Ok) {ds : List PyData} (ha : Ed C ta σ H (.list ds)) : Ed C (tCB (fun xs H Q => ∃ p ys, xs = [.ref p] ∧ ((SqL C.K H p ys ∧ ∀ l, H l = none → Q (.ref l) (upd H l (.tup ys))) ∨ (SqT C.K H p ys ∧ Q (.ref p) H))) (tCons ta tNil)) σ H (.tuple ds) :=
  e_cb o (a_cons o ha (a_nil o)) fun vs H1 _ p Q q => by
    obtain ⟨v, rfl, p1⟩ := p.one
    obtain ⟨a, xs, rfl, _, hs, r⟩ := p1.lstI
    exact ⟨a, xs, rfl, .inl ⟨SqL.of hs, fun l hl => q _ _ (o.new hl) (.tup upd_same (DTs.mono o (o.new hl) r))⟩⟩
end
theorem wipe_one (σ : L2.St) (a : Nat) (v : Option V) : wipe ((wipe σ [a]).set a v) [a] = wipe σ [a] := by
  show ((σ.set a none).set a v).set a none = σ.set a none
  rw [List.set_set, List.set_set]
/-! ### the call of a function that a written dict holds -/
def tCallF (P : Program) (w : World) (K : PySem.W.Frag) (mg : Str → Option Value) (base : Heap) (k : Nat) (tf : TE) (t : TA) : TE := fun σ H Q => tf σ H fun v H1 => ∃ (f : Addr) (sp : Sp), v = .ref f ∧ C8.CalAt P w K mg base k f sp ∧ t σ H1 fun vs H2 => sp vs H2 Q E0
theorem pe_callF {X : Cx} {a b e : Expr} {es : List Expr} {p pos : Pos} {tf : TE} {t : TA} {k j : Nat} (hr : Room j X.A) (hk : k ≤ j) (hf : PE X (.Subscript a b p) tf) (ha : PA X (e :: es) t)
    (hc : eval (.Call (.Subscript a b p) (e :: es) [] pos) X.env = (do callWith pos (← eval (.Subscript a b p) X.env) [] (backTo pos (starEach (e :: es) X.env)) (backToKw pos (keywordEach [] X.env))) := by rfl)
    (he : starEach (e :: es) X.env = (false, eval e X.env) :: starEach es X.env := by rfl) (hpl : (backTo pos (starEach es X.env)).any (·.1) = false := by rfl) :
    PE X (.Call (.Subscript a b p) (e :: es) [] pos) (tCallF X.prog X.w X.K X.mg X.base k tf t) := by
  refine ⟨fun pins s σ H Q I h => ?_⟩
  rw [hc]
  refine wpAny_bind (thn (hf.run pins s σ H _ I h) fun u s1 ⟨v, H1, I1, r1, f, sp, ev, c, q1⟩ => ?_)
  subst ev
  cases r1
  obtain ⟨fd, ps, F, kp, b⟩ := c.ex
  refine PySem.W.callWith_K (h₀ := X.base) I.ok.mod.kin kp (thn (ha.run pos pins s1 σ _ _ I1 q1) fun us s2 ⟨vs, H2, I2, r, q⟩ => ⟨I2.kIn, ?_⟩) he hpl
  exact run_fn F (hr.mono hk) b .nil pass0 I2 r (by rw [List.append_nil]; exact q)
theorem cal_at {P : Program} {w : World} {K : PySem.W.Frag} {mg : Str → Option Value} {base : Heap} {k : Nat} {x : Str} {sp : Sp} {f : Addr} (c : C8.Cal P w K mg base k x sp []) (h : mg x = some (.ref f)) : C8.CalAt P w K mg base k f sp := by
  obtain ⟨f', fd, ps, ds, F, hm, kp, b, d⟩ := c.ex
  rw [h] at hm
  cases hm
  cases d
  exact ⟨fd, ps, F, kp, b⟩
abbrev MetA (K : PySem.W.Frag) (C : Addr) (m qual : Str) (st : Stmt) : Prop := ∃ f fd, Meth K C m f ∧ C8.Fun K m qual st f fd ∧ fd.defaults = .none
theorem met_by {P : Program} {w : World} {K : PySem.W.Frag} {mg : Str → Option Value} {base : Heap} {C : Addr} {m qual : Str} {st : Stmt} {N ps : List Str} {k : Nat} {sp : Sp} (F : MetA K C m qual st) (cl : Cls K C) (S : FnScope N ps (defScope st)) (ea : C8.fnArgs st = defArgs st) (eb : C8.fnBody st = defBody st) (es : C8.fnScope st = defScope st)
    (hb : ∀ (kV doc pm : Value) (an : Option Addr) (cdv ct : Value) (us : List Value), us.length = ps.length → bindArgs (PySem.W.fnOf m qual (C8.fnArgs st) (C8.fnBody st) (C8.fnScope st) .none kV doc pm an cdv ct) ⟨us, []⟩ = pure (ps.zip us))
    (len : ∀ vs H Q E, sp vs H Q E → vs.length = ps.length)
    (hbody : ∀ (f : Addr) (cdv : Value) (A : Around) (outer : List Env) (s : Shared) (H : Hp) (vs : List V) (Q : VK) (E : XK), Room k (A.deeper (envOfC qual (defScope st) s.heap.objs.size f cdv)) → sp vs H Q E →
      ∃ t, PSs (cxOf CX0 P w K mg base N qual (defScope st) f cdv A outer s H E).nox (defBody st) t ∧ t { nx := fun _ H' => Q .non H', rt := Q } (start N vs) H) : C8.Met P w K mg base (k + 1) C m sp [] := by
  obtain ⟨f, fd, me, F, df⟩ := F
  refine C8.met0 cl me F (F.binds df hb) (by rw [es]; exact S) len (fun cdv A outer s H vs Q E hr h => ?_)
  rw [es, eb] at *
  exact hbody f cdv A outer s H vs Q E hr h
/-! ### instances -/
section
variable {C : Wd} (o : C.Ok) {H : Hp} {σ : L2.St} {te ta : TE} {a dx Cl : Addr} {fs : List (Str × V)} {f : Str} {v : V} {d : PyData}
include o
theorem e_fld (ha : Ee C ta σ H (.ref a)) (hx : ∀ H', C.W H H' → H' a = some (.ins Cl dx fs)) (cl : Cls C.K Cl) (na : NoAttr C.K Cl f) (l : fs.lookup f = some v) : Ee C (tFld C.K ta f) σ H v := fun H1 w Q q =>
  ha H1 w _ fun x H2 w2 e => by
    subst e
    exact ⟨a, Cl, dx, fs, v, rfl, hx H2 (o.trans w w2), cl, na, l, q v H2 w2 rfl⟩
theorem e_of (h : Ee C te σ H v) (r : Dw C H v d) : Ed C te σ H d := fun H1 w Q q => h H1 w _ fun x H2 w2 e => by
  subst e
  exact q _ H2 w2 (DT.mono o (o.trans w w2) r)
end
theorem Kp.ins {L : Addr → Prop} {H H' : Hp} {a C dx : Addr} {fs : List (Str × V)} (k : Kp L H H') (n : ¬ L a) (h : H a = some (.ins C dx fs)) : H' a = some (.ins C dx fs) := k.keep a _ h n (fun _ z => by cases z)
theorem DTs.set {K : PySem.W.Frag} {L : Addr → Prop} {H : Hp} {v : V} {d : PyData} (r : DT K L H v d) : ∀ {xs : List V} {ds : List PyData} (j : Nat), DTs K L H xs ds → DTs K L H (xs.set j v) (ds.set j d)
  | _, _, _, .nil => .nil
  | _, _, 0, .cons _ b => .cons r b
  | _, _, j + 1, .cons a b => .cons a (DTs.set r j b)
/-- xs[j] = v -/
theorem g_setL {K : PySem.W.Frag} {L : Addr → Prop} {H : Hp} {σ : L2.St} {to ti : TE} {p : Addr} {xs : List V} {j : Nat} {v : V} {Q : L2.St → Hp → Prop} (ho : Ee (W0 K L) to σ H (.ref p)) (hi : ∀ H', Kp No H H' → Ed (W0 K L) ti σ H' (.int (j : Int))) (hx : ∀ H', Kp No H H' → H' p = some (.lst xs)) (hj : j < xs.length)
    (q : ∀ H', Kp No H H' → H' p = some (.lst xs) → Q σ (upd H' p (.lst (xs.set j v)))) : gSub to ti rSetL v σ H Q :=
  ho H (Kp.refl _ _) _ fun x H1 k1 e => hi H1 k1 H1 (Kp.refl _ _) _ fun y H2 k2 r => by
    subst e
    rw [r.intI]
    have h2 := hx H2 (k1.trans k2)
    refine ⟨p, xs, _, j, rfl, rfl, h2, ?_, q H2 (k1.trans k2) h2⟩
    unfold ixN
    rw [if_pos (by omega), if_pos (by omega)]
    simp
theorem pe_mk0 {X : Cx} {k j : Nat} {C : Addr} {x : Str} {sp : Sp} {dvs : List V} {p pos : Pos} (c : C8.Mak X.prog X.w X.K X.mg X.base k x C sp dvs) (hr : Room j X.A) (hk : k + 1 ≤ j) (hg : Gl X x) (hdb : (x == ("__debug__" : Str)) = false := by decide) : PE X (.Call (.Name x p) [] [] pos) (tMake C sp dvs E0 tNil) := by
  obtain ⟨f, fd, ps, ds, M, F, hm, b, d⟩ := c.ex
  exact pe_make0 M F (hr.mono hk) hg hm b d pass0 hdb
/-! ### more on one's own lists -/
section
variable {K : PySem.W.Frag} {L M : Addr → Prop} {H H' : Hp} {σ : L2.St} {ρ : List Ds} {i j k l m : Nat} {p : Addr} {v : V} {d : PyData} {ds : List PyData} {tx : TA} {xs : List V}
theorem Sl.lessL {N : Addr → Prop} (h : ∀ a, N a → L a) (S : Sl (W0 K L) H σ ρ) : Sl (W0 K N) H σ ρ := S.to fun _ _ r => DT.less h r
/-- a slot that holds a value, described -/
theorem Sl.reda {C : Wd} : ∀ {σ : L2.St} {ρ : List Ds} {i : Nat} {v : V} {d : PyData}, Sl C H σ ρ → ρ[i]? = some (.va v) → Dw C H v d → Sl C H σ (ρ.set i (.da d))
  | _, _, _, _, _, .nil, e, _ => by simp at e
  | _, _, 0, v, d, .cons a b, e, r => by
    have e' : _ = Ds.va v := Option.some.inj e
    subst e'
    exact .cons ⟨v, a, r⟩ b
  | _, _, i + 1, v, d, .cons a b, e, r => .cons a (Sl.reda (i := i) b (by simpa using e) r)
/-- x = [..], to be appended to -/
theorem s_newL {nx bk ct : L2.St → Hp → Prop} {rt : VK} (S : Sl (W0 K L) H σ ρ) (h : Ea (W0 K L) tx σ H ds) (hl : ds.length ≤ 1000) (q : ∀ p vs H1, Kp No H H1 → H1 p = none → Sl (W0 K (Lp L p)) (upd H1 p (.lst vs)) (σ.set i (some (.ref p))) (ρ.set i (.va (.ref p))) → DTs K (Lp L p) (upd H1 p (.lst vs)) vs ds → nx (σ.set i (some (.ref p))) (upd H1 p (.lst vs))) :
    tAsg (tLst tx) (gName i) ⟨nx, rt, bk, ct⟩ σ H :=
  h H (Kp.refl _ _) _ fun vs H1 k1 r => ⟨by rw [r.length]; exact Nat.le_trans hl (by decide), fun p hp => q p vs H1 k1 hp ((S.mono (w0 K L) k1).own hp _).putV (DTs.step (K := K) (L := Lp L p) (M := (· = p)) (fun a e => Or.inr e) (Kp.new hp) (DTs.more (L := L) (fun a (e : Lp L p a) => e.elim Or.inl fun e => Or.inr (e ▸ hp)) r))⟩
/-- targets of three, of five names -/
theorem g_three {d1 d2 d3 : PyData} {Q : L2.St → Hp → Prop} (h : DT K L H v (.tuple [d1, d2, d3])) (q : ∀ x y z, DT K L H x d1 → DT K L H y d2 → DT K L H z d3 → Q (((σ.set i (some x)).set j (some y)).set k (some z)) H) : gTup K 3 (gCons (gName i) (gCons (gName j) (gCons (gName k) gNil))) v σ H Q := by
  obtain ⟨a, xs, rfl, hs, r⟩ := h.tupI
  cases r with | cons r1 r => cases r with | cons r2 r => cases r with | cons r3 r =>
    cases r
    exact ⟨a, _, rfl, hs, rfl, _, _, rfl, _, _, rfl, _, _, rfl, rfl, q _ _ _ r1 r2 r3⟩
theorem g_five {d1 d2 d3 d4 d5 : PyData} {Q : L2.St → Hp → Prop} (h : DT K L H v (.tuple [d1, d2, d3, d4, d5])) (q : ∀ x y z u w, DT K L H x d1 → DT K L H y d2 → DT K L H z d3 → DT K L H u d4 → DT K L H w d5 → Q (((((σ.set i (some x)).set j (some y)).set k (some z)).set l (some u)).set m (some w)) H) : gTup K 5 (gCons (gName i) (gCons (gName j) (gCons (gName k) (gCons (gName l) (gCons (gName m) gNil))))) v σ H Q := by
  obtain ⟨a, xs, rfl, hs, r⟩ := h.tupI
  cases r with | cons r1 r => cases r with | cons r2 r => cases r with | cons r3 r => cases r with | cons r4 r => cases r with | cons r5 r =>
    cases r
    exact ⟨a, _, rfl, hs, rfl, _, _, rfl, _, _, rfl, _, _, rfl, _, _, rfl, _, _, rfl, rfl, q _ _ _ _ _ r1 r2 r3 r4 r5⟩
theorem Ed.own {te : TE} {C : Wd} (h : Ed C te σ H d) : Ed C te σ H d := h
/-- x not in a list of one's own -/
theorem e_notInO {ta tb : TE} {e : PyData} (sd : SeqAt.shaped e = true) (sl : SeqAt.shaped (.list ds) = true) (ha : Ed (W0 K L) ta σ H e) (hb : Ee (W0 K L) tb σ H (.ref p)) (hx : H p = some (.lst xs)) (r : DTs K L H xs ds) : Ed (W0 K L) (tOp (rNotInD K) ta tb) σ H (.bool (!ds.any fun z => PyData.eqv z e)) := fun H1 w Q q =>
  ha H1 w _ fun u H2 w2 r1 => hb H2 (w.trans w2) _ fun y H3 w3 ey => by
    subst ey
    have k3 : Kp No H H3 := (w.trans w2).trans w3
    exact ⟨e, ds, (DT.mono (w0 K L) w3 r1).dp, .lst (SqL.of (k3.lst (fun z => z.elim) hx)) (DTs.mono (w0 K L) k3 r).dp, sd, sl, q _ H3 (w2.trans w3) (.bl _)⟩
/-- l.index(x) -/
theorem e_index {ta tb : TE} {e z : PyData} {n : Nat} {C : Wd} (o : C.Ok) (sd : SeqAt.shaped e = true) (sl : SeqAt.shaped (.list ds) = true) (ha : Ed C ta σ H (.list ds)) (hb : Ed C tb σ H e) (hz : ds[n]? = some z) (hzn : PyData.eqv z e = true) (hno : ∀ (m : Nat) (z' : PyData), m < n → ds[m]? = some z' → PyData.eqv z' e = false) :
    Ed C (tBM C.K "list" (rIndexD C.K) ta (tCons tb tNil)) σ H (.int (n : Nat)) := fun H1 w Q q =>
  ha H1 w _ fun u H2 w2 r1 => by
    obtain ⟨a, xs, rfl, na, ex, rx⟩ := DT.lstI r1
    refine ⟨.inl ⟨rfl, xs, SqL.of ex⟩, hb H2 (o.trans w w2) _ fun y H3 w3 r2 => ⟨a, y, e, ds, n, z, rfl, rfl, (DT.mono o w3 r1).dp, r2.dp, sl, sd, hz, hzn, hno, q _ H3 (o.trans w2 w3) (.int _)⟩⟩
end
/-! ### from the end -/
section
variable {C : Wd} (o : C.Ok) {H : Hp} {σ : L2.St} {te : TE} {g : TG} {tb : TS} {nx bk ct : L2.St → Hp → Prop} {rt : VK} {D : Ends}
include o
theorem s_forRevEv {P : V → Hp → Prop} (h : EvP C te σ H P) (q : ∀ v H1, C.W H H1 → P v H1 → tFor (iRev C.K (tCons (tC v) tNil)) g tb D σ H1) : tFor (iRev C.K (tCons te tNil)) g tb D σ H :=
  h H (o.refl _) _ fun v H1 w p => q v H1 w p
theorem s_forRev {ds : List PyData} (h : Ed C te σ H (.list ds)) (Pv : Nat → L2.St → Hp → Prop) {M : Addr → Prop} (hM : ∀ a, M a → C.L a) (h0 : ∀ H1, C.W H H1 → Pv 0 σ H1)
    (hs : ∀ H1, C.W H H1 → ∀ i d v σ' H', i < ds.length → ds[ds.length - 1 - i]? = some d → Dw C H' v d → Kp M H1 H' → Pv i σ' H' → g v σ' H' fun σ2 H2 => tb ⟨fun σ3 H3 => Kp M H1 H3 ∧ Pv (i + 1) σ3 H3, rt, nx, fun σ3 H3 => Kp M H1 H3 ∧ Pv (i + 1) σ3 H3⟩ σ2 H2)
    (hd : ∀ H1, C.W H H1 → ∀ σ' H', Kp M H1 H' → Pv ds.length σ' H' → nx σ' H') : tFor (iRev C.K (tCons te tNil)) g tb ⟨nx, rt, bk, ct⟩ σ H :=
  h H (o.refl _) _ fun v H1 w p => by
    obtain ⟨a, xs, rfl, n, e, r⟩ := p.lstI
    have hl := r.length
    refine ⟨a, xs, rfl, SqL.of e, fun i m σ' H' => m = ds.length - i ∧ i ≤ ds.length ∧ Kp M H1 H' ∧ Pv i σ' H', ⟨_, rfl, Nat.zero_le _, .refl M H1, h0 H1 w⟩, ?_⟩
    rintro i m σ' H4 ⟨rfl, hi, w4, pv⟩
    have e4 : SqL C.K H4 a xs := SqL.of (w4.lst (fun z => n (hM _ z)) e)
    by_cases hlt : i < ds.length
    · refine .inr ⟨⟨by omega, xs, xs[xs.length - 1 - i]'(by omega), e4, List.getElem?_eq_getElem _⟩, fun σ3 H3 => Kp M H1 H3 ∧ Pv (i + 1) σ3 H3, fun σ3 H3 ⟨k1, k2⟩ => ⟨ds.length - (i + 1), by omega, rfl, hlt, k1, k2⟩, fun x H5 hy => ?_⟩
      obtain ⟨rfl, hx⟩ := hy
      have hx' := hx xs e4
      obtain ⟨d', hd', rd⟩ := r.get' hx'
      rw [hl] at hd'
      exact hs H1 w i d' x σ' H5 hlt hd' (DT.mono (C := Wv C.K C.L M) (wv C.K hM) w4 rd) w4 pv
    · have hi' : i = ds.length := by omega
      subst hi'
      exact .inl ⟨Nat.le_of_eq hl, hd H1 w σ' H4 w4 pv⟩
theorem s_forRevP {ds : List PyData} {j j' : Nat} (h : Ed C te σ H (.list ds)) (Pv : Nat → L2.St → Hp → Prop) {M : Addr → Prop} (hM : ∀ a, M a → C.L a) (h0 : ∀ H1, C.W H H1 → Pv 0 σ H1) (hp : ∀ d ∈ ds, ∃ e f, d = .tuple [e, f])
    (hs : ∀ H1, C.W H H1 → ∀ i d e v u σ' H', i < ds.length → ds[ds.length - 1 - i]? = some (.tuple [d, e]) → Dw C H' v d → Dw C H' u e → Kp M H1 H' → Pv i σ' H' → tb ⟨fun σ3 H3 => Kp M H1 H3 ∧ Pv (i + 1) σ3 H3, rt, nx, fun σ3 H3 => Kp M H1 H3 ∧ Pv (i + 1) σ3 H3⟩ ((σ'.set j (some v)).set j' (some u)) H')
    (hd : ∀ H1, C.W H H1 → ∀ σ' H', Kp M H1 H' → Pv ds.length σ' H' → nx σ' H') : tFor (iRev C.K (tCons te tNil)) (gTup C.K 2 (gCons (gName j) (gCons (gName j') gNil))) tb ⟨nx, rt, bk, ct⟩ σ H :=
  s_forRev o h Pv hM h0 (fun H1 w i d v σ' H' hi e r k pv => by
    obtain ⟨d1, d2, rfl⟩ := hp d (List.mem_of_getElem? e)
    exact g_pair r fun x y r1 r2 => hs H1 w i d1 d2 x y σ' H' hi e r1 r2 k pv) hd
end
/-- {}, of one's own -/
theorem s_newD {K : PySem.W.Frag} {L : Addr → Prop} {H : Hp} {σ : L2.St} {ρ : List Ds} {i : Nat} {nx bk ct : L2.St → Hp → Prop} {rt : VK} (S : Sl (W0 K L) H σ ρ) (q : ∀ p, H p = none → Sl (W0 K (Lp L p)) (upd H p (.dT [])) (σ.set i (some (.ref p))) (ρ.set i (.va (.ref p))) → nx (σ.set i (some (.ref p))) (upd H p (.dT []))) :
    tAsg tDNewT (gName i) ⟨nx, rt, bk, ct⟩ σ H := fun p hp => q p hp (S.own hp _).putV
theorem putK_len {kvs : List (List L2.Key × V)} {k : List L2.Key} {v : V} : (putK kvs k v).length ≤ kvs.length + 1 := by
  unfold putK
  split
  · rw [List.length_map]; omega
  · rw [List.length_append]; simp
/-- if ..: x = e (the ways joined) -/
theorem s_ifSet {C : Wd} (o : C.Ok) {H : Hp} {σ : L2.St} {tt : TT} {te : TE} {i : Nat} {b : Bool} {P : V → Hp → Prop} {nx bk ct : L2.St → Hp → Prop} {rt : VK} (h : Et C tt σ H b) (he : b = true → ∀ H', C.W H H' → EvP C te σ H' P)
    (q : ∀ σ' H', C.W H H' → ((b = true ∧ ∃ v, P v H' ∧ σ' = σ.set i (some v)) ∨ (b = false ∧ σ' = σ)) → nx σ' H') : tIfS tt (tAsg te (gName i)) tNext ⟨nx, rt, bk, ct⟩ σ H :=
  s_if o h (fun c H1 w1 => s_set o (he c H1 w1) fun v H2 w2 p => q _ H2 (o.trans w1 w2) (.inl ⟨c, v, p, rfl⟩)) fun c H1 w1 => q σ H1 w1 (.inr ⟨c, rfl⟩)
/-- the same over another way in: the continuation's goal first -/
theorem s_seq {t : TS} {nx nx' bk ct : L2.St → Hp → Prop} {rt : VK} {σ : L2.St} {H : Hp} (h : t ⟨nx', rt, bk, ct⟩ σ H) (hm : t ⟨nx', rt, bk, ct⟩ σ H → t ⟨nx, rt, bk, ct⟩ σ H) : t ⟨nx, rt, bk, ct⟩ σ H := hm h
end SR

/-! Mch: the machines as plain Lean. -/
namespace SR
open PySem PySem.Spec PyProof.Rows L2
structure Plc where
  p : Int
  l : Int
  m : Int
  c : Int
def Plc.d (x : Plc) : PyData := .tuple [.str "place", .int x.p, .int x.l, .int x.m, .int x.c]
structure Pl where
  places : List Plc
  fol : List (List Int)
def ilist (l : List Int) : PyData := .list (l.map .int)
def joinI (a b : List Int) : List Int := a ++ b.filter fun x => !decide (x ∈ a)
def linkF (fol : List (List Int)) (lasts firsts : List Int) : List (List Int) := lasts.foldl (fun f x => f.set x.toNat (joinI (f.getD x.toNat []) firsts)) fol
def Pl.link (st : Pl) (lasts firsts : List Int) : Pl := ⟨st.places, linkF st.fol lasts firsts⟩
def Pl.add (st : Pl) (x : Plc) : Pl := ⟨st.places ++ [x], st.fol ++ [[]]⟩
structure Wk where
  e : Bool
  f : List Int
  l : List Int
def Wk.d (x : Wk) : PyData := .tuple [.bool x.e, ilist x.f, ilist x.l]
mutual
def walkC : Ch → Pl → Wk × Pl
  | .place p l m c, st => (⟨false, [(st.places.length + 1 : Nat)], [(st.places.length + 1 : Nat)]⟩, st.add ⟨p, l, m, c⟩)
  | .seq cs, st => walkS cs st ⟨true, [], []⟩
  | .alt cs, st => walkA cs st ⟨false, [], []⟩
  | .any c, st => let r := walkC c st; (⟨true, r.1.f, r.1.l⟩, r.2.link r.1.l r.1.f)
  | .some c, st => let r := walkC c st; (⟨r.1.e, r.1.f, r.1.l⟩, r.2.link r.1.l r.1.f)
  | .maybe c, st => let r := walkC c st; (⟨true, r.1.f, r.1.l⟩, r.2)
def walkS : List Ch → Pl → Wk → Wk × Pl
  | [], st, w => (w, st)
  | c :: cs, st, w => let r := walkC c st
    walkS cs (r.2.link w.l r.1.f) ⟨w.e && r.1.e, if w.e then joinI w.f r.1.f else w.f, if r.1.e then joinI w.l r.1.l else r.1.l⟩
def walkA : List Ch → Pl → Wk → Wk × Pl
  | [], st, w => (w, st)
  | c :: cs, st, w => let r := walkC c st
    walkA cs r.2 ⟨w.e || r.1.e, joinI w.f r.1.f, joinI w.l r.1.l⟩
end
mutual
def Ch.cnt : Ch → Nat
  | .place .. => 1
  | .seq cs => Ch.cnts cs
  | .alt cs => Ch.cnts cs
  | .any c => c.cnt
  | .some c => c.cnt
  | .maybe c => c.cnt
def Ch.cnts : List Ch → Nat
  | [] => 0
  | c :: cs => c.cnt + Ch.cnts cs
end
mutual
def Ch.dep : Ch → Nat
  | .place .. => 0
  | .seq cs => Ch.deps cs + 1
  | .alt cs => Ch.deps cs + 1
  | .any c => c.dep + 1
  | .some c => c.dep + 1
  | .maybe c => c.dep + 1
def Ch.deps : List Ch → Nat
  | [] => 0
  | c :: cs => max c.dep (Ch.deps cs)
end
/-- numbers of places -/
structure NumL (n : Nat) (l : List Int) : Prop where
  nd : l.Nodup
  rg : ∀ i ∈ l, 1 ≤ i ∧ i ≤ n
structure Wk.Ok (n : Nat) (w : Wk) : Prop where
  f : NumL n w.f
  l : NumL n w.l
structure Pl.Ok (st : Pl) : Prop where
  len : st.fol.length = st.places.length + 1
  num : ∀ l ∈ st.fol, NumL st.places.length l
theorem NumL.up {n m : Nat} {l : List Int} (h : NumL n l) (hm : n ≤ m) : NumL m l := ⟨h.nd, fun i hi => ⟨(h.rg i hi).1, by have := (h.rg i hi).2; omega⟩⟩
theorem NumL.nil (n : Nat) : NumL n [] := ⟨.nil, fun _ h => by cases h⟩
theorem NumL.join {n : Nat} {a b : List Int} (ha : NumL n a) (hb : NumL n b) : NumL n (joinI a b) := by
  refine ⟨?_, fun i hi => ?_⟩
  · unfold joinI
    rw [List.nodup_append]
    refine ⟨ha.nd, hb.nd.filter _, fun x hx y hy e => ?_⟩
    subst e
    have := (List.mem_filter.mp hy).2
    simp [hx] at this
  · unfold joinI at hi
    rcases List.mem_append.mp hi with h | h
    · exact ha.rg i h
    · exact hb.rg i (List.mem_filter.mp h).1
theorem NumL.len {n : Nat} {l : List Int} (h : NumL n l) : l.length ≤ n := by
  have := nodup_sub_len l ((List.range n).map fun k : Nat => ((k + 1 : Nat) : Int)) h.nd fun x hx => by
    obtain ⟨h1, h2⟩ := h.rg x hx
    exact List.mem_map.mpr ⟨(x - 1).toNat, List.mem_range.mpr (by omega), by omega⟩
  rw [List.length_map, List.length_range] at this
  exact this
theorem linkF_len (lasts firsts : List Int) : ∀ fol : List (List Int), (linkF fol lasts firsts).length = fol.length := by
  unfold linkF
  induction lasts with
  | nil => intro fol; rfl
  | cons x r ih =>
    intro fol
    rw [List.foldl_cons, ih, List.length_set]
theorem Pl.Ok.link {st : Pl} (h : st.Ok) {lasts firsts : List Int} (hf : NumL st.places.length firsts) : (st.link lasts firsts).Ok := by
  refine ⟨(linkF_len _ _ _).trans h.len, ?_⟩
  show ∀ l ∈ linkF st.fol lasts firsts, NumL st.places.length l
  have hn := h.num
  generalize st.fol = fol at hn
  unfold linkF
  induction lasts generalizing fol with
  | nil => exact hn
  | cons x r ih =>
    rw [List.foldl_cons]
    refine ih _ fun l hl => ?_
    rcases List.mem_or_eq_of_mem_set hl with h | rfl
    · exact hn l h
    · refine NumL.join ?_ hf
      rw [List.getD_eq_getElem?_getD]
      cases e : fol[x.toNat]? with
      | none => exact NumL.nil _
      | some l => exact hn l (List.mem_of_getElem? e)
theorem Pl.Ok.add {st : Pl} (h : st.Ok) (x : Plc) : (st.add x).Ok := by
  have e : (st.add x).places.length = st.places.length + 1 := by simp [Pl.add]
  refine ⟨by rw [e]; simp [Pl.add, h.len], fun l hl => ?_⟩
  rw [e]
  rcases List.mem_append.mp hl with hl | hl
  · exact (h.num l hl).up (Nat.le_succ _)
  · rw [List.mem_singleton.mp hl]; exact NumL.nil _
/-- what a walk keeps -/
structure WkOk (st : Pl) (n : Nat) (r : Wk × Pl) : Prop where
  so : r.2.Ok
  wk : r.1.Ok r.2.places.length
  len : r.2.places.length = st.places.length + n
theorem Wk.Ok.up {n m : Nat} {w : Wk} (h : w.Ok n) (hm : n ≤ m) : w.Ok m := ⟨h.f.up hm, h.l.up hm⟩
mutual
theorem walkC_ok : ∀ (c : Ch) (st : Pl), st.Ok → WkOk st c.cnt (walkC c st)
  | .place p l m c, st, h => by
    have e : (st.add ⟨p, l, m, c⟩).places.length = st.places.length + 1 := by simp [Pl.add]
    have hn : NumL (st.places.length + 1) [((st.places.length + 1 : Nat) : Int)] := ⟨by simp, fun i hi => by rw [List.mem_singleton.mp hi]; omega⟩
    unfold walkC
    exact ⟨h.add _, by rw [e]; exact ⟨hn, hn⟩, e⟩
  | .seq cs, st, h => by
    unfold walkC Ch.cnt
    exact walkS_ok cs st ⟨true, [], []⟩ h ⟨NumL.nil _, NumL.nil _⟩
  | .alt cs, st, h => by
    unfold walkC Ch.cnt
    exact walkA_ok cs st ⟨false, [], []⟩ h ⟨NumL.nil _, NumL.nil _⟩
  | .any c, st, h => by
    have r := walkC_ok c st h
    unfold walkC Ch.cnt
    exact ⟨r.so.link r.wk.f, ⟨r.wk.f, r.wk.l⟩, r.len⟩
  | .some c, st, h => by
    have r := walkC_ok c st h
    unfold walkC Ch.cnt
    exact ⟨r.so.link r.wk.f, ⟨r.wk.f, r.wk.l⟩, r.len⟩
  | .maybe c, st, h => by
    have r := walkC_ok c st h
    unfold walkC Ch.cnt
    exact ⟨r.so, ⟨r.wk.f, r.wk.l⟩, r.len⟩
theorem walkS_ok : ∀ (cs : List Ch) (st : Pl) (w : Wk), st.Ok → w.Ok st.places.length → WkOk st (Ch.cnts cs) (walkS cs st w)
  | [], st, w, h, hw => by
    unfold walkS Ch.cnts
    exact ⟨h, hw, rfl⟩
  | c :: cs, st, w, h, hw => by
    have r := walkC_ok c st h
    unfold walkS Ch.cnts
    have hw' := hw.up (show st.places.length ≤ (walkC c st).2.places.length by rw [r.len]; omega)
    have r2 := walkS_ok cs ((walkC c st).2.link w.l (walkC c st).1.f) ⟨w.e && (walkC c st).1.e, if w.e then joinI w.f (walkC c st).1.f else w.f, if (walkC c st).1.e then joinI w.l (walkC c st).1.l else (walkC c st).1.l⟩ (r.so.link r.wk.f)
      ⟨by show NumL _ (if w.e then _ else _); split; exact hw'.f.join r.wk.f; exact hw'.f, by show NumL _ (if (walkC c st).1.e then _ else _); split; exact hw'.l.join r.wk.l; exact r.wk.l⟩
    refine ⟨r2.so, r2.wk, r2.len.trans ?_⟩
    show (walkC c st).2.places.length + _ = _
    rw [r.len]
    omega
theorem walkA_ok : ∀ (cs : List Ch) (st : Pl) (w : Wk), st.Ok → w.Ok st.places.length → WkOk st (Ch.cnts cs) (walkA cs st w)
  | [], st, w, h, hw => by
    unfold walkA Ch.cnts
    exact ⟨h, hw, rfl⟩
  | c :: cs, st, w, h, hw => by
    have r := walkC_ok c st h
    unfold walkA Ch.cnts
    have hw' := hw.up (show st.places.length ≤ (walkC c st).2.places.length by rw [r.len]; omega)
    have r2 := walkA_ok cs (walkC c st).2 ⟨w.e || (walkC c st).1.e, joinI w.f (walkC c st).1.f, joinI w.l (walkC c st).1.l⟩ r.so ⟨hw'.f.join r.wk.f, hw'.l.join r.wk.l⟩
    refine ⟨r2.so, r2.wk, r2.len.trans ?_⟩
    rw [r.len]
    omega
end
end SR

namespace SR
open PySem PySem.Spec PyProof.Rows L2
theorem joinI_lc (a b : List Int) : (ilist (joinI a b)) = .list (a.map .int ++ lcF b.length (fun i => !decide ((b.getD i 0) ∈ a)) fun i => .int (b.getD i 0)) := by
  rw [lcF_list 0 (fun x => !decide (x ∈ a)) PyData.int]
  unfold ilist joinI
  rw [List.map_append]
/-- the class as the top has made it -/
structure TxtP (K : PySem.W.Frag) (C : Addr) : Prop where
  cl : Cls K C
  nP : NoAttr K C "places"
  nF : NoAttr K C "followers"
/-- an instance with its two lists -/
structure PlAt (K : PySem.W.Frag) (L : Addr → Prop) (H : Hp) (C a dx p1 p2 : Addr) (st : Pl) : Prop where
  ob : H a = some (.ins C dx [("places", .ref p1), ("followers", .ref p2)])
  l1 : L p1
  l2 : L p2
  ne : p1 ≠ p2
  ps : ∃ xs, H p1 = some (.lst xs) ∧ DTs K L H xs (st.places.map Plc.d)
  fs : ∃ xs, H p2 = some (.lst xs) ∧ DTs K L H xs (st.fol.map ilist)
abbrev P2 (p1 p2 : Addr) : Addr → Prop := fun x => x = p1 ∨ x = p2
theorem PlAt.keep {K : PySem.W.Frag} {L : Addr → Prop} {H H' : Hp} {C a dx p1 p2 : Addr} {st : Pl} (h : PlAt K L H C a dx p1 p2 st) (k : Kp No H H') : PlAt K L H' C a dx p1 p2 st := by
  obtain ⟨xs, h1, r1⟩ := h.ps
  obtain ⟨ys, h2, r2⟩ := h.fs
  exact ⟨k.ins (fun z => z.elim) h.ob, h.l1, h.l2, h.ne, ⟨xs, k.lst (fun z => z.elim) h1, DTs.step (fun _ z => z.elim) k r1⟩, ⟨ys, k.lst (fun z => z.elim) h2, DTs.step (fun _ z => z.elim) k r2⟩⟩
section
variable {P : Program} {w : World} {K : PySem.W.Frag} {mg : Str → Option Value} {base : Heap}
abbrev N_joined : List Str := ["one", "other", "item"]
abbrev s_joined : Stmt := top 2
theorem sc_joined : FnScope ["one", "other", "item"] ["one", "other"] (defScope s_joined) := ⟨rfl, rfl, rfl, by decide +kernel, rfl, by decide +kernel, by decide +kernel⟩
def Rjoined (ds : List PyData) (d : PyData) : Prop := ∃ (a b : List Int), a.length ≤ 1000 ∧ b.length ≤ 1000 ∧ ds = [ilist a, ilist b] ∧ d = ilist (joinI a b)
theorem ok_joined (F : DefA K mg "joined" s_joined) : C8.Cal P w K mg base 1 "joined" (spD K Rjoined) [] := by
  refine cal_by F sc_joined rfl rfl rfl (fun _ _ _ _ _ _ us hl => match us, hl with | [_, _], _ => rfl) ?_ fun f cdv A outer s H vs Q E hr h => ?_
  · exact spD_len fun ds d ⟨_, _, _, _, e, _⟩ => by rw [e]; rfl
  obtain ⟨L, ds, d, hL, hd, ⟨a, b, ha, hb, rfl, rfl⟩, k⟩ := h
  have o := w0 K L
  have S := Sl.start (C := W0 K L) (N := N_joined) hd
  refine ⟨_, (pss_one (ps_ret (pe_op op_cat (pv 0) (pe_lc (own := [("item", 2)]) rfl sc_joined.nd (pi_list (pv 1)) (blkOk_by (N := N_joined) (sc := defScope s_joined) (by decide +kernel)) (fun _ _ _ _ _ => (pg_name (i := 2) sc_joined.nd rfl (Or.inl rfl))) (fun _ _ _ _ _ => (pts_one (pt_cmpR (r := rIn K true) op_notIn_seq (pv 2) (pv 0) (by rfl)))) (fun _ _ _ _ _ => (pv 2)))))), ?_⟩
  rw [joinI_lc] at k
  refine s_ret o (e_catL hL (e_var o S rfl) (e_lcL (ds := b.map .int) (b := fun i => !decide ((b.getD i 0) ∈ a)) (e := fun i => .int (b.getD i 0)) hL (e_var o S rfl) (by rw [List.length_map]; omega) (fun v => wipe_one _ _ _) fun D H0 H' hD k0 k1 un kS i d v hi rd => ?_) ?_) fun v H2 w2 r2 => k v H2 w2 (by rw [List.length_map] at r2; exact r2)
  · have o2 := w0 K (Lp L D)
    have S2 := (kS _ S).putD (i := 2) rd
    rw [List.getElem?_map] at hi
    cases hx : b[i]? with
    | none => rw [hx] at hi; cases hi
    | some x =>
      rw [hx] at hi
      cases hi
      dsimp only
      rw [getD_of hx]
      obtain ⟨va, hva, ra⟩ := S2.da (i := 0) rfl
      obtain ⟨aa, xs, rfl, na, hxa, rxa⟩ := DT.lstI ra
      have exs := DTs.intsI rxa
      subst exs
      exact ⟨t_test o2 (e_notInI o2 (x := x) (zs := a) (e_var o2 S2 rfl) (fun H1 w1 Q q => ⟨_, hva, q _ H1 (Kp.refl _ _) rfl⟩) fun H' w' => w'.lst (fun z => z.elim) hxa), fun _ H2 k2 => e_var o2 (S2.mono o2 k2) rfl⟩
  · rw [List.length_map]
    have := lcF_len (b.map PyData.int).length (fun i => !decide ((b.getD i 0) ∈ a)) fun i => .int (b.getD i 0)
    rw [List.length_map] at this ⊢
    omega

theorem PlAt.un {L : Addr → Prop} {H : Hp} {C a dx p1 p2 : Addr} {st : Pl} (h : PlAt K L H C a dx p1 p2 st) : ∀ x, P2 p1 p2 x → L x := fun x e => e.elim (fun e => e ▸ h.l1) fun e => e ▸ h.l2
theorem PlAt.nea {L : Addr → Prop} {H : Hp} {C a dx p1 p2 : Addr} {st : Pl} (h : PlAt K L H C a dx p1 p2 st) : ¬ P2 p1 p2 a := fun e => by
  obtain ⟨xs, h1, _⟩ := h.ps
  obtain ⟨ys, h2, _⟩ := h.fs
  rcases e with e | e
  · have := h.ob; rw [e, h1] at this; cases this
  · have := h.ob; rw [e, h2] at this; cases this
/-- one of the two lists written -/
theorem PlAt.write1 {L : Addr → Prop} {H : Hp} {C a dx p1 p2 : Addr} {st st' : Pl} (h : PlAt K L H C a dx p1 p2 st) {xs : List V} (hf : st'.fol = st.fol) (r : DTs K L (upd H p1 (.lst xs)) xs (st'.places.map Plc.d)) : PlAt K L (upd H p1 (.lst xs)) C a dx p1 p2 st' := by
  obtain ⟨x0, h1, _⟩ := h.ps
  have k : Kp (P2 p1 p2) H (upd H p1 (.lst xs)) := (Kp.refl _ _).put (.inr (.inl rfl)) (by rw [h1]; trivial)
  obtain ⟨ys, h2, r2⟩ := h.fs
  exact ⟨k.ins h.nea h.ob, h.l1, h.l2, h.ne, ⟨xs, upd_same, r⟩, ⟨ys, by rw [upd_ne h.ne.symm]; exact h2, by rw [hf]; exact DTs.step h.un k r2⟩⟩
theorem PlAt.write2 {L : Addr → Prop} {H : Hp} {C a dx p1 p2 : Addr} {st st' : Pl} (h : PlAt K L H C a dx p1 p2 st) {xs : List V} (hf : st'.places = st.places) (r : DTs K L (upd H p2 (.lst xs)) xs (st'.fol.map ilist)) : PlAt K L (upd H p2 (.lst xs)) C a dx p1 p2 st' := by
  obtain ⟨x0, h1, r1⟩ := h.ps
  obtain ⟨ys, h2, r2⟩ := h.fs
  have k : Kp (P2 p1 p2) H (upd H p2 (.lst xs)) := (Kp.refl _ _).put (.inr (.inr rfl)) (by rw [h2]; trivial)
  exact ⟨k.ins h.nea h.ob, h.l1, h.l2, h.ne, ⟨x0, by rw [upd_ne h.ne]; exact h1, by rw [hf]; exact DTs.step h.un k r1⟩, ⟨xs, upd_same, r⟩⟩
abbrev N_Places_init : List Str := ["self"]
abbrev s_Places_init : Stmt := inClass (top 3) 0
theorem sc_Places_init : FnScope ["self"] ["self"] (defScope s_Places_init) := ⟨rfl, rfl, rfl, by decide +kernel, rfl, by decide +kernel, by decide +kernel⟩
theorem putF1 (v : V) : putF "places" v [] = [(("places" : Str), v)] := rfl
theorem putF2 (v u : V) : putF "followers" u [(("places" : Str), v)] = [(("places" : Str), v), (("followers" : Str), u)] := by
  unfold putF
  first
    | rfl
    | (simp; try decide)
def spInitP (C : Addr) : Sp := fun vs H Q _ => ∃ a dx, vs = [.ref a] ∧ H a = some (.ins C dx []) ∧ ∀ (p1 p2 q : Addr) (H' : Hp), H p1 = none → H p2 = none → H q = none → p1 ≠ p2 → p1 ≠ q → p2 ≠ q → H' a = some (.ins C dx [("places", .ref p1), ("followers", .ref p2)]) → H' p1 = some (.lst []) → H' p2 = some (.lst [.ref q]) → H' q = some (.lst []) → Kp (· = a) H H' → Q .non H'
theorem ok_Places_init {C : Addr} (F : ∃ f fd, Mk K C f ∧ mg "Places" = some (.ref C) ∧ C8.Fun K "__init__" "Places.__init__" s_Places_init f fd ∧ fd.defaults = .none) (T : TxtP K C) : C8.Mak P w K mg base 1 "Places" C (spInitP C) [] := by
  obtain ⟨f, fd, M, hm, F, df⟩ := F
  have b : Binds K fd ["self"] [] := F.binds df fun _ _ _ _ _ _ us hl => match us, hl with | [_], _ => rfl
  refine C8.mak0 M hm F b .nil (N := N_Places_init) (ps := ["self"]) (by exact sc_Places_init) (fun vs H Q E ⟨a, dx, e, _⟩ => by rw [e]; rfl) (fun cdv A outer s H vs Q E hr h => ?_)
  obtain ⟨a, dx, rfl, ha, k⟩ := h
  refine ⟨_, (pss_c (ps_fld (pv 0) (pe_lst pa_nil) rfl)
  (pss_one (ps_fld (pv 0) (pe_lst (pa_cons (pe_lst pa_nil) pa_nil)) rfl))), ?_⟩
  refine ⟨Nat.zero_le _, fun p1 h1 => ?_⟩
  have n1 : a ≠ p1 := fun e => by rw [e, h1] at ha; cases ha
  refine ⟨_, rfl, a, C, dx, [], rfl, by rw [upd_ne n1]; exact ha, T.cl, T.nP, by decide, ?_⟩
  rw [putF1]
  -- self.followers = [[]]
  refine ⟨Nat.zero_le _, fun q hq => ?_⟩
  have nq1 : q ≠ p1 := fun e => by
    rw [e, upd_ne (fun z => n1 z.symm), upd_same] at hq; cases hq
  have nqa : q ≠ a := fun e => by rw [e, upd_same] at hq; cases hq
  have hq0 : H q = none := by rw [upd_ne nqa, upd_ne nq1] at hq; exact hq
  refine ⟨(by show 1 ≤ sizeLine; decide), fun p2 h2 => ?_⟩
  have n2q : p2 ≠ q := fun e => by rw [e, upd_same] at h2; cases h2
  rw [upd_ne n2q] at h2
  have n2a : p2 ≠ a := fun e => by rw [e, upd_same] at h2; cases h2
  rw [upd_ne n2a] at h2
  have n21 : p2 ≠ p1 := fun e => by rw [e, upd_same] at h2; cases h2
  rw [upd_ne n21] at h2
  refine ⟨_, rfl, a, C, dx, _, rfl, by rw [upd_ne (fun e => n2a e.symm), upd_ne (fun e => nqa e.symm), upd_same], T.cl, T.nF, (by show 1 < 1000; decide), ?_⟩
  rw [putF2]
  refine k p1 p2 q _ h1 h2 hq0 (fun e => n21 e.symm) (fun e => nq1 e.symm) n2q upd_same ?_ ?_ ?_ ?_
  · rw [upd_ne (fun e => n1 e.symm), upd_ne (fun e => n21 e.symm), upd_ne (fun e => nq1 e.symm), upd_ne (fun e => n1 e.symm), upd_same]
  · rw [upd_ne n2a, upd_same]
  · rw [upd_ne nqa, upd_ne (fun e => n2q e.symm), upd_same]
  · refine Kp.put ?_ (.inr rfl) (by rw [upd_ne (fun e => n2a e.symm), upd_ne (fun e => nqa e.symm), upd_same]; trivial)
    refine Kp.trans ?_ (Kp.new (by rw [upd_ne n2q, upd_ne n2a, upd_ne n21]; exact h2))
    refine Kp.trans ?_ (Kp.new (by rw [upd_ne nqa, upd_ne nq1]; exact hq0))
    exact (Kp.new h1).put (.inr rfl) (by rw [upd_ne n1, ha]; trivial)
abbrev N_Places_add : List Str := ["self", "place"]
abbrev s_Places_add : Stmt := inClass (top 3) 1
theorem sc_Places_add : FnScope ["self", "place"] ["self", "place"] (defScope s_Places_add) := ⟨rfl, rfl, rfl, by decide +kernel, rfl, by decide +kernel, by decide +kernel⟩
def spAdd (K : PySem.W.Frag) (C : Addr) : Sp := fun vs H Q _ => ∃ (L : Addr → Prop) (a dx p1 p2 : Addr) (v : V) (x : Plc) (st : Pl), vs = [.ref a, v] ∧ (∀ a, L a → H a ≠ none) ∧ PlAt K L H C a dx p1 p2 st ∧ DT K L H v x.d ∧ st.places.length ≤ 1000 ∧ st.fol.length ≤ 1000 ∧
  ∀ H', Kp (P2 p1 p2) H H' → PlAt K L H' C a dx p1 p2 (st.add x) → Q (.int (st.places.length + 1 : Nat)) H'
theorem ok_Places_add {C : Addr} (F : MetA K C "add" "Places.add" s_Places_add) (T : TxtP K C) (B : Blt mg) : C8.Met P w K mg base 1 C "add" (spAdd K C) [] := by
  refine met_by F T.cl sc_Places_add rfl rfl rfl (fun _ _ _ _ _ _ us hl => match us, hl with | [_, _], _ => rfl) (fun vs H Q E ⟨_, _, _, _, _, _, _, _, e, _⟩ => by rw [e]; rfl) fun f cdv A outer s H vs Q E hr h => ?_
  obtain ⟨L, a, dx, p1, p2, v, x, st, rfl, hL, pl, rv, hz1, hz2, k⟩ := h
  have o := w0 K L
  have S : Sl (W0 K L) H (start N_Places_add [.ref a, v]) [.va (.ref a), .da x.d] := .cons (s := .va _) rfl (.cons ⟨_, rfl, rv⟩ .nil)
  refine ⟨_, (pss_c (ps_expr (pe_bm PySem.F.plainAttrs_list PySem.F.slot_list_append PySem.F.type_list_append mt_append (pe_fld (pv 0) rfl) (pa_cons (pv 1) pa_nil)))
  (pss_c (ps_expr (pe_bm PySem.F.plainAttrs_list PySem.F.slot_list_append PySem.F.type_list_append mt_append (pe_fld (pv 0) rfl) (pa_cons (pe_lst pa_nil) pa_nil)))
  (pss_one (ps_ret (pe_callB call_len (by rfl) B.len PySem.boot_len (pa_cons (pe_fld (pv 0) rfl) pa_nil)))))), ?_⟩
  obtain ⟨xs, h1, r1⟩ := pl.ps
  have fld1 : ∀ {H' σ ρ}, Kp (P2 p1 p2) H H' → Sl (W0 K L) H' σ (.va (.ref a) :: ρ) → Ee (W0 K L) (tFld K (tVar 0) "places") σ H' (.ref p1) := fun {H' σ ρ} k' S' => e_fld o (e_val o S' rfl) (fun H'' k'' => k''.ins (fun z => z.elim) (k'.ins pl.nea pl.ob)) T.cl T.nP rfl
  have fld2 : ∀ {H' σ ρ}, Kp (P2 p1 p2) H H' → Sl (W0 K L) H' σ (.va (.ref a) :: ρ) → Ee (W0 K L) (tFld K (tVar 0) "followers") σ H' (.ref p2) := fun {H' σ ρ} k' S' => e_fld o (e_val o S' rfl) (fun H'' k'' => k''.ins (fun z => z.elim) (k'.ins pl.nea pl.ob)) T.cl T.nF rfl
  have hl1 := r1.length
  rw [List.length_map] at hl1
  refine s_appE (fld1 (Kp.refl _ _) S) (fun H' w => w.lst (fun z => z.elim) h1) (lt_size (by omega)) (e_var o S rfl) fun u H1 w1 ru hx1 => ?_
  have k1 : Kp (P2 p1 p2) H1 (upd H1 p1 (.lst (xs ++ [u]))) := (Kp.refl _ _).put (.inr (.inl rfl)) (by rw [hx1]; trivial)
  have k01 : Kp (P2 p1 p2) H (upd H1 p1 (.lst (xs ++ [u]))) := (w1.mono fun _ z => z.elim).trans k1
  have pl1 := (pl.keep w1).write1 (st' := ⟨st.places ++ [x], st.fol⟩) (xs := xs ++ [u]) rfl (by
    rw [List.map_append]
    exact DTs.step pl.un k1 ((DTs.mono o w1 r1).snoc ru))
  have S1 := (S.mono o w1).step pl.un k1
  generalize upd H1 p1 (.lst (xs ++ [u])) = H2 at k01 pl1 S1 ⊢
  obtain ⟨ys, h2, r2⟩ := pl1.fs
  have hl2 := r2.length
  rw [List.length_map] at hl2
  refine s_appE (fld2 k01 S1) (fun H' w => w.lst (fun z => z.elim) h2) (lt_size (by show ys.length ≤ _; rw [hl2]; show st.fol.length ≤ _; omega)) (e_lst o (k01.un hL) (a_nil o)) fun u2 H3 w3 ru3 hx3 => ?_
  have k3 : Kp (P2 p1 p2) H3 (upd H3 p2 (.lst (ys ++ [u2]))) := (Kp.refl _ _).put (.inr (.inr rfl)) (by rw [hx3]; trivial)
  have k03 : Kp (P2 p1 p2) H (upd H3 p2 (.lst (ys ++ [u2]))) := (k01.trans (w3.mono fun _ z => z.elim)).trans k3
  have pl3 := (pl1.keep w3).write2 (st' := st.add x) (xs := ys ++ [u2]) rfl (by
    show DTs _ _ _ _ ((st.fol ++ [[]]).map ilist)
    rw [List.map_append]
    exact DTs.step pl.un k3 ((DTs.mono o w3 r2).snoc ru3))
  have S3 := (S1.mono o w3).step pl.un k3
  generalize upd H3 p2 (.lst (ys ++ [u2])) = H4 at k03 pl3 S3 ⊢
  obtain ⟨zs, h4, r4⟩ := pl3.ps
  refine fld1 k03 S3 H4 (Kp.refl _ _) _ fun v5 H5 w5 e => ?_
  subst e
  refine ⟨_, _, rfl, .inl ⟨zs, SqL.of (w5.lst (fun z => z.elim) h4), rfl⟩, ?_⟩
  have hz := r4.length
  rw [List.length_map] at hz
  have := k H5 (k03.trans (w5.mono fun _ z => z.elim)) (pl3.keep w5)
  have e : (st.add x).places.length = st.places.length + 1 := by simp [Pl.add]
  rw [e] at hz
  rw [hz]
  exact this
abbrev N_Places_link : List Str := ["self", "lasts", "firsts", "last"]
abbrev s_Places_link : Stmt := inClass (top 3) 2
theorem sc_Places_link : FnScope ["self", "lasts", "firsts", "last"] ["self", "lasts", "firsts"] (defScope s_Places_link) := ⟨rfl, rfl, rfl, by decide +kernel, rfl, by decide +kernel, by decide +kernel⟩
def spLink (K : PySem.W.Frag) (C : Addr) : Sp := fun vs H Q _ => ∃ (L : Addr → Prop) (a dx p1 p2 : Addr) (v1 v2 : V) (lasts firsts : List Int) (st : Pl), vs = [.ref a, v1, v2] ∧ (∀ a, L a → H a ≠ none) ∧ PlAt K L H C a dx p1 p2 st ∧ DT K L H v1 (ilist lasts) ∧ DT K L H v2 (ilist firsts) ∧ st.Ok ∧ st.places.length ≤ 500 ∧ NumL st.places.length firsts ∧ (∀ i ∈ lasts, 0 ≤ i ∧ i < st.fol.length) ∧
  ∀ H', Kp (P2 p1 p2) H H' → PlAt K L H' C a dx p1 p2 (st.link lasts firsts) → Q .non H'
theorem ok_Places_link {C : Addr} (F : MetA K C "link" "Places.link" s_Places_link) (T : TxtP K C) (c_joined : C8.Cal P w K mg base 1 "joined" (spD K Rjoined) []) : C8.Met P w K mg base 2 C "link" (spLink K C) [] := by
  refine met_by F T.cl sc_Places_link rfl rfl rfl (fun _ _ _ _ _ _ us hl => match us, hl with | [_, _, _], _ => rfl) (fun vs H Q E ⟨_, _, _, _, _, _, _, _, _, _, e, _⟩ => by rw [e]; rfl) fun f cdv A outer s H vs Q E hr h => ?_
  obtain ⟨L, a, dx, p1, p2, v1, v2, lasts, firsts, st, rfl, hL, pl, rv1, rv2, ok, hz, hf, hls, k⟩ := h
  have o := w0 K L
  have S : Sl (W0 K L) H (start N_Places_link [.ref a, v1, v2]) [.va (.ref a), .da (ilist lasts), .da (ilist firsts), .un] := .cons (s := .va _) rfl (.cons ⟨_, rfl, rv1⟩ (.cons ⟨_, rfl, rv2⟩ (.cons (s := .un) trivial .nil)))
  refine ⟨_, (pss_one (ps_for PassesOwn.never rfl (pi_list (pv 1)) (pg_name (i := 3) sc_Places_link.nd rfl (Or.inl rfl)) (pss_one (ps_asg (C8.pe_c c_joined hr (by omega) rfl (pa_cons (pe_ix ix_seq (pe_fld (pv 0) rfl) (pv 3) (fun _ _ => rfl)) (pa_cons (pv 2) pa_nil))) (pg_sub (pe_fld (pv 0) rfl) (pv 3) set_list))))), ?_⟩
  refine s_forN o (ds := lasts.map .int) (M := P2 p1 p2) (e_var o S rfl) (fun i σ' H' => Kp (P2 p1 p2) H H' ∧ ∃ b, Sl (W0 K L) H' σ' [.va (.ref a), .da (ilist lasts), .da (ilist firsts), b] ∧ PlAt K L H' C a dx p1 p2 (st.link (lasts.take i) firsts)) pl.un
    (fun H' w => ⟨w.mono fun _ z => z.elim, .un, S.mono o w, pl.keep w⟩) (fun H1 w1 i d v σ2 H2 hi rd k12 ⟨k2, b, S2, pl2⟩ => ?_) (fun H1 w1 σ2 H2 k12 ⟨k2, b, S2, pl2⟩ => ?_)
  · rw [List.getElem?_map] at hi
    cases hx : lasts[i]? with
    | none => rw [hx] at hi; cases hi
    | some x =>
      rw [hx] at hi
      cases hi
      obtain ⟨x0, x1⟩ := hls x (List.mem_of_getElem? hx)
      have S3 := S2.putD (i := 3) rd
      obtain ⟨ys, h2, r2⟩ := pl2.fs
      have hl2 := r2.length
      rw [List.length_map, show (st.link (lasts.take i) firsts).fol.length = st.fol.length from linkF_len _ _ _] at hl2
      have fld2 : ∀ {H'}, Kp No H2 H' → Ee (W0 K L) (tFld K (tVar 0) "followers") (σ2.set 3 (some v)) H' (.ref p2) := fun {H'} k' => e_fld o (e_val o (S3.mono o k') rfl) (fun H'' k'' => (k'.trans k'').ins (fun z => z.elim) pl2.ob) T.cl T.nF rfl
      have ok2 := ok.link (lasts := lasts.take i) hf
      have hlt : x.toNat < (st.link (lasts.take i) firsts).fol.length := by rw [show (st.link (lasts.take i) firsts).fol.length = st.fol.length from linkF_len _ _ _]; omega
      have hel : ((st.link (lasts.take i) firsts).fol)[x.toNat]? = some ((st.link (lasts.take i) firsts).fol)[x.toNat] := List.getElem?_eq_getElem hlt
      obtain ⟨y, hy, ry⟩ := r2.get (i := x.toNat) (d := ilist ((st.link (lasts.take i) firsts).fol)[x.toNat]) (by rw [List.getElem?_map, hel]; rfl)
      have hn := ok2.num _ (List.getElem_mem hlt)
      have ex : ((x.toNat : Nat) : Int) = x := by omega
      refine (e_call o (k2.un hL) (a_cons o (e_of o (e_at o (i := x.toNat) (fld2 (Kp.refl _ _)) (by rw [ex]; exact e_var o S3 rfl) (fun H' k' => k'.lst (fun z => z.elim) h2) hy) ry) (a_cons o (e_var o S3 rfl) (a_nil o))) ⟨_, firsts, by have := hn.len; show _ ≤ 1000; have e : (st.link (lasts.take i) firsts).places.length = st.places.length := rfl; omega, by have := hf.len; omega, rfl, rfl⟩) H2 (Kp.refl _ _) _ fun u H3 w3 ru => ?_
      refine g_setL (j := x.toNat) (fld2 w3) (fun H' w => by rw [ex]; exact e_var o (S3.mono o (w3.trans w)) rfl) (fun H' w => (w3.trans w).lst (fun z => z.elim) h2) (by omega) fun H4 w4 hx4 => ?_
      have k5 : Kp (P2 p1 p2) H4 (upd H4 p2 (.lst (ys.set x.toNat u))) := (Kp.refl _ _).put (.inr (.inr rfl)) (by rw [hx4]; trivial)
      have k25 : Kp (P2 p1 p2) H2 (upd H4 p2 (.lst (ys.set x.toNat u))) := ((w3.trans w4).mono fun _ z => z.elim).trans k5
      refine ⟨k12.trans k25, k2.trans k25, _, ((S3.mono o (w3.trans w4))).step pl.un k5, (pl2.keep (w3.trans w4)).write2 (st' := st.link (lasts.take (i + 1)) firsts) rfl ?_⟩
      have e : (st.link (lasts.take (i + 1)) firsts).fol = (st.link (lasts.take i) firsts).fol.set x.toNat (joinI ((st.link (lasts.take i) firsts).fol.getD x.toNat []) firsts) := by
        show linkF _ _ _ = (linkF _ _ _).set _ _
        rw [List.take_add_one, hx]
        unfold linkF
        rw [List.foldl_append]
        rfl
      rw [e, getD_of hel, List.map_set]
      exact DTs.step pl.un k5 ((DTs.mono o (w3.trans w4) r2).set (DT.mono o w4 ru) x.toNat)
  · rw [List.length_map, List.take_length] at pl2
    exact k H2 k2 pl2
end
end SR

namespace SR
open PySem PySem.Spec PyProof.Rows L2
def spWk (K : PySem.W.Frag) (C : Addr) (Pd : Ch → Prop) : Sp := fun vs H Q _ => ∃ (L : Addr → Prop) (a dx p1 p2 : Addr) (v : V) (c : Ch) (st : Pl), vs = [.ref a, v] ∧ Pd c ∧ (∀ a, L a → H a ≠ none) ∧ PlAt K L H C a dx p1 p2 st ∧ DT K L H v c.d ∧ st.Ok ∧ st.places.length + c.cnt ≤ 60 ∧
  ∀ v' H', Kp (P2 p1 p2) H H' → PlAt K L H' C a dx p1 p2 (walkC c st).2 → DT K L H' v' (walkC c st).1.d → Q v' H'
theorem spWk_len {K : PySem.W.Frag} {C : Addr} {Pd : Ch → Prop} (vs : List V) (H : Hp) (Q : VK) (E : XK) (q : spWk K C Pd vs H Q E) : vs.length = 2 := by
  obtain ⟨_, _, _, _, _, _, _, _, e, _⟩ := q
  rw [e]; rfl
theorem ds_map : ∀ cs : List Ch, Ch.ds cs = cs.map Ch.d
  | [] => rfl
  | c :: cs => by
    rw [List.map_cons, ← ds_map cs]
    rfl
theorem deps_le : ∀ {cs : List Ch} {c : Ch}, c ∈ cs → c.dep ≤ Ch.deps cs
  | x :: cs, c, h => by
    unfold Ch.deps
    rcases List.mem_cons.mp h with rfl | h
    · exact Nat.le_max_left _ _
    · exact Nat.le_trans (deps_le h) (Nat.le_max_right _ _)
theorem split_at {α : Type} {l : List α} {i : Nat} {x : α} (h : l[i]? = some x) : l.take i ++ x :: l.drop (i + 1) = l := by
  obtain ⟨hi, e⟩ := List.getElem?_eq_some_iff.mp h
  rw [← e, ← List.drop_eq_getElem_cons hi, List.take_append_drop]
theorem take_snoc {α : Type} {l : List α} {i : Nat} {x : α} (h : l[i]? = some x) : l.take (i + 1) = l.take i ++ [x] := by rw [List.take_add_one, h]; rfl
theorem cnts_append : ∀ (a b : List Ch), Ch.cnts (a ++ b) = Ch.cnts a + Ch.cnts b
  | [], b => by simp [Ch.cnts]
  | x :: a, b => by
    show x.cnt + Ch.cnts (a ++ b) = x.cnt + Ch.cnts a + Ch.cnts b
    rw [cnts_append a b]
    omega
theorem walkS_append : ∀ (a b : List Ch) (st : Pl) (w : Wk), walkS (a ++ b) st w = walkS b (walkS a st w).2 (walkS a st w).1
  | [], b, st, w => by simp [walkS]
  | x :: a, b, st, w => by
    rw [List.cons_append]
    simp only [walkS]
    exact walkS_append a b _ _
theorem walkA_append : ∀ (a b : List Ch) (st : Pl) (w : Wk), walkA (a ++ b) st w = walkA b (walkA a st w).2 (walkA a st w).1
  | [], b, st, w => by simp [walkA]
  | x :: a, b, st, w => by
    rw [List.cons_append]
    simp only [walkA]
    exact walkA_append a b _ _
section
variable {P : Program} {w : World} {K : PySem.W.Frag} {mg : Str → Option Value} {base : Heap}
/-- walk(places, ..) -/
theorem e_callW {L : Addr → Prop} {H : Hp} {σ : L2.St} {tx : TE} {C a dx p1 p2 : Addr} {st : Pl} {c : Ch} {Pd : Ch → Prop} {i : Nat} {ρ : List Ds} {Q : VK} (S : Sl (W0 K L) H σ ρ) (hi : ρ[i]? = some (.va (.ref a))) (h : Ed (W0 K L) tx σ H c.d) (pl : PlAt K L H C a dx p1 p2 st) (hP : Pd c) (hL : ∀ a, L a → H a ≠ none) (ok : st.Ok) (hz : st.places.length + c.cnt ≤ 60)
    (q : ∀ v' H', Kp (P2 p1 p2) H H' → PlAt K L H' C a dx p1 p2 (walkC c st).2 → DT K L H' v' (walkC c st).1.d → Q v' H') : tCall (spWk K C Pd) [] E0 (tCons (tVar i) (tCons tx tNil)) σ H Q :=
  ⟨_, S.va hi, h H (Kp.refl _ _) _ fun v H1 k1 r => ⟨L, a, dx, p1, p2, v, c, st, rfl, hP, k1.un hL, pl.keep k1, r, ok, hz, fun v' H' k' pl' r' => q v' H' ((k1.mono fun _ z => z.elim).trans k') pl' r'⟩⟩
/-- places.link(.., ..) as a statement -/
theorem s_link {L : Addr → Prop} {H : Hp} {σ : L2.St} {t1 t2 : TE} {C a dx p1 p2 : Addr} {st : Pl} {lasts firsts : List Int} {i : Nat} {ρ : List Ds} {nx bk ct : L2.St → Hp → Prop} {rt : VK} (S : Sl (W0 K L) H σ ρ) (hi : ρ[i]? = some (.va (.ref a))) (h1 : Ed (W0 K L) t1 σ H (ilist lasts)) (h2 : Ed (W0 K L) t2 σ H (ilist firsts)) (pl : PlAt K L H C a dx p1 p2 st) (hL : ∀ a, L a → H a ≠ none) (ok : st.Ok) (hz : st.places.length ≤ 500) (hf : NumL st.places.length firsts) (hl : ∀ i ∈ lasts, 0 ≤ i ∧ i < st.fol.length)
    (q : ∀ H', Kp (P2 p1 p2) H H' → PlAt K L H' C a dx p1 p2 (st.link lasts firsts) → nx σ H') : tDrop (tMeth C "link" (spLink K C) [] E0 (tVar i) (tCons t1 (tCons t2 tNil))) ⟨nx, rt, bk, ct⟩ σ H :=
  ⟨_, S.va hi, a, dx, _, rfl, pl.ob, rfl, h1 H (Kp.refl _ _) _ fun v1 H1 k1 r1 => h2 H1 k1 _ fun v2 H2 k2 r2 => ⟨L, a, dx, p1, p2, v1, v2, lasts, firsts, st, rfl, (k1.trans k2).un hL, pl.keep (k1.trans k2), DT.mono (w0 K L) k2 r1, r2, ok, hz, hf, hl, fun H' k' pl' => q H' (((k1.trans k2).mono fun _ z => z.elim).trans k') pl'⟩⟩
theorem Wk.d0 {C : Wd} (o : C.Ok) {H : Hp} {σ : L2.St} {te : TE} {x : Wk} (h : Ed C te σ H x.d) : Ed C (tOp (rIx C.K) te (tC (.int 0))) σ H (.bool x.e) := e_ixT o (i := 0) h (e_int o) rfl
theorem Wk.d1 {C : Wd} (o : C.Ok) {H : Hp} {σ : L2.St} {te : TE} {x : Wk} (h : Ed C te σ H x.d) : Ed C (tOp (rIx C.K) te (tC (.int 1))) σ H (ilist x.f) := e_ixT o (i := 1) h (e_int o) rfl
theorem Wk.d2 {C : Wd} (o : C.Ok) {H : Hp} {σ : L2.St} {te : TE} {x : Wk} (h : Ed C te σ H x.d) : Ed C (tOp (rIx C.K) te (tC (.int 2))) σ H (ilist x.l) := e_ixT o (i := 2) h (e_int o) rfl
abbrev N_walk_place : List Str := ["places", "choice", "number"]
abbrev s_walk_place : Stmt := top 4
theorem sc_walk_place : FnScope ["places", "choice", "number"] ["places", "choice"] (defScope s_walk_place) := ⟨rfl, rfl, rfl, by decide +kernel, rfl, by decide +kernel, by decide +kernel⟩
theorem ok_walk_place {C : Addr} (F : DefA K mg "walk_place" s_walk_place) (c_Places_add : C8.Met P w K mg base 1 C "add" (spAdd K C) []) : C8.Cal P w K mg base 2 "walk_place" (spWk K C fun c => ∃ p l m k, c = .place p l m k) [] := by
  refine cal_by F sc_walk_place rfl rfl rfl (fun _ _ _ _ _ _ us hl => match us, hl with | [_, _], _ => rfl) spWk_len fun f cdv A outer s H vs Q E hr h => ?_
  obtain ⟨L, a, dx, p1, p2, v, c, st, rfl, ⟨p, l, m, cc, rfl⟩, hL, pl, rv, ok, hz, k⟩ := h
  have o := w0 K L
  have S : Sl (W0 K L) H (start N_walk_place [.ref a, v]) [.va (.ref a), .da (Ch.place p l m cc).d, .un] := .cons (s := .va _) rfl (.cons ⟨_, rfl, rv⟩ (.cons (s := .un) trivial .nil))
  refine ⟨_, (pss_c (ps_set (i := 2) sc_walk_place.nd rfl (Or.inl rfl) (C8.pe_mt c_Places_add hr (by omega) (pv 0) (pa_cons (pv 1) pa_nil)))
  (pss_one (ps_ret (pe_tup (pa_cons pe_bl (pa_cons (pe_lst (pa_cons (pv 2) pa_nil)) (pa_cons (pe_lst (pa_cons (pv 2) pa_nil)) pa_nil))))))), ?_⟩
  have ol := ok.len
  refine ⟨_, S.va (i := 0) rfl, a, dx, _, rfl, pl.ob, rfl, e_var o S (i := 1) rfl H (Kp.refl _ _) _ fun v1 H1 k1 r1 => ⟨L, a, dx, p1, p2, v1, ⟨p, l, m, cc⟩, st, rfl, k1.un hL, pl.keep k1, r1, by omega, by omega, fun H2 k2 pl2 => ?_⟩⟩
  have k02 : Kp (P2 p1 p2) H H2 := (k1.mono fun _ z => z.elim).trans k2
  have S2 := (S.step pl.un k02).putD (i := 2) (DT.int ((st.places.length + 1 : Nat) : Int))
  have un2 := k02.un hL
  unfold walkC at k
  refine s_ret o (e_tup o (a_cons o (e_bl o) (a_cons o (e_lst o un2 (a_cons o (e_var o S2 rfl) (a_nil o))) (a_cons o (e_lst o un2 (a_cons o (e_var o S2 rfl) (a_nil o))) (a_nil o))))) fun v3 H3 w3 r3 => k v3 H3 (k02.trans (w3.mono fun _ z => z.elim)) (pl2.keep w3) r3
abbrev N_walk_sequence : List Str := ["places", "choice", "empty", "firsts", "lasts", "item", "found"]
abbrev s_walk_sequence : Stmt := top 5
theorem sc_walk_sequence : FnScope ["places", "choice", "empty", "firsts", "lasts", "item", "found"] ["places", "choice"] (defScope s_walk_sequence) := ⟨rfl, rfl, rfl, by decide +kernel, rfl, by decide +kernel, by decide +kernel⟩
theorem ok_walk_sequence {C : Addr} {n lv : Nat} (F : DefA K mg "walk_sequence" s_walk_sequence) (hlv : 2 ≤ lv) (c_Places_link : C8.Met P w K mg base 2 C "link" (spLink K C) []) (c_joined : C8.Cal P w K mg base 1 "joined" (spD K Rjoined) []) (c_walk : C8.Cal P w K mg base lv "walk" (spWk K C fun c => c.dep + 1 ≤ n) []) :
    C8.Cal P w K mg base (lv + 1) "walk_sequence" (spWk K C fun c => ∃ cs, c = .seq cs ∧ Ch.deps cs + 1 ≤ n) [] := by
  refine cal_by F sc_walk_sequence rfl rfl rfl (fun _ _ _ _ _ _ us hl => match us, hl with | [_, _], _ => rfl) spWk_len fun f cdv A outer s H vs Q E hr h => ?_
  obtain ⟨L, a, dx, p1, p2, v, c, st, rfl, ⟨cs, rfl, hdp⟩, hL, pl, rv, ok, hz, k⟩ := h
  have o := w0 K L
  have hr2 := hr.mono hlv
  have hr1 := hr.mono (show 1 ≤ lv by omega)
  have S : Sl (W0 K L) H (start N_walk_sequence [.ref a, v]) [.va (.ref a), .da (Ch.seq cs).d, .un, .un, .un, .un, .un] := .cons (s := .va _) rfl (.cons ⟨_, rfl, rv⟩ (.cons (s := .un) trivial (.cons (s := .un) trivial (.cons (s := .un) trivial (.cons (s := .un) trivial (.cons (s := .un) trivial .nil))))))
  refine ⟨_, (pss_c (ps_set (i := 2) sc_walk_sequence.nd rfl (Or.inl rfl) pe_bl)
  (pss_c (ps_set (i := 3) sc_walk_sequence.nd rfl (Or.inl rfl) (pe_lst pa_nil))
  (pss_c (ps_set (i := 4) sc_walk_sequence.nd rfl (Or.inl rfl) (pe_lst pa_nil))
  (pss_c (ps_for PassesOwn.never rfl (pi_tup (pe_ix ix_seq (pv 1) pe_int (fun _ _ => rfl))) (pg_name (i := 5) sc_walk_sequence.nd rfl (Or.inl rfl)) (pss_c (ps_set (i := 6) sc_walk_sequence.nd rfl (Or.inl rfl) (C8.pe_c c_walk hr (by omega) rfl (pa_cons (pv 0) (pa_cons (pv 5) pa_nil))))
  (pss_c (ps_expr (C8.pe_mt c_Places_link hr (by omega) (pv 0) (pa_cons (pv 4) (pa_cons (pe_ix ix_seq (pv 6) pe_int (fun _ _ => rfl)) pa_nil))))
  (pss_c (ps_if (pt_val (pv 2)) (pss_one (ps_set (i := 3) sc_walk_sequence.nd rfl (Or.inl rfl) (C8.pe_c c_joined hr (by omega) rfl (pa_cons (pv 3) (pa_cons (pe_ix ix_seq (pv 6) pe_int (fun _ _ => rfl)) pa_nil))))) pss_nil)
  (pss_c (ps_set (i := 4) sc_walk_sequence.nd rfl (Or.inl rfl) (pe_ifExp (pt_val (pe_ix ix_seq (pv 6) pe_int (fun _ _ => rfl))) (C8.pe_c c_joined hr (by omega) rfl (pa_cons (pv 4) (pa_cons (pe_ix ix_seq (pv 6) pe_int (fun _ _ => rfl)) pa_nil))) (pe_ix ix_seq (pv 6) pe_int (fun _ _ => rfl))))
  (pss_one (ps_set (i := 2) sc_walk_sequence.nd rfl (Or.inl rfl) (pe_and (pv 2) (pe_one (pe_ix ix_seq (pv 6) pe_int (fun _ _ => rfl)))))))))))
  (pss_one (ps_ret (pe_tup (pa_cons (pv 2) (pa_cons (pv 3) (pa_cons (pv 4) pa_nil)))))))))), ?_⟩
  refine s_set (te := tC (V.bl true)) (i := 2) o (e_bl o) fun v1 H1 w1 r1 => ?_
  have S1 := (S.mono o w1).putD (i := 2) r1
  refine s_set (te := tLst tNil) (i := 3) o (e_lst o (w1.un hL) (a_nil o)) fun v2 H2 w2 r2 => ?_
  have S2 := (S1.mono o w2).putD (i := 3) r2
  refine s_set (te := tLst tNil) (i := 4) o (e_lst o ((w1.trans w2).un hL) (a_nil o)) fun v3 H3 w3 r3 => ?_
  have S3 := (S2.mono o w3).putD (i := 4) r3
  have w03 : Kp No H H3 := (w1.trans w2).trans w3
  have hz' : st.places.length + Ch.cnts cs ≤ 60 := hz
  refine s_forTN o (ds := cs.map Ch.d) (M := P2 p1 p2) (e_ixT o (i := 1) (ds := [.str "sequence", .tuple (Ch.ds cs)]) (e_var o S3 rfl) (e_int o) (by rw [ds_map]; rfl))
    (fun i σ' H' => Kp (P2 p1 p2) H H' ∧ ∃ x y, Sl (W0 K L) H' σ' [.va (.ref a), .da (Ch.seq cs).d, .da (.bool (walkS (cs.take i) st ⟨true, [], []⟩).1.e), .da (ilist (walkS (cs.take i) st ⟨true, [], []⟩).1.f), .da (ilist (walkS (cs.take i) st ⟨true, [], []⟩).1.l), x, y] ∧ PlAt K L H' C a dx p1 p2 (walkS (cs.take i) st ⟨true, [], []⟩).2) pl.un
    (fun H' w' => ⟨(w03.trans w').mono fun _ z => z.elim, .un, .un, by rw [List.take_zero]; unfold walkS; exact S3.mono o w', by rw [List.take_zero]; unfold walkS; exact pl.keep (w03.trans w')⟩) (fun H4 w4 i d v5 σ5 H5 hi rd k45 ⟨k5, x, y, S5, pl5⟩ => ?_) (fun H4 w4 σ5 H5 k45 ⟨k5, x, y, S5, pl5⟩ => ?_)
  · rw [List.getElem?_map] at hi
    cases hc : cs[i]? with
    | none => rw [hc] at hi; cases hi
    | some c =>
      rw [hc] at hi
      cases hi
      have ecs := split_at hc
      have hcn : Ch.cnts (cs.take i) + c.cnt ≤ Ch.cnts cs := by
        have := congrArg Ch.cnts ecs
        rw [cnts_append] at this
        have h2 : Ch.cnts (c :: cs.drop (i + 1)) = c.cnt + Ch.cnts (cs.drop (i + 1)) := rfl
        omega
      have hcd : c.dep + 1 ≤ n := Nat.le_trans (Nat.succ_le_succ (deps_le (List.mem_of_getElem? hc))) hdp
      have wk := walkS_ok (cs.take i) st ⟨true, [], []⟩ ok ⟨NumL.nil _, NumL.nil _⟩
      generalize hst : walkS (cs.take i) st ⟨true, [], []⟩ = R at S5 pl5 wk
      have hnext : walkS (cs.take (i + 1)) st ⟨true, [], []⟩ = (⟨R.1.e && (walkC c R.2).1.e, if R.1.e then joinI R.1.f (walkC c R.2).1.f else R.1.f, if (walkC c R.2).1.e then joinI R.1.l (walkC c R.2).1.l else (walkC c R.2).1.l⟩, (walkC c R.2).2.link R.1.l (walkC c R.2).1.f) := by
        rw [take_snoc hc, walkS_append, hst]
        simp only [walkS]
      rw [hnext]
      have S6 := S5.putD (i := 5) rd
      have un5 := k5.un hL
      have hzR : R.2.places.length + c.cnt ≤ 60 := by rw [wk.len]; omega
      refine e_callW S6 rfl (e_var o S6 (i := 5) rfl) pl5 hcd un5 wk.so hzR fun v6 H6 k6 pl6 r6 => ?_
      have wk2 := walkC_ok c R.2 wk.so
      have S7 := (S6.step pl.un k6).putD (i := 6) r6
      have up := wk.wk.up (show R.2.places.length ≤ (walkC c R.2).2.places.length by rw [wk2.len]; omega)
      have un6 := k6.un un5
      have l7 : (walkC c R.2).2.places.length ≤ 60 := by rw [wk2.len]; omega
      refine s_link S7 rfl (e_var o S7 rfl) (Wk.d1 o (e_var o S7 rfl)) pl6 un6 wk2.so (by omega) wk2.wk.f (fun i hi => by have := up.l.rg i hi; have := wk2.so.len; omega) fun H7 k7 pl7 => ?_
      have S8 := S7.step pl.un k7
      have un7 := k7.un un6
      have hl1 := up.f.len
      have hl2 := wk2.wk.f.len
      have hl3 := up.l.len
      have hl4 := wk2.wk.l.len
      -- the rest of the turn, from the firsts
      have rest : ∀ {σ9 H9}, Kp No H7 H9 → Sl (W0 K L) H9 σ9 [.va (.ref a), .da (Ch.seq cs).d, .da (.bool R.1.e), .da (ilist (if R.1.e then joinI R.1.f (walkC c R.2).1.f else R.1.f)), .da (ilist R.1.l), .da c.d, .da (walkC c R.2).1.d] → ∀ nx : L2.St → Hp → Prop, (∀ σ' H', Kp No H7 H' → Sl (W0 K L) H' σ' [.va (.ref a), .da (Ch.seq cs).d, .da (.bool (R.1.e && (walkC c R.2).1.e)), .da (ilist (if R.1.e then joinI R.1.f (walkC c R.2).1.f else R.1.f)), .da (ilist (if (walkC c R.2).1.e then joinI R.1.l (walkC c R.2).1.l else (walkC c R.2).1.l)), .da c.d, .da (walkC c R.2).1.d] → nx σ' H') →
          tAsg (tIf (tB (tOp (rIx K) (tVar 6) (tC (.int 0)))) (tCall (spD K Rjoined) [] E0 (tCons (tVar 4) (tCons (tOp (rIx K) (tVar 6) (tC (.int 2))) tNil))) (tOp (rIx K) (tVar 6) (tC (.int 2)))) (gName 4) ⟨fun σ H => tAsg (tAndV (tVar 2) (tOp (rIx K) (tVar 6) (tC (.int 0)))) (gName 2) ⟨nx, fun _ _ => False, fun _ _ => False, fun _ _ => False⟩ σ H, fun _ _ => False, fun _ _ => False, fun _ _ => False⟩ σ9 H9 := fun {σ9 H9} w9 S9 nx q => by
        refine s_set o (P := fun v H' => Dw (W0 K L) H' v (ilist (if (walkC c R.2).1.e then joinI R.1.l (walkC c R.2).1.l else (walkC c R.2).1.l))) (e_if o (t_B o (Wk.d0 o (e_var o S9 rfl))) (fun he => ?_) (fun he => ?_)) fun v10 H10 w10 r10 => ?_
        · rw [if_pos he]
          exact e_call o (w9.un un7) (a_cons o (e_var o S9 rfl) (a_cons o (Wk.d2 o (e_var o S9 rfl)) (a_nil o))) ⟨R.1.l, (walkC c R.2).1.l, by omega, by omega, rfl, rfl⟩
        · rw [he, if_neg Bool.false_ne_true]
          exact Wk.d2 o (e_var o S9 rfl)
        · have S10 := (S9.mono o w10).putD (i := 4) r10
          refine s_set o (e_and o (a := R.1.e) (b := (walkC c R.2).1.e) (e_var o S10 rfl) fun _ => Wk.d0 o (e_var o S10 rfl)) fun v11 H11 w11 r11 => ?_
          exact q _ H11 ((w9.trans w10).trans w11) ((S10.mono o w11).putD (i := 2) r11)
      have fin : ∀ σ' H', Kp No H7 H' → Sl (W0 K L) H' σ' [.va (.ref a), .da (Ch.seq cs).d, .da (.bool (R.1.e && (walkC c R.2).1.e)), .da (ilist (if R.1.e then joinI R.1.f (walkC c R.2).1.f else R.1.f)), .da (ilist (if (walkC c R.2).1.e then joinI R.1.l (walkC c R.2).1.l else (walkC c R.2).1.l)), .da c.d, .da (walkC c R.2).1.d] →
          Kp (P2 p1 p2) H4 H' ∧ Kp (P2 p1 p2) H H' ∧ ∃ x y, Sl (W0 K L) H' σ' [.va (.ref a), .da (Ch.seq cs).d, .da (.bool (R.1.e && (walkC c R.2).1.e)), .da (ilist (if R.1.e then joinI R.1.f (walkC c R.2).1.f else R.1.f)), .da (ilist (if (walkC c R.2).1.e then joinI R.1.l (walkC c R.2).1.l else (walkC c R.2).1.l)), x, y] ∧ PlAt K L H' C a dx p1 p2 ((walkC c R.2).2.link R.1.l (walkC c R.2).1.f) := fun σ' H' w' S' => by
        have kk : Kp (P2 p1 p2) H5 H' := (k6.trans k7).trans (w'.mono fun _ z => z.elim)
        exact ⟨k45.trans kk, k5.trans kk, _, _, S', pl7.keep w'⟩
      refine s_if o (t_B o (e_var o S8 rfl)) (fun he H8 w8 => ?_) (fun he H8 w8 => ?_)
      · have S9 := S8.mono o w8
        refine s_set o (e_call o (w8.un un7) (a_cons o (e_var o S9 rfl) (a_cons o (Wk.d1 o (e_var o S9 rfl)) (a_nil o))) ⟨R.1.f, (walkC c R.2).1.f, by omega, by omega, rfl, rfl⟩) fun v9 H9 w9 r9 => ?_
        have S10 := (S9.mono o w9).putD (i := 3) r9
        have e : joinI R.1.f (walkC c R.2).1.f = if R.1.e then joinI R.1.f (walkC c R.2).1.f else R.1.f := by rw [if_pos he]
        rw [e] at S10
        exact rest (w8.trans w9) S10 _ fin
      · have S9 := S8.mono o w8
        have e : R.1.f = if R.1.e then joinI R.1.f (walkC c R.2).1.f else R.1.f := by rw [he, if_neg Bool.false_ne_true]
        have S10 := S9
        rw [show ilist R.1.f = ilist (if R.1.e then joinI R.1.f (walkC c R.2).1.f else R.1.f) from congrArg ilist e] at S10
        exact rest w8 S10 _ fin
  · rw [List.length_map, List.take_length] at S5 pl5
    unfold walkC at k
    refine s_ret o (e_tup o (a_cons o (e_var o S5 rfl) (a_cons o (e_var o S5 rfl) (a_cons o (e_var o S5 rfl) (a_nil o))))) fun v6 H6 w6 r6 => k v6 H6 (k5.trans (w6.mono fun _ z => z.elim)) (pl5.keep w6) r6

abbrev N_walk_choice : List Str := ["places", "choice", "empty", "firsts", "lasts", "item", "found"]
abbrev s_walk_choice : Stmt := top 6
theorem sc_walk_choice : FnScope ["places", "choice", "empty", "firsts", "lasts", "item", "found"] ["places", "choice"] (defScope s_walk_choice) := ⟨rfl, rfl, rfl, by decide +kernel, rfl, by decide +kernel, by decide +kernel⟩
theorem ok_walk_choice {C : Addr} {n lv : Nat} (F : DefA K mg "walk_choice" s_walk_choice) (hlv : 2 ≤ lv) (c_joined : C8.Cal P w K mg base 1 "joined" (spD K Rjoined) []) (c_walk : C8.Cal P w K mg base lv "walk" (spWk K C fun c => c.dep + 1 ≤ n) []) :
    C8.Cal P w K mg base (lv + 1) "walk_choice" (spWk K C fun c => ∃ cs, c = .alt cs ∧ Ch.deps cs + 1 ≤ n) [] := by
  refine cal_by F sc_walk_choice rfl rfl rfl (fun _ _ _ _ _ _ us hl => match us, hl with | [_, _], _ => rfl) spWk_len fun f cdv A outer s H vs Q E hr h => ?_
  obtain ⟨L, a, dx, p1, p2, v, c, st, rfl, ⟨cs, rfl, hdp⟩, hL, pl, rv, ok, hz, k⟩ := h
  have o := w0 K L
  have S : Sl (W0 K L) H (start N_walk_choice [.ref a, v]) [.va (.ref a), .da (Ch.alt cs).d, .un, .un, .un, .un, .un] := .cons (s := .va _) rfl (.cons ⟨_, rfl, rv⟩ (.cons (s := .un) trivial (.cons (s := .un) trivial (.cons (s := .un) trivial (.cons (s := .un) trivial (.cons (s := .un) trivial .nil))))))
  refine ⟨_, (pss_c (ps_set (i := 2) sc_walk_choice.nd rfl (Or.inl rfl) pe_bl)
  (pss_c (ps_set (i := 3) sc_walk_choice.nd rfl (Or.inl rfl) (pe_lst pa_nil))
  (pss_c (ps_set (i := 4) sc_walk_choice.nd rfl (Or.inl rfl) (pe_lst pa_nil))
  (pss_c (ps_for PassesOwn.never rfl (pi_tup (pe_ix ix_seq (pv 1) pe_int (fun _ _ => rfl))) (pg_name (i := 5) sc_walk_choice.nd rfl (Or.inl rfl)) (pss_c (ps_set (i := 6) sc_walk_choice.nd rfl (Or.inl rfl) (C8.pe_c c_walk hr (by omega) rfl (pa_cons (pv 0) (pa_cons (pv 5) pa_nil))))
  (pss_c (ps_set (i := 2) sc_walk_choice.nd rfl (Or.inl rfl) (pe_or (pv 2) (pe_one (pe_ix ix_seq (pv 6) pe_int (fun _ _ => rfl)))))
  (pss_c (ps_set (i := 3) sc_walk_choice.nd rfl (Or.inl rfl) (C8.pe_c c_joined hr (by omega) rfl (pa_cons (pv 3) (pa_cons (pe_ix ix_seq (pv 6) pe_int (fun _ _ => rfl)) pa_nil))))
  (pss_one (ps_set (i := 4) sc_walk_choice.nd rfl (Or.inl rfl) (C8.pe_c c_joined hr (by omega) rfl (pa_cons (pv 4) (pa_cons (pe_ix ix_seq (pv 6) pe_int (fun _ _ => rfl)) pa_nil)))))))))
  (pss_one (ps_ret (pe_tup (pa_cons (pv 2) (pa_cons (pv 3) (pa_cons (pv 4) pa_nil)))))))))), ?_⟩
  refine s_set (te := tC (V.bl false)) (i := 2) o (e_bl o) fun v1 H1 w1 r1 => ?_
  have S1 := (S.mono o w1).putD (i := 2) r1
  refine s_set (te := tLst tNil) (i := 3) o (e_lst o (w1.un hL) (a_nil o)) fun v2 H2 w2 r2 => ?_
  have S2 := (S1.mono o w2).putD (i := 3) r2
  refine s_set (te := tLst tNil) (i := 4) o (e_lst o ((w1.trans w2).un hL) (a_nil o)) fun v3 H3 w3 r3 => ?_
  have S3 := (S2.mono o w3).putD (i := 4) r3
  have w03 : Kp No H H3 := (w1.trans w2).trans w3
  have hz' : st.places.length + Ch.cnts cs ≤ 60 := hz
  refine s_forTN o (ds := cs.map Ch.d) (M := P2 p1 p2) (e_ixT o (i := 1) (ds := [.str "choice", .tuple (Ch.ds cs)]) (e_var o S3 rfl) (e_int o) (by rw [ds_map]; rfl))
    (fun i σ' H' => Kp (P2 p1 p2) H H' ∧ ∃ x y, Sl (W0 K L) H' σ' [.va (.ref a), .da (Ch.alt cs).d, .da (.bool (walkA (cs.take i) st ⟨false, [], []⟩).1.e), .da (ilist (walkA (cs.take i) st ⟨false, [], []⟩).1.f), .da (ilist (walkA (cs.take i) st ⟨false, [], []⟩).1.l), x, y] ∧ PlAt K L H' C a dx p1 p2 (walkA (cs.take i) st ⟨false, [], []⟩).2) pl.un
    (fun H' w' => ⟨(w03.trans w').mono fun _ z => z.elim, .un, .un, by rw [List.take_zero]; unfold walkA; exact S3.mono o w', by rw [List.take_zero]; unfold walkA; exact pl.keep (w03.trans w')⟩) (fun H4 w4 i d v5 σ5 H5 hi rd k45 ⟨k5, x, y, S5, pl5⟩ => ?_) (fun H4 w4 σ5 H5 k45 ⟨k5, x, y, S5, pl5⟩ => ?_)
  · rw [List.getElem?_map] at hi
    cases hc : cs[i]? with
    | none => rw [hc] at hi; cases hi
    | some c =>
      rw [hc] at hi
      cases hi
      have ecs := split_at hc
      have hcn : Ch.cnts (cs.take i) + c.cnt ≤ Ch.cnts cs := by
        have := congrArg Ch.cnts ecs
        rw [cnts_append] at this
        have h2 : Ch.cnts (c :: cs.drop (i + 1)) = c.cnt + Ch.cnts (cs.drop (i + 1)) := rfl
        omega
      have hcd : c.dep + 1 ≤ n := Nat.le_trans (Nat.succ_le_succ (deps_le (List.mem_of_getElem? hc))) hdp
      have wk := walkA_ok (cs.take i) st ⟨false, [], []⟩ ok ⟨NumL.nil _, NumL.nil _⟩
      generalize hst : walkA (cs.take i) st ⟨false, [], []⟩ = R at S5 pl5 wk
      have hnext : walkA (cs.take (i + 1)) st ⟨false, [], []⟩ = (⟨R.1.e || (walkC c R.2).1.e, joinI R.1.f (walkC c R.2).1.f, joinI R.1.l (walkC c R.2).1.l⟩, (walkC c R.2).2) := by
        rw [take_snoc hc, walkA_append, hst]
        simp only [walkA]
      rw [hnext]
      have S6 := S5.putD (i := 5) rd
      have un5 := k5.un hL
      have hzR : R.2.places.length + c.cnt ≤ 60 := by rw [wk.len]; omega
      refine e_callW S6 rfl (e_var o S6 (i := 5) rfl) pl5 hcd un5 wk.so hzR fun v6 H6 k6 pl6 r6 => ?_
      have wk2 := walkC_ok c R.2 wk.so
      have S7 := (S6.step pl.un k6).putD (i := 6) r6
      have up := wk.wk.up (show R.2.places.length ≤ (walkC c R.2).2.places.length by rw [wk2.len]; omega)
      have un6 := k6.un un5
      have l7 : (walkC c R.2).2.places.length ≤ 60 := by rw [wk2.len]; omega
      have hl1 := up.f.len
      have hl2 := wk2.wk.f.len
      have hl3 := up.l.len
      have hl4 := wk2.wk.l.len
      refine s_set (rt := fun _ _ => False) (bk := fun _ _ => False) (ct := fun _ _ => False) o (e_or o (a := R.1.e) (b := (walkC c R.2).1.e) (e_var o S7 rfl) fun _ => Wk.d0 o (e_var o S7 rfl)) fun v8 H8 w8 r8 => ?_
      have S8 := (S7.mono o w8).putD (i := 2) r8
      refine s_set o (e_call o (w8.un un6) (a_cons o (e_var o S8 rfl) (a_cons o (Wk.d1 o (e_var o S8 rfl)) (a_nil o))) ⟨R.1.f, (walkC c R.2).1.f, by omega, by omega, rfl, rfl⟩) fun v9 H9 w9 r9 => ?_
      have S9 := (S8.mono o w9).putD (i := 3) r9
      refine s_set o (e_call o ((w8.trans w9).un un6) (a_cons o (e_var o S9 rfl) (a_cons o (Wk.d2 o (e_var o S9 rfl)) (a_nil o))) ⟨R.1.l, (walkC c R.2).1.l, by omega, by omega, rfl, rfl⟩) fun v10 H10 w10 r10 => ?_
      have S10 := (S9.mono o w10).putD (i := 4) r10
      have kk : Kp (P2 p1 p2) H5 H10 := k6.trans (((w8.trans w9).trans w10).mono fun _ z => z.elim)
      exact ⟨k45.trans kk, k5.trans kk, _, _, S10, pl6.keep ((w8.trans w9).trans w10)⟩
  · rw [List.length_map, List.take_length] at S5 pl5
    unfold walkC at k
    refine s_ret o (e_tup o (a_cons o (e_var o S5 rfl) (a_cons o (e_var o S5 rfl) (a_cons o (e_var o S5 rfl) (a_nil o))))) fun v6 H6 w6 r6 => k v6 H6 (k5.trans (w6.mono fun _ z => z.elim)) (pl5.keep w6) r6
abbrev N_walk_repeated : List Str := ["places", "choice", "found"]
abbrev s_walk_repeated : Stmt := top 7
theorem sc_walk_repeated : FnScope ["places", "choice", "found"] ["places", "choice"] (defScope s_walk_repeated) := ⟨rfl, rfl, rfl, by decide +kernel, rfl, by decide +kernel, by decide +kernel⟩
theorem ok_walk_repeated {C : Addr} {n lv : Nat} (F : DefA K mg "walk_repeated" s_walk_repeated) (hlv : 2 ≤ lv) (c_Places_link : C8.Met P w K mg base 2 C "link" (spLink K C) []) (c_walk : C8.Cal P w K mg base lv "walk" (spWk K C fun c => c.dep + 1 ≤ n) []) :
    C8.Cal P w K mg base (lv + 1) "walk_repeated" (spWk K C fun c => ∃ x, (c = .any x ∨ c = .some x) ∧ x.dep + 1 ≤ n) [] := by
  refine cal_by F sc_walk_repeated rfl rfl rfl (fun _ _ _ _ _ _ us hl => match us, hl with | [_, _], _ => rfl) spWk_len fun f cdv A outer s H vs Q E hr h => ?_
  obtain ⟨L, a, dx, p1, p2, v, c, st, rfl, ⟨x, hc, hdp⟩, hL, pl, rv, ok, hz, k⟩ := h
  have o := w0 K L
  have hu4 : _ + 64 < cLine := hr.units
  obtain ⟨nm, an, hd, hw, hcn, han⟩ : ∃ (nm : Str) (an : Bool), c.d = .tuple [.str nm, x.d] ∧ walkC c st = (⟨(walkC x st).1.e || an, (walkC x st).1.f, (walkC x st).1.l⟩, (walkC x st).2.link (walkC x st).1.l (walkC x st).1.f) ∧ c.cnt = x.cnt ∧ decide (nm = "any") = an := by
    rcases hc with rfl | rfl
    · exact ⟨"any", true, rfl, by simp only [walkC, Bool.or_true], rfl, by decide +kernel⟩
    · exact ⟨"some", false, rfl, by simp only [walkC, Bool.or_false], rfl, by decide +kernel⟩
  rw [hw] at k
  rw [hd] at rv
  rw [hcn] at hz
  have S : Sl (W0 K L) H (start N_walk_repeated [.ref a, v]) [.va (.ref a), .da (.tuple [.str nm, x.d]), .un] := .cons (s := .va _) rfl (.cons ⟨_, rfl, rv⟩ (.cons (s := .un) trivial .nil))
  refine ⟨_, (pss_c (ps_set (i := 2) sc_walk_repeated.nd rfl (Or.inl rfl) (C8.pe_c c_walk hr (by omega) rfl (pa_cons (pv 0) (pa_cons (pe_ix ix_seq (pv 1) pe_int (fun _ _ => rfl)) pa_nil))))
  (pss_c (ps_expr (C8.pe_mt c_Places_link hr (by omega) (pv 0) (pa_cons (pe_ix ix_seq (pv 2) pe_int (fun _ _ => rfl)) (pa_cons (pe_ix ix_seq (pv 2) pe_int (fun _ _ => rfl)) pa_nil))))
  (pss_one (ps_ret (pe_tup (pa_cons (pe_or (pe_ix ix_seq (pv 2) pe_int (fun _ _ => rfl)) (pe_one (pe_cmpR (op_Q hu4) (pe_ix ix_seq (pv 1) pe_int (fun _ _ => rfl)) pe_str (nomark _)))) (pa_cons (pe_ix ix_seq (pv 2) pe_int (fun _ _ => rfl)) (pa_cons (pe_ix ix_seq (pv 2) pe_int (fun _ _ => rfl)) pa_nil)))))))), ?_⟩
  refine e_callW S rfl (e_ixT o (i := 1) (ds := [.str nm, x.d]) (e_var o S (i := 1) rfl) (e_int o) rfl) pl hdp hL ok hz fun v6 H6 k6 pl6 r6 => ?_
  have wk2 := walkC_ok x st ok
  have S7 := (S.step pl.un k6).putD (i := 2) r6
  have un6 := k6.un hL
  have l7 : (walkC x st).2.places.length ≤ 60 := by rw [wk2.len]; omega
  refine s_link S7 rfl (Wk.d2 o (e_var o S7 rfl)) (Wk.d1 o (e_var o S7 rfl)) pl6 un6 wk2.so (by omega) wk2.wk.f (fun i hi => by have := wk2.wk.l.rg i hi; have := wk2.so.len; omega) fun H7 k7 pl7 => ?_
  have S8 := S7.step pl.un k7
  refine s_ret o (e_tup o (a_cons o (e_or o (a := (walkC x st).1.e) (b := decide (nm = "any")) (Wk.d0 o (e_var o S8 rfl)) fun _ => e_eqS o (i := nm) (j := "any") (e_ixT o (i := 0) (ds := [.str nm, x.d]) (e_var o S8 rfl) (e_int o) rfl) (e_str o)) (a_cons o (Wk.d1 o (e_var o S8 rfl)) (a_cons o (Wk.d2 o (e_var o S8 rfl)) (a_nil o))))) fun v9 H9 w9 r9 => k v9 H9 ((k6.trans k7).trans (w9.mono fun _ z => z.elim)) (pl7.keep w9) ?_
  rw [han] at r9
  exact r9
abbrev N_walk_maybe : List Str := ["places", "choice", "found"]
abbrev s_walk_maybe : Stmt := top 8
theorem sc_walk_maybe : FnScope ["places", "choice", "found"] ["places", "choice"] (defScope s_walk_maybe) := ⟨rfl, rfl, rfl, by decide +kernel, rfl, by decide +kernel, by decide +kernel⟩
theorem ok_walk_maybe {C : Addr} {n lv : Nat} (F : DefA K mg "walk_maybe" s_walk_maybe) (c_walk : C8.Cal P w K mg base lv "walk" (spWk K C fun c => c.dep + 1 ≤ n) []) :
    C8.Cal P w K mg base (lv + 1) "walk_maybe" (spWk K C fun c => ∃ x, c = .maybe x ∧ x.dep + 1 ≤ n) [] := by
  refine cal_by F sc_walk_maybe rfl rfl rfl (fun _ _ _ _ _ _ us hl => match us, hl with | [_, _], _ => rfl) spWk_len fun f cdv A outer s H vs Q E hr h => ?_
  obtain ⟨L, a, dx, p1, p2, v, c, st, rfl, ⟨x, rfl, hdp⟩, hL, pl, rv, ok, hz, k⟩ := h
  have o := w0 K L
  have S : Sl (W0 K L) H (start N_walk_maybe [.ref a, v]) [.va (.ref a), .da (.tuple [.str "maybe", x.d]), .un] := .cons (s := .va _) rfl (.cons ⟨_, rfl, rv⟩ (.cons (s := .un) trivial .nil))
  refine ⟨_, (pss_c (ps_set (i := 2) sc_walk_maybe.nd rfl (Or.inl rfl) (C8.pe_c c_walk hr (by omega) rfl (pa_cons (pv 0) (pa_cons (pe_ix ix_seq (pv 1) pe_int (fun _ _ => rfl)) pa_nil))))
  (pss_one (ps_ret (pe_tup (pa_cons pe_bl (pa_cons (pe_ix ix_seq (pv 2) pe_int (fun _ _ => rfl)) (pa_cons (pe_ix ix_seq (pv 2) pe_int (fun _ _ => rfl)) pa_nil))))))), ?_⟩
  have hz' : st.places.length + x.cnt ≤ 60 := hz
  refine e_callW S rfl (e_ixT o (i := 1) (ds := [.str "maybe", x.d]) (e_var o S (i := 1) rfl) (e_int o) rfl) pl hdp hL ok hz' fun v6 H6 k6 pl6 r6 => ?_
  have S7 := (S.step pl.un k6).putD (i := 2) r6
  simp only [walkC] at k
  refine s_ret o (e_tup o (a_cons o (e_bl o) (a_cons o (Wk.d1 o (x := (walkC x st).1) (e_var o S7 rfl)) (a_cons o (Wk.d2 o (x := (walkC x st).1) (e_var o S7 rfl)) (a_nil o))))) fun v9 H9 w9 r9 => k v9 H9 (k6.trans (w9.mono fun _ z => z.elim)) (pl6.keep w9) r9
/-- the written dict of the walks -/
structure TxtW (K : PySem.W.Frag) (w : World) (mg : Str → Option Value) (pW : Addr) : Prop where
  mgW : mg "WALKS" = some (.ref pW)
  at_ : ∀ p ∈ [(("place" : Str), ("walk_place" : Str)), ("sequence", "walk_sequence"), ("choice", "walk_choice"), ("any", "walk_repeated"), ("some", "walk_repeated"), ("maybe", "walk_maybe")], ∃ f, KDct K w pW p.1 (.ref f) ∧ mg p.2 = some (.ref f)
abbrev N_walk : List Str := ["places", "choice"]
abbrev s_walk : Stmt := top 10
theorem sc_walk : FnScope ["places", "choice"] ["places", "choice"] (defScope s_walk) := ⟨rfl, rfl, rfl, by decide +kernel, rfl, by decide +kernel, by decide +kernel⟩
theorem walk_step {C pW : Addr} {n lv : Nat} (F : DefA K mg "walk" s_walk) (TW : TxtW K w mg pW) (hlv : 2 ≤ lv) (c1 : C8.Cal P w K mg base 2 "walk_place" (spWk K C fun c => ∃ p l m k, c = .place p l m k) [])
    (c2 : C8.Cal P w K mg base lv "walk_sequence" (spWk K C fun c => ∃ cs, c = .seq cs ∧ Ch.deps cs + 1 ≤ n) []) (c3 : C8.Cal P w K mg base lv "walk_choice" (spWk K C fun c => ∃ cs, c = .alt cs ∧ Ch.deps cs + 1 ≤ n) [])
    (c4 : C8.Cal P w K mg base lv "walk_repeated" (spWk K C fun c => ∃ x, (c = .any x ∨ c = .some x) ∧ x.dep + 1 ≤ n) []) (c5 : C8.Cal P w K mg base lv "walk_maybe" (spWk K C fun c => ∃ x, c = .maybe x ∧ x.dep + 1 ≤ n) []) :
    C8.Cal P w K mg base (lv + 1) "walk" (spWk K C fun c => c.dep ≤ n) [] := by
  refine cal_by F sc_walk rfl rfl rfl (fun _ _ _ _ _ _ us hl => match us, hl with | [_, _], _ => rfl) spWk_len fun f cdv A outer s H vs Q E hr h => ?_
  obtain ⟨L, a, dx, p1, p2, v, c, st, rfl, hdp, hL, pl, rv, ok, hz, k⟩ := h
  have o := w0 K L
  have S : Sl (W0 K L) H (start N_walk [.ref a, v]) [.va (.ref a), .da c.d] := .cons (s := .va _) rfl (.cons ⟨_, rfl, rv⟩ .nil)
  refine ⟨_, (pss_one (ps_ret (pe_callF hr (Nat.le_refl _) (pe_ix ix_kdict (pe_glob (v := .ref pW) (by rfl) TW.mgW rfl) (pe_ix ix_seq (pv 1) pe_int (fun _ _ => rfl)) (fun _ _ => rfl)) (pa_cons (pv 0) (pa_cons (pv 1) pa_nil))))), ?_⟩
  have go : ∀ (nm fn : Str) (l : List PyData) (Pd : Ch → Prop) (lv' : Nat), c.d = .tuple (.str nm :: l) → (nm, fn) ∈ [(("place" : Str), ("walk_place" : Str)), ("sequence", "walk_sequence"), ("choice", "walk_choice"), ("any", "walk_repeated"), ("some", "walk_repeated"), ("maybe", "walk_maybe")] → C8.Cal P w K mg base lv' fn (spWk K C Pd) [] → lv' ≤ lv → Pd c →
      tRet (tCallF P w K mg base lv (tOp (rIxD K w) (tC (.ref pW)) (tOp (rIx K) (tVar 1) (tC (.int 0)))) (tCons (tVar 0) (tCons (tVar 1) tNil))) ⟨fun _ H' => Q .non H', Q, fun _ _ => False, fun _ _ => False⟩ (start N_walk [.ref a, v]) H := fun nm fn l Pd lv' hd hm cc hl hP => by
    obtain ⟨ff, kd, mgf⟩ := TW.at_ _ hm
    have cat := cal_at cc mgf
    have cat' : C8.CalAt P w K mg base lv ff (spWk K C Pd) := by
      obtain ⟨fd, ps, F, kp, b⟩ := cat.ex
      exact ⟨fd, ps, ⟨F.len, fun A outer s H args us vs Q E hr => F.run A outer s H args us vs Q E (hr.mono hl)⟩, kp, b⟩
    have hix : Ed (W0 K L) (tOp (rIx K) (tVar 1) (tC (.int 0))) (start N_walk [.ref a, v]) H (.str nm) := e_ixT o (i := 0) (ds := .str nm :: l) (by rw [← hd]; exact e_var o S (i := 1) rfl) (e_int o) rfl
    refine hix H (Kp.refl _ _) _ fun x H1 k1 r1 => ⟨pW, nm, .ref ff, rfl, r1.strI, kd, ff, spWk K C Pd, rfl, cat', ?_⟩
    exact e_callW (S.mono o k1) rfl (e_var o (S.mono o k1) (i := 1) rfl) (pl.keep k1) hP (k1.un hL) ok hz fun v' H' k' pl' r' => k v' H' ((k1.mono fun _ z => z.elim).trans k') pl' r'
  cases c with
  | place p l m kk => exact go "place" "walk_place" _ _ 2 rfl (by simp) c1 hlv ⟨p, l, m, kk, rfl⟩
  | seq cs => exact go "sequence" "walk_sequence" _ _ lv rfl (by simp) c2 (Nat.le_refl _) ⟨cs, rfl, hdp⟩
  | alt cs => exact go "choice" "walk_choice" _ _ lv rfl (by simp) c3 (Nat.le_refl _) ⟨cs, rfl, hdp⟩
  | any x => exact go "any" "walk_repeated" _ _ lv rfl (by simp) c4 (Nat.le_refl _) ⟨x, .inl rfl, hdp⟩
  | some x => exact go "some" "walk_repeated" _ _ lv rfl (by simp) c4 (Nat.le_refl _) ⟨x, .inr rfl, hdp⟩
  | maybe x => exact go "maybe" "walk_maybe" _ _ lv rfl (by simp) c5 (Nat.le_refl _) ⟨x, rfl, hdp⟩
theorem ok_walk {C pW : Addr} (F : DefA K mg "walk" s_walk) (TW : TxtW K w mg pW) (T : TxtP K C) (F1 : DefA K mg "walk_place" s_walk_place) (F2 : DefA K mg "walk_sequence" s_walk_sequence) (F3 : DefA K mg "walk_choice" s_walk_choice) (F4 : DefA K mg "walk_repeated" s_walk_repeated) (F5 : DefA K mg "walk_maybe" s_walk_maybe)
    (c_joined : C8.Cal P w K mg base 1 "joined" (spD K Rjoined) []) (c_add : C8.Met P w K mg base 1 C "add" (spAdd K C) []) (c_link : C8.Met P w K mg base 2 C "link" (spLink K C) []) : ∀ n, C8.Cal P w K mg base (2 * n + 2) "walk" (spWk K C fun c => c.dep + 1 ≤ n) []
  | 0 => by
    refine cal_by F sc_walk rfl rfl rfl (fun _ _ _ _ _ _ us hl => match us, hl with | [_, _], _ => rfl) spWk_len fun f cdv A outer s H vs Q E hr h => ?_
    obtain ⟨L, a, dx, p1, p2, v, c, st, rfl, hdp, _⟩ := h
    exact absurd hdp (by omega)
  | n + 1 => by
    have ih := ok_walk F TW T F1 F2 F3 F4 F5 c_joined c_add c_link n
    have e : (fun c : Ch => c.dep ≤ n) = fun c => c.dep + 1 ≤ n + 1 := funext fun c => propext ⟨fun h => by omega, fun h => by omega⟩
    have := walk_step (n := n) (lv := 2 * n + 3) F TW (by omega) (ok_walk_place F1 c_add) (ok_walk_sequence F2 (by omega) c_link c_joined ih) (ok_walk_choice F3 (by omega) c_joined ih) (ok_walk_repeated F4 (by omega) c_link ih) (ok_walk_maybe F5 ih)
    rw [e] at this
    exact this
end
end SR

namespace SR
open PySem PySem.Spec PyProof.Rows L2
def sortI (l : List Int) : List Int := l.mergeSort fun a b => decide (a ≤ b)
theorem sortI_perm (l : List Int) : (sortI l).Perm l := List.mergeSort_perm _ _
theorem sortI_sorted (l : List Int) : (sortI l).Pairwise (· ≤ ·) := by
  have := List.pairwise_mergeSort (le := fun a b : Int => decide (a ≤ b)) (fun a b c h1 h2 => by
    simp only [decide_eq_true_eq] at *
    omega) (fun a b => by
    simp only [Bool.or_eq_true, decide_eq_true_eq]
    omega) l
  exact this.imp fun h => of_decide_eq_true h
theorem sortI_unique {l m : List Int} (hp : m.Perm l) (hs : m.Pairwise (· ≤ ·)) : m = sortI l :=
  List.Perm.eq_of_pairwise (le := (· ≤ ·)) (fun a b _ _ h1 h2 => by omega) hs (sortI_sorted l) (hp.trans (sortI_perm l).symm)
/-- what a state is: may it end; which places may follow -/
abbrev Kst := Bool × List Int
def Kst.d (k : Kst) : PyData := .tuple [.bool k.1, .tuple (k.2.map .int)]
def keysTo (e : Bool) (lasts : List Int) (fol : List (List Int)) (n : Nat) : List Kst := (List.range n).map fun i : Nat => (if i = 0 then e else decide ((i : Int) ∈ lasts), sortI (fol.getD i []))
def dedup (ks : List Kst) : List Kst := ks.foldl (fun st k => if k ∈ st then st else st ++ [k]) []
def movesOf (keys states : List Kst) (places : List Plc) (s : Nat) (n : Int) : Mv :=
  let x := places.getD (n - 1).toNat ⟨0, 0, 0, 0⟩
  ⟨s, (states.idxOf (keys.getD n.toNat (false, [])) : Nat), x.p, x.l, x.m, x.c⟩
def movesTo (keys states : List Kst) (places : List Plc) (i : Nat) : List Mv := (List.range i).flatMap fun s => ((states.getD s (false, [])).2).map fun n => movesOf keys states places s n
def mach (c : Ch) : Mch :=
  let r := walkC c ⟨[], [[]]⟩
  let fol := linkF r.2.fol [0] r.1.f
  let keys := keysTo r.1.e r.1.l fol fol.length
  let states := dedup keys
  ⟨states.map (·.1), movesTo keys states r.2.places states.length⟩
theorem eqvB (a b : Bool) : PyData.eqv (.bool a) (.bool b) = decide (a = b) := by cases a <;> cases b <;> rfl
theorem eqv_ints : ∀ a b : List Int, PyData.eqvAll (a.map .int) (b.map .int) = decide (a = b)
  | [], [] => rfl
  | [], _ :: _ => by simp [PyData.eqvAll]
  | _ :: _, [] => by simp [PyData.eqvAll]
  | x :: a, y :: b => by
    show (PyData.eqv (.int x) (.int y) && PyData.eqvAll (a.map .int) (b.map .int)) = _
    rw [eqv_ints a b, Bool.eq_iff_iff]
    simp [PyData.eqv]
theorem eqv_kst (a b : Kst) : PyData.eqv a.d b.d = decide (a = b) := by
  show (PyData.eqv (.bool a.1) (.bool b.1) && (PyData.eqvAll (a.2.map .int) (b.2.map .int) && true)) = _
  rw [eqvB, eqv_ints, Bool.and_true, Bool.eq_iff_iff]
  simp [Prod.ext_iff]
theorem lay_ints : ∀ l : List Int, PyData.canLayAll0 (l.map .int) = true
  | [] => rfl
  | x :: l => by
    show (true && PyData.canLayAll0 (l.map .int)) = true
    rw [lay_ints l]
    rfl
theorem shaped_kst (k : Kst) : SeqAt.shaped k.d = true := by
  unfold SeqAt.shaped
  rw [Bool.and_eq_true, decide_eq_true_eq]
  constructor
  · show (true && (PyData.canLayAll0 (k.2.map .int) && true)) = true
    rw [lay_ints]
    rfl
  · show max 0 (max (PyData.depthAll (k.2.map .int) + 1) 0) + 1 ≤ 64
    rw [PySem.W.depth_ints]
    decide
theorem shaped_ksts (ks : List Kst) : SeqAt.shaped (.list (ks.map Kst.d)) = true := by
  unfold SeqAt.shaped
  rw [Bool.and_eq_true, decide_eq_true_eq]
  constructor
  · show PyData.canLayAll0 (ks.map Kst.d) = true
    induction ks with
    | nil => rfl
    | cons k r ih =>
      show (k.d.canLay0 && PyData.canLayAll0 (r.map Kst.d)) = true
      rw [ih, SeqAt.canLay_of_shaped (shaped_kst k)]
      rfl
  · show PyData.depthAll (ks.map Kst.d) + 1 ≤ 64
    have : PyData.depthAll (ks.map Kst.d) ≤ 2 := by
      induction ks with
      | nil => exact Nat.zero_le _
      | cons k r ih =>
        show max k.d.depth (PyData.depthAll (r.map Kst.d)) ≤ 2
        refine Nat.max_le.mpr ⟨?_, ih⟩
        show max 0 (max (PyData.depthAll (k.2.map .int) + 1) 0) + 1 ≤ 2
        rw [PySem.W.depth_ints]
        decide
    omega
theorem any_kst (ks : List Kst) (k : Kst) : (ks.map Kst.d).any (fun z => PyData.eqv z k.d) = decide (k ∈ ks) := by
  rw [List.any_map, Bool.eq_iff_iff, List.any_eq_true, decide_eq_true_eq]
  constructor
  · intro ⟨z, hz, h⟩
    have h' : PyData.eqv z.d k.d = true := h
    rw [eqv_kst, decide_eq_true_eq] at h'
    exact h' ▸ hz
  · intro h
    exact ⟨k, h, by show PyData.eqv k.d k.d = true; rw [eqv_kst, decide_eq_true rfl]⟩
section
variable {P : Program} {w : World} {K : PySem.W.Frag} {mg : Str → Option Value} {base : Heap}
/-- sorted(list of ints) -/
theorem e_sortI {L : Addr → Prop} {H : Hp} {σ : L2.St} {te : TE} {l : List Int} (hL : ∀ a, L a → H a ≠ none) (h : Ed (W0 K L) te σ H (ilist l)) (hl : l.length < 64) : Ed (W0 K L) (tCB (rSorted K) (tCons te tNil)) σ H (ilist (sortI l)) := fun H1 w Q q =>
  h H1 w _ fun v H2 w2 p => by
    obtain ⟨a, xs, rfl, n, e, r⟩ := p.lstI
    have exs := DTs.intsI r
    subst exs
    refine ⟨a, l, rfl, SqL.of e, hl, fun ns D hp hs hD => ?_⟩
    have := sortI_unique hp hs
    subst this
    exact q _ _ (w2.trans (Kp.new hD)) (.lst (fun z => hL D z ((w.trans w2).free hD)) upd_same DTs.ints)
/-- x in a list of ints -/
theorem e_inI {C : Wd} (o : C.Ok) {H : Hp} {σ : L2.St} {ta tb : TE} {x : Int} {zs : List Int} (ha : Ed C ta σ H (.int x)) (hb : Ed C tb σ H (ilist zs)) : Ed C (tOp (rIn C.K false) ta tb) σ H (.bool (decide (x ∈ zs))) := fun H1 w Q q =>
  ha H1 w _ fun u H2 w2 r => hb H2 (o.trans w w2) _ fun y H3 w3 p => by
    obtain ⟨a, xs, rfl, n, e, r'⟩ := p.lstI
    have exs := DTs.intsI r'
    subst exs
    rw [r.intI]
    refine ⟨a, _, rfl, .inl (SqL.of e), rfl, by rw [List.all_map]; exact List.all_eq_true.mpr fun _ _ => rfl, ?_⟩
    have e : inV (.int x) (zs.map V.int) = decide (x ∈ zs) := by
      unfold inV
      rw [List.any_map, Bool.eq_iff_iff, List.any_eq_true, decide_eq_true_eq]
      constructor
      · intro ⟨z, hz, h⟩
        have : z = x := beq_iff_eq.mp h
        rw [← this]; exact hz
      · intro h
        exact ⟨x, h, beq_iff_eq.mpr rfl⟩
    rw [if_neg Bool.false_ne_true, e]
    exact q _ H3 (o.trans w2 w3) (.bl _)
/-- an instance whose lists are not written any more -/
structure PlS (K : PySem.W.Frag) (L : Addr → Prop) (H : Hp) (C a dx p1 p2 : Addr) (st : Pl) : Prop where
  ob : H a = some (.ins C dx [("places", .ref p1), ("followers", .ref p2)])
  ps : DT K L H (.ref p1) (.list (st.places.map Plc.d))
  fs : DT K L H (.ref p2) (.list (st.fol.map ilist))
theorem PlS.own {L : Addr → Prop} {H : Hp} {C a dx p1 p2 q : Addr} {st : Pl} (h : PlS K L H C a dx p1 p2 st) (hq : H q = none) (u : HO) : PlS K (Lp L q) (upd H q u) C a dx p1 p2 st :=
  ⟨by rw [upd_ne (fun e => by rw [← e, h.ob] at hq; cases hq)]; exact h.ob, DT.own h.ps hq u, DT.own h.fs hq u⟩
theorem PlS.step {L M : Addr → Prop} {H H' : Hp} {C a dx p1 p2 : Addr} {st : Pl} (h : PlS K L H C a dx p1 p2 st) (hM : ∀ a, M a → L a) (k : Kp M H H') (n : ¬ M a) : PlS K L H' C a dx p1 p2 st := ⟨k.ins n h.ob, DT.step hM k h.ps, DT.step hM k h.fs⟩
theorem PlS.less {L N : Addr → Prop} {H : Hp} {C a dx p1 p2 : Addr} {st : Pl} (h : PlS K L H C a dx p1 p2 st) (hN : ∀ a, N a → L a) : PlS K N H C a dx p1 p2 st := ⟨h.ob, DT.less hN h.ps, DT.less hN h.fs⟩
theorem PlS.f1 {L : Addr → Prop} {H : Hp} {C a dx p1 p2 : Addr} {st : Pl} {σ : L2.St} {ta : TE} (h : PlS K L H C a dx p1 p2 st) (T : TxtP K C) (ha : Ee (W0 K L) ta σ H (.ref a)) : Ed (W0 K L) (tFld K ta "places") σ H (.list (st.places.map Plc.d)) :=
  e_of (w0 K L) (e_fld (w0 K L) ha (fun H' k => k.ins (fun z => z.elim) h.ob) T.cl T.nP rfl) h.ps
theorem PlS.f2 {L : Addr → Prop} {H : Hp} {C a dx p1 p2 : Addr} {st : Pl} {σ : L2.St} {ta : TE} (h : PlS K L H C a dx p1 p2 st) (T : TxtP K C) (ha : Ee (W0 K L) ta σ H (.ref a)) : Ed (W0 K L) (tFld K ta "followers") σ H (.list (st.fol.map ilist)) :=
  e_of (w0 K L) (e_fld (w0 K L) ha (fun H' k => k.ins (fun z => z.elim) h.ob) T.cl T.nF rfl) h.fs
theorem dedup_snoc (ks : List Kst) (k : Kst) : dedup (ks ++ [k]) = if k ∈ dedup ks then dedup ks else dedup ks ++ [k] := by
  unfold dedup
  rw [List.foldl_append]
  rfl
theorem dedup_foldl (k : Kst) : ∀ (ks st : List Kst), k ∈ ks.foldl (fun st k => if k ∈ st then st else st ++ [k]) st ↔ k ∈ st ∨ k ∈ ks
  | [], st => by simp
  | x :: r, st => by
    rw [List.foldl_cons, dedup_foldl k r]
    split
    · rename_i h
      constructor
      · rintro (a | a)
        · exact .inl a
        · exact .inr (List.mem_cons_of_mem _ a)
      · rintro (a | a)
        · exact .inl a
        · rcases List.mem_cons.mp a with rfl | a
          · exact .inl h
          · exact .inr a
    · rw [List.mem_append, List.mem_singleton, List.mem_cons, or_assoc]
theorem dedup_mem (ks : List Kst) (k : Kst) : k ∈ dedup ks ↔ k ∈ ks := by
  unfold dedup
  rw [dedup_foldl]
  simp
theorem dedup_len : ∀ (ks st : List Kst), (ks.foldl (fun st k => if k ∈ st then st else st ++ [k]) st).length ≤ st.length + ks.length
  | [], st => by simp
  | x :: r, st => by
    rw [List.foldl_cons, List.length_cons]
    have := dedup_len r (if x ∈ st then st else st ++ [x])
    by_cases h : x ∈ st
    · rw [if_pos h] at this ⊢
      omega
    · rw [if_neg h] at this ⊢
      rw [List.length_append, List.length_singleton] at this
      omega
theorem keysTo_succ (e : Bool) (lasts : List Int) (fol : List (List Int)) (n : Nat) : keysTo e lasts fol (n + 1) = keysTo e lasts fol n ++ [(if n = 0 then e else decide ((n : Int) ∈ lasts), sortI (fol.getD n []))] := by
  unfold keysTo
  rw [List.range_succ, List.map_append]
  rfl
theorem movesTo_succ (keys states : List Kst) (places : List Plc) (i : Nat) : movesTo keys states places (i + 1) = movesTo keys states places i ++ ((states.getD i (false, [])).2).map fun n => movesOf keys states places i n := by
  unfold movesTo
  rw [List.range_succ, List.flatMap_append]
  simp
abbrev N_machine : List Str := ["choice", "places", "empty", "firsts", "lasts", "keys", "number", "states", "key", "moves", "state", "_", "part", "least", "most", "cost"]
abbrev s_machine : Stmt := top 11
theorem sc_machine : FnScope ["choice", "places", "empty", "firsts", "lasts", "keys", "number", "states", "key", "moves", "state", "_", "part", "least", "most", "cost"] ["choice"] (defScope s_machine) := ⟨rfl, rfl, rfl, by decide +kernel, rfl, by decide +kernel, by decide +kernel⟩
def Rmachine (ds : List PyData) (d : PyData) : Prop := ∃ c : Ch, c.dep ≤ 3 ∧ c.cnt ≤ 50 ∧ ds = [c.d] ∧ d = (mach c).d
theorem ok_machine {C : Addr} (F : DefA K mg "machine" s_machine) (T : TxtP K C) (B : Blt mg) (c_Places : C8.Mak P w K mg base 1 "Places" C (spInitP C) []) (c_Places_link : C8.Met P w K mg base 2 C "link" (spLink K C) []) (c_walk : C8.Cal P w K mg base 10 "walk" (spWk K C fun c => c.dep + 1 ≤ 4) []) :
    C8.Cal P w K mg base 11 "machine" (spD K Rmachine) [] := by
  refine cal_by F sc_machine rfl rfl rfl (fun _ _ _ _ _ _ us hl => match us, hl with | [_], _ => rfl) (spD_len fun ds d ⟨_, _, _, e, _⟩ => by rw [e]; rfl) fun f cdv A outer s H vs Q E hr h => ?_
  obtain ⟨L, ds, d, hL, hd, ⟨c, hdp, hcn, rfl, rfl⟩, k⟩ := h
  have o := w0 K L
  have hu4 : _ + 64 < cLine := hr.units
  have hu5 : _ + 65 < cLine := u65 hr
  have S := Sl.start (C := W0 K L) (N := N_machine) hd
  refine ⟨_, (pss_c (ps_set (i := 1) sc_machine.nd rfl (Or.inl rfl) (pe_mk0 c_Places hr (by omega) rfl))
  (pss_c (ps_asg (C8.pe_c c_walk hr (by omega) rfl (pa_cons (pv 1) (pa_cons (pv 0) pa_nil))) (pg_tup rfl (pgs_cons (pg_name (i := 2) sc_machine.nd rfl (Or.inl rfl)) (pgs_cons (pg_name (i := 3) sc_machine.nd rfl (Or.inl rfl)) (pgs_cons (pg_name (i := 4) sc_machine.nd rfl (Or.inl rfl)) pgs_nil)))))
  (pss_c (ps_expr (C8.pe_mt c_Places_link hr (by omega) (pv 1) (pa_cons (pe_lst (pa_cons pe_int pa_nil)) (pa_cons (pv 3) pa_nil))))
  (pss_c (ps_set (i := 5) sc_machine.nd rfl (Or.inl rfl) (pe_lst (pa_cons (pe_tup (pa_cons (pv 2) (pa_cons (pe_callTy call_tuple_of (by rfl) B.tuple (by decide +kernel) (pa_cons (pe_callB cr_sorted (by rfl) B.sorted (by decide +kernel) (pa_cons (pe_ix ix_seq (pe_fld (pv 1) rfl) pe_int (fun _ _ => rfl)) pa_nil)) pa_nil)) pa_nil))) pa_nil)))
  (pss_c (ps_for PassesOwn.never rfl (pi_range2 (by rfl) B.range (pa_cons pe_int (pa_cons (pe_callB call_len (by rfl) B.len PySem.boot_len (pa_cons (pe_fld (pv 1) rfl) pa_nil)) pa_nil))) (pg_name (i := 6) sc_machine.nd rfl (Or.inl rfl)) (pss_one (ps_expr (pe_bm PySem.F.plainAttrs_list PySem.F.slot_list_append PySem.F.type_list_append mt_append (pv 5) (pa_cons (pe_tup (pa_cons (pe_cmpR op_in_seq (pv 6) (pv 4) (by rfl)) (pa_cons (pe_callTy call_tuple_of (by rfl) B.tuple (by decide +kernel) (pa_cons (pe_callB cr_sorted (by rfl) B.sorted (by decide +kernel) (pa_cons (pe_ix ix_seq (pe_fld (pv 1) rfl) (pv 6) (fun _ _ => rfl)) pa_nil)) pa_nil)) pa_nil))) pa_nil)))))
  (pss_c (ps_set (i := 7) sc_machine.nd rfl (Or.inl rfl) (pe_lst pa_nil))
  (pss_c (ps_for PassesOwn.never rfl (pi_list (pv 5)) (pg_name (i := 8) sc_machine.nd rfl (Or.inl rfl)) (pss_one (ps_if (pt_cmpR (op_notInD hu5) (pv 8) (pv 7) (by rfl)) (pss_one (ps_expr (pe_bm PySem.F.plainAttrs_list PySem.F.slot_list_append PySem.F.type_list_append mt_append (pv 7) (pa_cons (pv 8) pa_nil)))) pss_nil)))
  (pss_c (ps_set (i := 9) sc_machine.nd rfl (Or.inl rfl) (pe_lst pa_nil))
  (pss_c (ps_for PassesOwn.never rfl (pi_range1 (by rfl) B.range (pa_cons (pe_callB call_len (by rfl) B.len PySem.boot_len (pa_cons (pv 7) pa_nil)) pa_nil)) (pg_name (i := 10) sc_machine.nd rfl (Or.inl rfl)) (pss_one (ps_for PassesOwn.never rfl (pi_tup (pe_ix ix_seq (pe_ix ix_seq (pv 7) (pv 10) (fun _ _ => rfl)) pe_int (fun _ _ => rfl))) (pg_name (i := 6) sc_machine.nd rfl (Or.inl rfl)) (pss_c (ps_asg (pe_ix ix_seq (pe_fld (pv 1) rfl) (pe_op op_sub (pv 6) pe_int) (fun _ _ => rfl)) (pg_tup rfl (pgs_cons (pg_name (i := 11) sc_machine.nd rfl (Or.inl rfl)) (pgs_cons (pg_name (i := 12) sc_machine.nd rfl (Or.inl rfl)) (pgs_cons (pg_name (i := 13) sc_machine.nd rfl (Or.inl rfl)) (pgs_cons (pg_name (i := 14) sc_machine.nd rfl (Or.inl rfl)) (pgs_cons (pg_name (i := 15) sc_machine.nd rfl (Or.inl rfl)) pgs_nil)))))))
  (pss_one (ps_expr (pe_bm PySem.F.plainAttrs_list PySem.F.slot_list_append PySem.F.type_list_append mt_append (pv 9) (pa_cons (pe_tup (pa_cons (pv 10) (pa_cons (pe_bm PySem.F.plainAttrs_list PySem.F.slot_list_index PySem.F.type_list_index (mt_indexD hu5) (pv 7) (pa_cons (pe_ix ix_seq (pv 5) (pv 6) (fun _ _ => rfl)) pa_nil)) (pa_cons (pv 12) (pa_cons (pv 13) (pa_cons (pv 14) (pa_cons (pv 15) pa_nil))))))) pa_nil))))))))
  (pss_one (ps_ret (pe_tup (pa_cons (pe_callTy call_tuple_of (by rfl) B.tuple (by decide +kernel) (pa_cons (pe_lc (own := [("key", 8)]) rfl sc_machine.nd (pi_list (pv 7)) (blkOk_by (N := N_machine) (sc := defScope s_machine) (by decide +kernel)) (fun _ _ _ _ _ => (pg_name (i := 8) sc_machine.nd rfl (Or.inl rfl))) (fun _ _ _ _ _ => pts_nil) (fun _ _ _ _ _ => (pe_ix (r := rIx K) ix_seq (pv 8) pe_int (fun _ _ => rfl)))) pa_nil)) (pa_cons (pe_callTy call_tuple_of (by rfl) B.tuple (by decide +kernel) (pa_cons (pv 9) pa_nil)) pa_nil)))))))))))))), ?_⟩
  -- places = Places()
  change ∀ x dx, H x = none → H dx = none → dx ≠ x → _
  intro a dx ha hdx hne
  refine ⟨a, dx, rfl, upd_same, fun p1 p2 q H1 h1 h2 h3 n12 n1q n2q o1' o2' o3' o4' k1 => ⟨rfl, ?_⟩⟩
  have fr : ∀ b, upd (upd H dx (.own a)) a (.ins C dx []) b = none → H b = none := fun b hb => by
    by_cases e1 : b = a
    · rw [e1]; exact ha
    · rw [upd_ne e1] at hb
      by_cases e2 : b = dx
      · rw [e2]; exact hdx
      · rw [upd_ne e2] at hb; exact hb
  have k01 : Kp No H H1 := by
    have kn : Kp No H (upd (upd H dx (.own a)) a (.ins C dx [])) := (Kp.new hdx).trans (Kp.new (by rw [upd_ne (fun e => hne e.symm)]; exact ha))
    exact kn.hide k1 fun c e => .inl (e ▸ ha)
  have f1 := fr p1 h1
  have f2 := fr p2 h2
  have f3 := fr q h3
  have un1 : ∀ x, Lp (Lp L p1) p2 x → H1 x ≠ none := fun x hx => by
    rcases hx with (hx | rfl) | rfl
    · exact k01.un hL x hx
    · rw [o2']; intro z; cases z
    · rw [o3']; intro z; cases z
  have o1 := w0 K (Lp (Lp L p1) p2)
  have S1 : Sl (W0 K (Lp (Lp L p1) p2)) H1 _ _ := (S.to (C' := W0 K (Lp (Lp L p1) p2)) (H' := H1) fun v d h => DT.step (M := No) (fun _ z => z.elim) k01 (DT.more (L := L) (fun x hx => by
    rcases hx with (hx | rfl) | rfl
    · exact .inl hx
    · exact .inr f1
    · exact .inr f2) h)).putV (i := 1) (v := .ref a)
  have pl1 : PlAt K (Lp (Lp L p1) p2) H1 C a dx p1 p2 ⟨[], [[]]⟩ := by
    refine ⟨o1', .inl (.inr rfl), .inr rfl, n12, ⟨[], o2', .nil⟩, ⟨[.ref q], o3', .cons (.lst (fun z => ?_) o4' .nil) .nil⟩⟩
    rcases z with (z | z) | z
    · exact hL q z f3
    · exact n1q z.symm
    · exact n2q z.symm
  have ok0 : Pl.Ok ⟨[], [[]]⟩ := ⟨rfl, fun l hl => by rw [List.mem_singleton.mp hl]; exact NumL.nil _⟩
  -- walk
  refine e_callW S1 rfl (e_var o1 S1 (i := 0) rfl) pl1 (by show c.dep + 1 ≤ 4; omega) un1 ok0 (by show 0 + c.cnt ≤ 60; omega) fun v2 H2 k2 pl2 r2 => ?_
  have wk := walkC_ok c ⟨[], [[]]⟩ ok0
  have hpl : (walkC c ⟨[], [[]]⟩).2.places.length = c.cnt := by rw [wk.len]; exact Nat.zero_add _
  unfold mach at k
  dsimp only at k
  generalize walkC c ⟨[], [[]]⟩ = R at pl2 r2 wk hpl k
  refine g_three r2 fun x y z rx ry rz => ?_
  have S2 := (((S1.step pl1.un k2).putD (i := 2) rx).putD (i := 3) ry).putD (i := 4) rz
  have un2 := k2.un un1
  have f0 := wk.so.len
  refine s_link (lasts := [0]) S2 rfl (e_lst (ds := [.int 0]) o1 un2 (a_cons o1 (e_int o1) (a_nil o1))) (e_var o1 S2 rfl) pl2 un2 wk.so (by omega) wk.wk.f (fun i hi => by
    have : i = 0 := by simpa using hi
    omega) fun H3 k3 pl3 => ?_
  have ok3 := wk.so.link (lasts := [0]) wk.wk.f
  have kE : Kp No H H3 := k01.hide (k2.trans k3) fun c e => by
    rcases e with rfl | rfl
    · exact .inl f1
    · exact .inl f2
  have S3 := (S2.step pl1.un k3).lessL (N := L) fun a z => .inl (.inl z)
  have nL : ∀ {b}, H b = none → ¬ L b := fun {b} hb z => hL b z hb
  have pS : PlS K L H3 C a dx p1 p2 (R.2.link [0] R.1.f) := by
    obtain ⟨xs, h1, r1⟩ := pl3.ps
    obtain ⟨ys, h2, r2⟩ := pl3.fs
    exact ⟨pl3.ob, .lst (nL f1) h1 (DTs.less (fun a z => .inl (.inl z)) r1), .lst (nL f2) h2 (DTs.less (fun a z => .inl (.inl z)) r2)⟩
  have eF : (R.2.link [0] R.1.f).fol = linkF R.2.fol [0] R.1.f := rfl
  have eP : (R.2.link [0] R.1.f).places = R.2.places := rfl
  generalize hst : R.2.link [0] R.1.f = st at pS ok3 eF eP
  rw [← eF, ← eP] at k
  rw [← eP] at hpl
  have hfl : st.fol.length = c.cnt + 1 := by rw [ok3.len, hpl]
  have un3 := kE.un hL
  clear S1 S2 un1 un2 pl1 pl2 pl3 r2 hst k1 k2 k3
  have hnum : ∀ i, NumL c.cnt (st.fol.getD i []) := fun i => by
    rw [List.getD_eq_getElem?_getD]
    cases e : st.fol[i]? with
    | none => exact NumL.nil _
    | some l => rw [← hpl]; exact ok3.num l (List.mem_of_getElem? e)
  -- the sorted followers of a place
  have srt : ∀ {L' : Addr → Prop} {H' : Hp} {σ' : L2.St} {ti : TE} {i : Nat}, (∀ a, L' a → H' a ≠ none) → PlS K L' H' C a dx p1 p2 st → Ee (W0 K L') (tVar 1) σ' H' (.ref a) → Ed (W0 K L') ti σ' H' (.int (i : Int)) → i < st.fol.length → Ed (W0 K L') (tCB (fun xs H Q => ∃ p ys, xs = [.ref p] ∧ ((SqL K H p ys ∧ ∀ l, H l = none → Q (.ref l) (upd H l (.tup ys))) ∨ (SqT K H p ys ∧ Q (.ref p) H))) (tCons (tCB (rSorted K) (tCons (tOp (rIx K) (tFld K (tVar 1) "followers") ti) tNil)) tNil)) σ' H' (.tuple ((sortI (st.fol.getD i [])).map .int)) := fun {L' H' σ' ti i} hL' ps' ha' hi' hlt => by
    refine e_tupL (w0 K L') (e_sortI hL' (e_ixL (w0 K L') (i := i) (ps'.f2 T ha') hi' ?_) ?_)
    · rw [List.getElem?_map, List.getElem?_eq_getElem hlt, List.getD_eq_getElem?_getD, List.getElem?_eq_getElem hlt]
      rfl
    · have := (hnum i).len
      omega
  -- keys
  refine s_newL (i := 5) S3 (ds := (keysTo R.1.e R.1.l st.fol 1).map Kst.d) (a_cons o (e_tup o (a_cons o (e_var o S3 rfl) (a_cons o (srt (i := 0) un3 pS (e_val o S3 rfl) (e_int o) (by omega)) (a_nil o)))) (a_nil o)) (by unfold keysTo; simp) fun q1 vs4 H4 k4 hq1 S4 r4 => ?_
  have o4 := w0 K (Lp L q1)
  have hM4 : ∀ a, a = q1 → Lp L q1 a := fun a e => .inr e
  have ps4 := (pS.step (M := No) (fun _ z => z.elim) k4 (fun z => z)).own hq1 (.lst vs4)
  have hx4 : upd H4 q1 (.lst vs4) q1 = some (.lst vs4) := upd_same
  have un4 : ∀ a, Lp L q1 a → upd H4 q1 (.lst vs4) a ≠ none := own_un (k4.un un3) _
  have kE4 : ∀ {H'}, Kp (· = q1) (upd H4 q1 (.lst vs4)) H' → Kp No H H' := fun {H'} k' => (kE.trans k4).trans ((Kp.new hq1).loc hq1 k')
  have fq1 : H q1 = none := (kE.trans k4).free hq1
  have naq1 : a ≠ q1 := fun e => by
    have := ps4.ob
    rw [e, hx4] at this
    cases this
  generalize upd H4 q1 (.lst vs4) = H5 at S4 r4 ps4 hx4 un4 kE4 ⊢
  refine s_for2 o4 (a := 1) (b := (st.fol.map ilist).length) (a_cons o4 (e_int o4) (a_cons o4 (e_lenL o4 (ps4.f2 T (e_val o4 S4 rfl))) (a_nil o4))) (by omega) (by omega) (by omega) (by rw [List.length_map]; omega)
    (fun j σ' H' => Kp (· = q1) H5 H' ∧ ∃ b6 b7 b8 b9 b10 b11 b12 b13 b14 b15 xs, Sl (W0 K (Lp L q1)) H' σ' [.da c.d, .va (.ref a), .da (.bool R.1.e), .da (ilist R.1.f), .da (ilist R.1.l), .va (.ref q1), b6, b7, b8, b9, b10, b11, b12, b13, b14, b15] ∧ H' q1 = some (.lst xs) ∧ DTs K (Lp L q1) H' xs ((keysTo R.1.e R.1.l st.fol (j + 1)).map Kst.d))
    (fun H' w' => ⟨w'.mono fun _ z => z.elim, .un, .un, .un, .un, .un, .un, .un, .un, .un, .un, vs4, S4.mono o4 w', w'.lst (fun z => z.elim) hx4, DTs.mono o4 w' r4⟩) (fun j σ6 H6 hj ⟨k6, b6, b7, b8, b9, b10, b11, b12, b13, b14, b15, xs, S6, hx6, r6⟩ => ?_) (fun σ6 H6 ⟨k6, b6, b7, b8, b9, b10, b11, b12, b13, b14, b15, xs, S6, hx6, r6⟩ => ?_)
  · rw [List.length_map] at hj
    have S7 := S6.putD (i := 6) (DT.int ((1 : Int) + (j : Int)))
    have e1 : (1 : Int) + (j : Int) = ((j + 1 : Nat) : Int) := by omega
    have hl6 := r6.length
    rw [List.length_map] at hl6
    have hlk : (keysTo R.1.e R.1.l st.fol (j + 1)).length = j + 1 := by unfold keysTo; simp
    refine s_app S7 rfl hx6 (lt_size (by omega)) (e_tup o4 (a_cons o4 (e_inI o4 (e_var o4 S7 rfl) (e_var o4 S7 rfl)) (a_cons o4 (srt (i := j + 1) (k6.un un4) (ps4.step hM4 k6 naq1) (e_val o4 S7 rfl) (by rw [← e1]; exact e_var o4 S7 rfl) (by omega)) (a_nil o4)))) fun v7 H7 w7 r7 hx7 => ?_
    have k8 : Kp (· = q1) H7 (upd H7 q1 (.lst (xs ++ [v7]))) := (Kp.refl _ _).app hx7
    refine ⟨(k6.trans (w7.mono fun _ z => z.elim)).trans k8, _, _, _, _, _, _, _, _, _, _, _, (S7.mono o4 w7).step hM4 k8, upd_same, ?_⟩
    rw [keysTo_succ, List.map_append]
    refine (DTs.step hM4 k8 (DTs.mono o4 w7 r6)).append (.cons ?_ .nil)
    rw [if_neg (Nat.succ_ne_zero j), ← e1]
    exact DT.step hM4 k8 r7
  · have ej : (((st.fol.map ilist).length : Int) - 1).toNat + 1 = st.fol.length := by rw [List.length_map]; omega
    rw [ej] at r6
    -- keys stands
    have kE6 := kE4 k6
    have ps6 := (ps4.step hM4 k6 naq1).less (N := L) fun a z => .inl z
    have rk : DT K L H6 (.ref q1) (.list ((keysTo R.1.e R.1.l st.fol st.fol.length).map Kst.d)) := .lst (nL fq1) hx6 (DTs.less (fun a z => .inl z) r6)
    have S8 := (S6.lessL (N := L) fun a z => .inl z).reda (i := 5) rfl rk
    generalize hks : keysTo R.1.e R.1.l st.fol st.fol.length = keys at rk S8 k
    have hkl : keys.length = c.cnt + 1 := by rw [← hks, ← hfl]; unfold keysTo; simp
    have hkn : ∀ x ∈ keys, NumL c.cnt x.2 := fun x hx => by
      rw [← hks] at hx
      obtain ⟨i, _, rfl⟩ := List.mem_map.mp hx
      have := hnum i
      exact ⟨(sortI_perm _).nodup_iff.mpr this.nd, fun j hj => this.rg j ((sortI_perm _).mem_iff.mp hj)⟩
    clear S6 r6 S4 r4 ps4 un4 hx4 hx6 S3 pS
    -- states
    refine s_new (i := 7) S8 fun q2 hq2 S9 => ?_
    have o9 := w0 K (Lp L q2)
    have hM9 : ∀ a, a = q2 → Lp L q2 a := fun a e => .inr e
    have ps9 := ps6.own hq2 (.lst [])
    have hx9 : upd H6 q2 (.lst []) q2 = some (.lst []) := upd_same
    have kE9 : ∀ {H'}, Kp (· = q2) (upd H6 q2 (.lst [])) H' → Kp No H H' := fun {H'} k' => kE6.trans ((Kp.new hq2).loc hq2 k')
    have fq2 : H q2 = none := kE6.free hq2
    have naq2 : a ≠ q2 := fun e => by
      have := ps9.ob
      rw [e, hx9] at this
      cases this
    generalize upd H6 q2 (.lst []) = H9 at S9 ps9 hx9 kE9 ⊢
    refine s_forN o9 (ds := keys.map Kst.d) (M := (· = q2)) (e_var o9 S9 rfl) (fun i σ' H' => Kp (· = q2) H9 H' ∧ ∃ b6 b8 b9 b10 b11 b12 b13 b14 b15 xs, Sl (W0 K (Lp L q2)) H' σ' [.da c.d, .va (.ref a), .da (.bool R.1.e), .da (ilist R.1.f), .da (ilist R.1.l), .da (.list (keys.map Kst.d)), b6, .va (.ref q2), b8, b9, b10, b11, b12, b13, b14, b15] ∧ H' q2 = some (.lst xs) ∧ DTs K (Lp L q2) H' xs ((dedup (keys.take i)).map Kst.d)) hM9
      (fun H' w' => ⟨w'.mono fun _ z => z.elim, _, _, _, _, _, _, _, _, _, [], S9.mono o9 w', w'.lst (fun z => z.elim) hx9, .nil⟩) (fun H10 w10 i d v σ11 H11 hi rd k1011 ⟨k11, b6, b8, b9, b10, b11, b12, b13, b14, b15, xs, S11, hx11, r11⟩ => ?_) (fun H10 w10 σ11 H11 k1011 ⟨k11, b6, b8, b9, b10, b11, b12, b13, b14, b15, xs, S11, hx11, r11⟩ => ?_)
    · rw [List.getElem?_map] at hi
      cases hk : keys[i]? with
      | none => rw [hk] at hi; cases hi
      | some kk =>
        rw [hk] at hi
        cases hi
        have S12 := S11.putD (i := 8) rd
        have ed : dedup (keys.take (i + 1)) = if kk ∈ dedup (keys.take i) then dedup (keys.take i) else dedup (keys.take i) ++ [kk] := by rw [take_snoc hk, dedup_snoc]
        refine s_if o9 (t_test o9 (e_notInO (shaped_kst kk) (shaped_ksts _) (e_var o9 S12 rfl) (e_val o9 S12 rfl) hx11 r11)) (fun cc H12 w12 => ?_) (fun cc H12 w12 => ?_)
        · rw [any_kst] at cc
          have hn : kk ∉ dedup (keys.take i) := by simpa using cc
          have S13 := S12.mono o9 w12
          have hl11 := r11.length
          rw [List.length_map] at hl11
          have hdl := dedup_len (keys.take i) []
          refine s_app S13 rfl (w12.lst (fun z => z.elim) hx11) (lt_size (by rw [hl11]; unfold dedup; rw [List.length_take] at hdl; simp at hdl; omega)) (e_var o9 S13 rfl) fun v13 H13 w13 r13 hx13 => ?_
          have k14 : Kp (· = q2) H13 (upd H13 q2 (.lst (xs ++ [v13]))) := (Kp.refl _ _).app hx13
          have kk14 : Kp (· = q2) H11 (upd H13 q2 (.lst (xs ++ [v13]))) := ((w12.trans w13).mono fun _ z => z.elim).trans k14
          refine ⟨k1011.trans kk14, k11.trans kk14, _, _, _, _, _, _, _, _, _, _, (S13.mono o9 w13).step hM9 k14, upd_same, ?_⟩
          rw [ed, if_neg hn, List.map_append]
          exact DTs.step hM9 k14 ((DTs.mono o9 (w12.trans w13) r11).snoc r13)
        · rw [any_kst] at cc
          have hn : kk ∈ dedup (keys.take i) := by simpa using cc
          have kk12 : Kp (· = q2) H11 H12 := w12.mono fun _ z => z.elim
          refine ⟨k1011.trans kk12, k11.trans kk12, _, _, _, _, _, _, _, _, _, xs, S12.mono o9 w12, w12.lst (fun z => z.elim) hx11, ?_⟩
          rw [ed, if_pos hn]
          exact DTs.mono o9 w12 r11
    · rw [List.length_map, List.take_length] at r11
      have kE11 := kE9 k11
      have ps11 := (ps9.step hM9 k11 naq2).less (N := L) fun a z => .inl z
      have rs : DT K L H11 (.ref q2) (.list ((dedup keys).map Kst.d)) := .lst (nL fq2) hx11 (DTs.less (fun a z => .inl z) r11)
      have S12 := (S11.lessL (N := L) fun a z => .inl z).reda (i := 7) rfl rs
      have hsl : (dedup keys).length ≤ keys.length := by have := dedup_len keys []; simpa [dedup] using this
      have hsn : ∀ x ∈ dedup keys, NumL c.cnt x.2 := fun x hx => hkn x ((dedup_mem _ _).mp hx)
      have hsk : ∀ x ∈ keys, x ∈ dedup keys := fun x hx => (dedup_mem _ _).mpr hx
      generalize dedup keys = states at rs S12 hsl hsn hsk k
      clear S11 r11 S9 S8 ps9 ps6 hx9 hx11
      -- moves
      refine s_new (i := 9) S12 fun q3 hq3 S13 => ?_
      have o13 := w0 K (Lp L q3)
      have hM13 : ∀ a, a = q3 → Lp L q3 a := fun a e => .inr e
      have ps13 := ps11.own hq3 (.lst [])
      have hx13 : upd H11 q3 (.lst []) q3 = some (.lst []) := upd_same
      have kE13 : ∀ {H'}, Kp (· = q3) (upd H11 q3 (.lst [])) H' → Kp No H H' := fun {H'} k' => kE11.trans ((Kp.new hq3).loc hq3 k')
      have fq3 : H q3 = none := kE11.free hq3
      have naq3 : a ≠ q3 := fun e => by
        have := ps13.ob
        rw [e, hx13] at this
        cases this
      generalize upd H11 q3 (.lst []) = H13 at S13 ps13 hx13 kE13 ⊢
      have mvl : ∀ i, (movesTo keys states st.places i).length ≤ 60 * i := fun i => by
        have := flat_len (fun s => ((states.getD s (false, [])).2).map fun n => movesOf keys states st.places s n) 60 (List.range i) fun x hx => by
          rw [List.length_map]
          rw [List.getD_eq_getElem?_getD]
          cases e : states[x]? with
          | none => exact Nat.zero_le _
          | some l => have := (hsn l (List.mem_of_getElem? e)).len; show l.2.length ≤ 60; omega
        rw [List.length_range] at this
        exact this
      refine s_for1 o13 (n := ((states.map Kst.d).length : Nat)) (a_cons o13 (e_lenL o13 (e_var o13 S13 rfl)) (a_nil o13)) (by rw [List.length_map]; omega) (by omega)
        (fun i σ' H' => Kp (· = q3) H13 H' ∧ ∃ b6 b8 b10 b11 b12 b13 b14 b15 xs, Sl (W0 K (Lp L q3)) H' σ' [.da c.d, .va (.ref a), .da (.bool R.1.e), .da (ilist R.1.f), .da (ilist R.1.l), .da (.list (keys.map Kst.d)), b6, .da (.list (states.map Kst.d)), b8, .va (.ref q3), b10, b11, b12, b13, b14, b15] ∧ H' q3 = some (.lst xs) ∧ DTs K (Lp L q3) H' xs ((movesTo keys states st.places i).map Mv.d))
        (fun H' w' => ⟨w'.mono fun _ z => z.elim, _, _, _, _, _, _, _, _, [], S13.mono o13 w', w'.lst (fun z => z.elim) hx13, .nil⟩) (fun i σ14 H14 hi ⟨k14, b6, b8, b10, b11, b12, b13, b14, b15, xs, S14, hx14, r14⟩ => ?_) (fun σ14 H14 ⟨k14, b6, b8, b10, b11, b12, b13, b14, b15, xs, S14, hx14, r14⟩ => ?_)
      · rw [Int.toNat_natCast, List.length_map] at hi
        have S15 := S14.putD (i := 10) (DT.int (i : Int))
        have hsi : states[i]? = some states[i] := List.getElem?_eq_getElem hi
        have hgd : states.getD i (false, []) = states[i] := getD_of hsi
        have hnl := hsn _ (List.getElem_mem hi)
        refine s_forTN o13 (ds := (states[i].2).map .int) (M := (· = q3)) (e_ixT o13 (i := 1) (ds := [.bool states[i].1, .tuple (states[i].2.map .int)]) (e_ixL o13 (i := i) (ds := states.map Kst.d) (e_var o13 S15 rfl) (e_var o13 S15 rfl) (by rw [List.getElem?_map, hsi]; rfl)) (e_int o13) rfl)
          (fun j σ' H' => Kp (· = q3) H13 H' ∧ ∃ b6 b8 b11 b12 b13 b14 b15 xs, Sl (W0 K (Lp L q3)) H' σ' [.da c.d, .va (.ref a), .da (.bool R.1.e), .da (ilist R.1.f), .da (ilist R.1.l), .da (.list (keys.map Kst.d)), b6, .da (.list (states.map Kst.d)), b8, .va (.ref q3), .da (.int (i : Int)), b11, b12, b13, b14, b15] ∧ H' q3 = some (.lst xs) ∧ DTs K (Lp L q3) H' xs ((movesTo keys states st.places i ++ (states[i].2.take j).map fun n => movesOf keys states st.places i n).map Mv.d)) hM13
          (fun H' w' => ⟨k14.trans (w'.mono fun _ z => z.elim), _, _, _, _, _, _, _, xs, S15.mono o13 w', w'.lst (fun z => z.elim) hx14, by simpa using DTs.mono o13 w' r14⟩) (fun H16 w16 j d v σ17 H17 hj rd k1617 ⟨k17, b6, b8, b11, b12, b13, b14, b15, xs, S17, hx17, r17⟩ => ?_) (fun H16 w16 σ17 H17 k1617 ⟨k17, b6, b8, b11, b12, b13, b14, b15, xs, S17, hx17, r17⟩ => ?_)
        · rw [List.getElem?_map] at hj
          cases hn : states[i].2[j]? with
          | none => rw [hn] at hj; cases hj
          | some n =>
            rw [hn] at hj
            cases hj
            obtain ⟨n1, n2⟩ := hnl.rg n (List.mem_of_getElem? hn)
            have S18 := S17.putD (i := 6) rd
            have un17 : ∀ a, Lp L q3 a → H17 a ≠ none := fun x hx => by
              rcases hx with hx | rfl
              · exact (kE13 k17).un hL x hx
              · rw [hx17]; intro z; cases z
            have ps17 := ps13.step hM13 k17 naq3
            have hpn : st.places[(n - 1).toNat]? = some (st.places[(n - 1).toNat]'(by omega)) := List.getElem?_eq_getElem _
            generalize hpx : st.places[(n - 1).toNat]'(by omega) = px at hpn
            refine e_ixLz o13 (ds := st.places.map Plc.d) (z := n - 1) (d := px.d) (ps17.f1 T (e_val o13 S18 rfl)) (e_sub o13 (e_var o13 S18 rfl) (e_int o13)) (by omega) (by rw [List.getElem?_map, hpn]; rfl) H17 (Kp.refl _ _) _ fun v18 H18 w18 r18 => ?_
            refine g_five r18 fun x y z u w rx ry rz ru rw' => ?_
            have S19 := ((((((S18.mono o13 w18).putD (i := 11) rx).putD (i := 12) ry).putD (i := 13) rz).putD (i := 14) ru).putD (i := 15) rw')
            have hx18 : H18 q3 = some (.lst xs) := w18.lst (fun z => z.elim) hx17
            have hkn' : keys[n.toNat]? = some (keys[n.toNat]'(by omega)) := List.getElem?_eq_getElem _
            generalize hkx : keys[n.toNat]'(by omega) = kx at hkn'
            have hkm : kx ∈ states := hsk _ (List.mem_of_getElem? hkn')
            have hix : states.idxOf kx < states.length := List.idxOf_lt_length_of_mem hkm
            have l17 := r17.length
            rw [List.length_map, List.length_append, List.length_map, List.length_take] at l17
            have hm := mvl i
            have hnl' := hnl.len
            refine s_app S19 rfl hx18 (lt_size (by omega)) (e_tup o13 (a_cons o13 (e_var o13 S19 rfl) (a_cons o13 (e_index o13 (n := states.idxOf kx) (z := kx.d) (shaped_kst kx) (shaped_ksts states) (e_var o13 S19 rfl) (e_ixLz o13 (ds := keys.map Kst.d) (z := n) (d := kx.d) (e_var o13 S19 rfl) (e_var o13 S19 rfl) (by omega) (by rw [List.getElem?_map, hkn']; rfl)) ?_ ?_ ?_) (a_cons o13 (e_var o13 S19 rfl) (a_cons o13 (e_var o13 S19 rfl) (a_cons o13 (e_var o13 S19 rfl) (a_cons o13 (e_var o13 S19 rfl) (a_nil o13)))))))) fun v19 H19 w19 r19 hx19 => ?_
            · rw [List.getElem?_map, List.getElem?_eq_getElem hix, List.getElem_idxOf hix]
              rfl
            · rw [eqv_kst, decide_eq_true rfl]
            · intro m z' hm' hz'
              rw [List.getElem?_map] at hz'
              cases hz : states[m]? with
              | none => rw [hz] at hz'; cases hz'
              | some zz =>
                rw [hz] at hz'
                cases hz'
                rw [eqv_kst, decide_eq_false_iff_not]
                intro e
                subst e
                have hml : m < states.length := (List.getElem?_eq_some_iff.mp hz).1
                have := List.not_of_lt_findIdx (p := fun x => x == zz) (xs := states) (i := m) hm'
                rw [(List.getElem?_eq_some_iff.mp hz).2] at this
                simp at this
            · have k20 : Kp (· = q3) H19 (upd H19 q3 (.lst (xs ++ [v19]))) := (Kp.refl _ _).app hx19
              have kk20 : Kp (· = q3) H17 (upd H19 q3 (.lst (xs ++ [v19]))) := ((w18.trans w19).mono fun _ z => z.elim).trans k20
              refine ⟨k1617.trans kk20, k17.trans kk20, _, _, _, _, _, _, _, _, (S19.mono o13 w19).step hM13 k20, upd_same, ?_⟩
              have em : movesOf keys states st.places i n = ⟨i, (states.idxOf kx : Nat), px.p, px.l, px.m, px.c⟩ := by
                unfold movesOf
                rw [getD_of hpn, getD_of hkn']
              rw [take_snoc hn, List.map_append (l₁ := states[i].2.take j), ← List.append_assoc, List.map_append (l₁ := movesTo keys states st.places i ++ _), List.map_cons, List.map_nil, List.map_cons, List.map_nil, em]
              exact DTs.step hM13 k20 ((DTs.mono o13 (w18.trans w19) r17).snoc r19)
        · rw [List.length_map, List.take_length] at r17
          refine ⟨k17, _, _, _, _, _, _, _, _, xs, S17, hx17, ?_⟩
          rw [movesTo_succ, hgd]
          exact r17
      · rw [Int.toNat_natCast, List.length_map] at r14
        have kE14 := kE13 k14
        have rm : DT K L H14 (.ref q3) (.list ((movesTo keys states st.places states.length).map Mv.d)) := .lst (nL fq3) hx14 (DTs.less (fun a z => .inl z) r14)
        have S15 := (S14.lessL (N := L) fun a z => .inl z).reda (i := 9) rfl rm
        refine s_ret o (e_tup o (a_cons o (e_tupL o (e_lcL (ds := states.map Kst.d) (b := fun _ => true) (e := fun i => .bool (states.getD i (false, [])).1) (kE14.un hL) (e_var o S15 rfl) (by rw [List.length_map]; omega) (fun v => wipe_one _ _ _) fun D H0 H' hD k0 k1 un kS i d v hi rd => ⟨?_, fun _ H2 k2 => ?_⟩)) (a_cons o (e_tupL o (e_var o S15 rfl)) (a_nil o)))) fun v16 H16 w16 r16 => k v16 H16 (kE14.trans w16) ?_
        · exact fun H1 w Q q => q true H1 (Kp.refl _ _) rfl
        · have oD := w0 K (Lp L D)
          have SD := ((kS _ S15).putD (i := 8) rd).mono oD k2
          rw [List.getElem?_map] at hi
          cases hx : states[i]? with
          | none => rw [hx] at hi; cases hi
          | some x =>
            rw [hx] at hi
            cases hi
            dsimp only
            rw [getD_of hx]
            exact e_ixT oD (i := 0) (ds := [.bool x.1, .tuple (x.2.map .int)]) (e_var oD SD rfl) (e_int oD) rfl
        · have e := lcF_list ((false, []) : Kst) (fun _ => true) (fun x => .bool x.1) states
          rw [List.length_map, e, List.filter_eq_self.mpr (fun _ _ => rfl)] at r16
          unfold Mch.d mvs
          rw [List.map_map]
          exact r16
end
end SR

namespace SR
open PySem PySem.Spec PyProof.Rows L2
def machsOf (ps : List Pt) : List (Option Mch) := ps.map fun p => if p.isStrip then some (mach p.ch) else none
/-- best values: None, or a cost with a tuple -/
def BvOk (n : Nat) (d : PyData) : Prop := d = .none ∨ ∃ (c : Int) (ds : List PyData), d = .tuple [.int c, .tuple ds] ∧ ds.length ≤ n
theorem BvOk.up {n m : Nat} {d : PyData} (h : BvOk n d) (hm : n ≤ m) : BvOk m d := h.elim .inl fun ⟨c, ds, e, hl⟩ => .inr ⟨c, ds, e, Nat.le_trans hl hm⟩
theorem RS.len {ms : List Mv} {far : Nat} {l : List (Int × Nat)} (g : Mvs ms) (h : RS ms far l) : l.length ≤ 1 + 5 * far := by
  have h1 := nodup_sub_len l ((0, 0) :: (List.range far).flatMap fun o : Nat => (List.range 5).map fun s : Nat => ((s : Int), o + 1)) h.nd fun x hx => by
    obtain ⟨s, o⟩ := x
    obtain ⟨a1, a2, a3, a4⟩ := ((h.iff s o).mp hx).le g
    by_cases ho : o = 0
    · subst ho
      rw [a4 rfl]
      exact List.mem_cons_self
    · refine List.mem_cons_of_mem _ (List.mem_flatMap.mpr ⟨o - 1, List.mem_range.mpr (by omega), List.mem_map.mpr ⟨s.toNat, List.mem_range.mpr (by omega), ?_⟩⟩)
      rw [Int.toNat_of_nonneg a2, show o - 1 + 1 = o by omega]
  have h2 := flat_len (fun o : Nat => (List.range 5).map fun s : Nat => ((s : Int), o + 1)) 5 (List.range far) fun o _ => by simp
  rw [List.length_range] at h2
  rw [List.length_cons] at h1
  omega
section
variable {P : Program} {w : World} {K : PySem.W.Frag} {mg : Str → Option Value} {base : Heap}
abbrev N_machines : List Str := ["parts", "part"]
abbrev s_machines : Stmt := top 12
theorem sc_machines : FnScope ["parts", "part"] ["parts"] (defScope s_machines) := ⟨rfl, rfl, rfl, by decide +kernel, rfl, by decide +kernel, by decide +kernel⟩
def Rmachines (ds : List PyData) (d : PyData) : Prop := ∃ ps : List Pt, ps.length ≤ 1000 ∧ (∀ p ∈ ps, p.isStrip = true → p.ch.dep ≤ 3 ∧ p.ch.cnt ≤ 50) ∧ ds = [pts ps] ∧ d = mcs (machsOf ps)
theorem ok_machines (F : DefA K mg "machines" s_machines) (B : Blt mg) (c_is_strip : C8.Cal P w K mg base 1 "is_strip" (spD K RisStrip) []) (c_machine : C8.Cal P w K mg base 11 "machine" (spD K Rmachine) []) : C8.Cal P w K mg base 12 "machines" (spD K Rmachines) [] := by
  refine cal_by F sc_machines rfl rfl rfl (fun _ _ _ _ _ _ us hl => match us, hl with | [_], _ => rfl) (spD_len fun ds d ⟨_, _, _, e, _⟩ => by rw [e]; rfl) fun f cdv A outer s H vs Q E hr h => ?_
  obtain ⟨L, ds, d, hL, hd, ⟨ps, hl, hps, rfl, rfl⟩, k⟩ := h
  have o := w0 K L
  have S := Sl.start (C := W0 K L) (N := N_machines) hd
  refine ⟨_, (pss_one (ps_ret (pe_callTy call_tuple_of (by rfl) B.tuple (by decide +kernel) (pa_cons (pe_lc (own := [("part", 1)]) rfl sc_machines.nd (pi_tup (pv 0)) (blkOk_by (N := N_machines) (sc := defScope s_machines) (by decide +kernel)) (fun _ _ _ _ _ => (pg_name (i := 1) sc_machines.nd rfl (Or.inl rfl))) (fun _ _ _ _ _ => pts_nil) (fun _ _ _ _ _ => (pe_ifExp (pt_val (C8.pe_c c_is_strip hr (by omega) rfl (pa_cons (pv 1) pa_nil))) (C8.pe_c c_machine hr (by omega) rfl (pa_cons (pe_ix (r := rIx K) ix_seq (pv 1) pe_int (fun _ _ => rfl)) pa_nil)) (pe_tup pa_nil)))) pa_nil)))), ?_⟩
  refine s_ret o (e_tupL o (e_lcT (ds := ps.map Pt.d) (b := fun _ => true) (e := fun i => mchD ((machsOf ps).getD i none)) hL (e_var o S rfl) (by rw [List.length_map]; omega) (fun v => wipe_one _ _ _) fun D H0 H' hD k0 k1 un kS i d v hi rd => ⟨fun H1 w Q q => q true H1 (Kp.refl _ _) rfl, fun _ H2 k2 => ?_⟩)) fun v H2 w2 r2 => k v H2 w2 ?_
  · have oD := w0 K (Lp L D)
    have SD := ((kS _ S).putD (i := 1) rd).mono oD k2
    rw [List.getElem?_map] at hi
    cases hx : ps[i]? with
    | none => rw [hx] at hi; cases hi
    | some p =>
      rw [hx] at hi
      cases hi
      dsimp only
      rw [getD_of (show (machsOf ps)[i]? = some (if p.isStrip then some (mach p.ch) else none) by unfold machsOf; rw [List.getElem?_map, hx]; rfl)]
      refine e_if oD (t_B oD (e_call oD (k2.un un) (a_cons oD (e_var oD SD rfl) (a_nil oD)) ⟨p, rfl, rfl⟩)) (fun hs => ?_) (fun hs => ?_)
      · rw [if_pos hs]
        obtain ⟨h1, h2⟩ := hps p (List.mem_of_getElem? hx) hs
        cases p with
        | strip a n j c => exact e_call oD (k2.un un) (a_cons oD (e_ixT oD (i := 3) (e_var oD SD rfl) (e_int oD) rfl) (a_nil oD)) ⟨c, h1, h2, rfl, rfl⟩
        | plain => cases hs
        | shape => cases hs
      · rw [hs, if_neg Bool.false_ne_true]
        exact e_tup oD (a_nil oD)
  · have e := lcF_list (none : Option Mch) (fun _ => true) mchD (machsOf ps)
    rw [List.filter_eq_self.mpr (fun _ _ => rfl)] at e
    have hlen : (machsOf ps).length = (ps.map Pt.d).length := by unfold machsOf; rw [List.length_map, List.length_map]
    rw [← hlen, e] at r2
    exact r2
abbrev N_best_rests : List Str := ["part", "machine", "region", "table", "ends", "moves", "far", "rests", "state", "offset", "found", "number", "size", "move", "inner", "rest", "total"]
abbrev s_best_rests : Stmt := top 32
theorem sc_best_rests : FnScope ["part", "machine", "region", "table", "ends", "moves", "far", "rests", "state", "offset", "found", "number", "size", "move", "inner", "rest", "total"] ["part", "machine", "region", "table"] (defScope s_best_rests) := ⟨rfl, rfl, rfl, by decide +kernel, rfl, by decide +kernel, by decide +kernel⟩
def spBR (K : PySem.W.Frag) : Sp := fun vs H Q _ => ∃ (L : Addr → Prop) (p : Pt) (M : Mch) (r : Rg) (t : Addr) (v1 v2 v3 : V) (kvs : List (List L2.Key × V)) (far : Nat), vs = [v1, v2, v3, .ref t] ∧ (∀ a, L a → H a ≠ none) ∧ DT K L H v1 p.d ∧ DT K L H v2 M.d ∧ DT K L H v3 r.d ∧ H t = some (.dT kvs) ∧ Mvs M.moves ∧ (∀ m ∈ M.moves, m.t < (M.ends.length : Int)) ∧ 1 ≤ M.ends.length ∧
  p.ext r = (far : Int) ∧ far ≤ 100 ∧ (∀ x, Pcs p M.moves r x → ∃ v d, valV kvs (iks x.ns) = some v ∧ DT K L H v d ∧ BvOk 100 d) ∧
  ∀ rr kvs' H', Kp No H H' → H rr = none → H' rr = some (.dT kvs') → (∀ s o, Reach M.moves far s o → ∃ v d, valV kvs' (iks [s, (o : Nat)]) = some v ∧ DT K L H' v d ∧ BvOk 100 d) → Q (.ref rr) H'
theorem ok_best_rests (F : DefA K mg "best_rests" s_best_rests) (B : Blt mg) (c_extent : C8.Cal P w K mg base 1 "extent" (spD K Rextent) []) (c_reached : C8.Cal P w K mg base 1 "reached" (spN K [] Rreached) []) (c_looks_at : C8.Cal P w K mg base 1 "looks_at" (spD K Rlooks_at) []) (c_piece : C8.Cal P w K mg base 1 "piece" (spD K Rpiece) []) :
    C8.Cal P w K mg base 2 "best_rests" (spBR K) [] := by
  refine cal_by F sc_best_rests rfl rfl rfl (fun _ _ _ _ _ _ us hl => match us, hl with | [_, _, _, _], _ => rfl) (fun vs H Q E ⟨_, _, _, _, _, _, _, _, _, _, e, _⟩ => by rw [e]; rfl) fun f cdv A outer s H vs Q E hr h => ?_
  obtain ⟨L, p, M, r, t, v1, v2, v3, kvs, far, rfl, hL, rv1, rv2, rv3, ht, gm, gt, g1, hfar, hf, htab, k⟩ := h
  have o := w0 K L
  have hu4 : _ + 64 < cLine := hr.units
  have hu := hu_of hr
  refine ⟨_, (pss_c (ps_asg (pv 1) (pg_tup rfl (pgs_cons (pg_name (i := 4) sc_best_rests.nd rfl (Or.inl rfl)) (pgs_cons (pg_name (i := 5) sc_best_rests.nd rfl (Or.inl rfl)) pgs_nil))))
  (pss_c (ps_set (i := 6) sc_best_rests.nd rfl (Or.inl rfl) (C8.pe_c c_extent hr (by omega) rfl (pa_cons (pv 0) (pa_cons (pv 2) pa_nil))))
  (pss_c (ps_set (i := 7) sc_best_rests.nd rfl (Or.inl rfl) pe_dnewT)
  (pss_c (ps_for PassesOwn.never rfl (pi_reversed (by rfl) B.reversed (pa_cons (C8.pe_c c_reached hr (by omega) rfl (pa_cons (pv 5) (pa_cons (pv 6) pa_nil))) pa_nil)) (pg_tup rfl (pgs_cons (pg_name (i := 8) sc_best_rests.nd rfl (Or.inl rfl)) (pgs_cons (pg_name (i := 9) sc_best_rests.nd rfl (Or.inl rfl)) pgs_nil))) (pss_c (ps_set (i := 10) sc_best_rests.nd rfl (Or.inl rfl) pe_non)
  (pss_c (ps_if (PW.pt (pw_and (pt_cmpR (op_Q hu4) (pv 9) (pv 6) (nomark _)) (pw_and1 (pt_val (pe_ix ix_seq (pv 4) (pv 8) (fun _ _ => rfl)))))) (pss_one (ps_set (i := 10) sc_best_rests.nd rfl (Or.inl rfl) (pe_tup (pa_cons pe_int (pa_cons (pe_tup pa_nil) pa_nil))))) pss_nil)
  (pss_c (ps_for PassesOwn.never rfl (pi_list (C8.pe_c c_looks_at hr (by omega) rfl (pa_cons (pv 5) (pa_cons (pv 8) (pa_cons (pe_op op_sub (pv 6) (pv 9)) pa_nil))))) (pg_tup rfl (pgs_cons (pg_name (i := 11) sc_best_rests.nd rfl (Or.inl rfl)) (pgs_cons (pg_name (i := 12) sc_best_rests.nd rfl (Or.inl rfl)) pgs_nil))) (pss_c (ps_set (i := 13) sc_best_rests.nd rfl (Or.inl rfl) (pe_ix ix_seq (pv 5) (pv 11) (fun _ _ => rfl)))
  (pss_c (ps_set (i := 14) sc_best_rests.nd rfl (Or.inl rfl) (pe_dget hu (pv 3) (C8.pe_c c_piece hr (by omega) rfl (pa_cons (pv 0) (pa_cons (pv 2) (pa_cons (pv 9) (pa_cons (pe_ix ix_seq (pv 13) pe_int (fun _ _ => rfl)) (pa_cons (pv 12) pa_nil)))))) (fun _ _ => rfl)))
  (pss_c (ps_set (i := 15) sc_best_rests.nd rfl (Or.inl rfl) (pe_dget hu (pv 7) (pe_tup (pa_cons (pe_ix ix_seq (pv 13) pe_int (fun _ _ => rfl)) (pa_cons (pe_op op_add (pv 9) (pv 12)) pa_nil))) (fun _ _ => rfl)))
  (pss_one (ps_if (PW.pt (pw_and (pt_cmpR op_notN (pv 14) pe_non (nomark _)) (pw_and1 (pt_cmpR op_notN (pv 15) pe_non (nomark _))))) (pss_c (ps_set (i := 16) sc_best_rests.nd rfl (Or.inl rfl) (pe_op op_add (pe_op op_add (pe_ix ix_seq (pv 13) pe_int (fun _ _ => rfl)) (pe_ix ix_seq (pv 14) pe_int (fun _ _ => rfl))) (pe_ix ix_seq (pv 15) pe_int (fun _ _ => rfl))))
  (pss_one (ps_if (PW.pt (pw_or (pt_cmpR op_isN (pv 10) pe_non (nomark _)) (pw_or1 (pt_cmpR op_lt (pv 16) (pe_ix ix_seq (pv 10) pe_int (fun _ _ => rfl)) (nomark _))))) (pss_one (ps_set (i := 10) sc_best_rests.nd rfl (Or.inl rfl) (pe_tup (pa_cons (pv 16) (pa_cons (pe_op op_catA (pe_tup (pa_cons (pe_tup (pa_cons (pv 11) (pa_cons (pv 12) (pa_cons (pe_ix ix_seq (pv 14) pe_int (fun _ _ => rfl)) pa_nil)))) pa_nil)) (pe_ix ix_seq (pv 15) pe_int (fun _ _ => rfl))) pa_nil))))) pss_nil))) pss_nil))))))
  (pss_one (ps_dput hu (pv 7) (pe_tup (pa_cons (pv 8) (pa_cons (pv 9) pa_nil))) (pv 10) rfl))))))
  (pss_one (ps_ret (pv 7))))))), ?_⟩
  have S : Sl (W0 K L) H (start N_best_rests [v1, v2, v3, .ref t]) [.da p.d, .da M.d, .da r.d, .va (.ref t), .un, .un, .un, .un, .un, .un, .un, .un, .un, .un, .un, .un, .un] :=
    .cons ⟨_, rfl, rv1⟩ (.cons ⟨_, rfl, rv2⟩ (.cons ⟨_, rfl, rv3⟩ (.cons (s := .va _) rfl (Sl.ofD (vs := []) (ds := []) 13 .nil))))
  refine s_asg o (e_var o S rfl) fun v H1 w1 r1 => g_pair r1 fun x y rx ry => ?_
  have S1 := ((S.mono o w1).putD (i := 4) rx).putD (i := 5) ry
  refine s_set o (e_call o (w1.un hL) (a_cons o (e_var o S1 rfl) (a_cons o (e_var o S1 rfl) (a_nil o))) ⟨p, r, rfl, rfl⟩) fun v2 H2 w2 r2 => ?_
  rw [hfar] at r2
  have S2 := (S1.mono o w2).putD (i := 6) r2
  have w02 : Kp No H H2 := w1.trans w2
  refine s_newD (i := 7) S2 fun q hq S3 => ?_
  have o3 := w0 K (Lp L q)
  have hM : ∀ a, a = q → Lp L q a := fun a e => .inr e
  have hq3 : upd H2 q (.dT []) q = some (.dT []) := upd_same
  have un3 : ∀ a, Lp L q a → upd H2 q (.dT []) a ≠ none := own_un (w02.un hL) _
  have kend : ∀ {H'}, Kp (· = q) (upd H2 q (.dT [])) H' → Kp No H H' := fun {H'} k' => w02.trans ((Kp.new hq).loc hq k')
  have ht2 : H2 t = some (.dT kvs) := w02.dT (fun z => z.elim) ht
  have htq : t ≠ q := fun e => by rw [e, hq] at ht2; cases ht2
  have ht3 : ∀ {H'}, Kp (· = q) (upd H2 q (.dT [])) H' → H' t = some (.dT kvs) := fun {H'} k' => k'.dT htq (by rw [upd_ne htq]; exact ht2)
  have htab3 : ∀ {H'}, Kp (· = q) (upd H2 q (.dT [])) H' → ∀ x, Pcs p M.moves r x → ∃ v d, valV kvs (iks x.ns) = some v ∧ DT K (Lp L q) H' v d ∧ BvOk 100 d := fun {H'} k' x hx => by
    obtain ⟨v, d, h1, h2, h3⟩ := htab x hx
    exact ⟨v, d, h1, DT.step hM k' (DT.own (DT.mono o w02 h2) hq _), h3⟩
  have fq : H q = none := w02.free hq
  generalize upd H2 q (.dT []) = H3 at S3 hq3 un3 kend ht3 htab3 ⊢
  refine s_forRevEv o3 (e_callN o3 noT un3 (a_cons o3 (e_var o3 S3 rfl) (a_cons o3 (e_var o3 S3 rfl) (a_nil o3))) ⟨M.moves, far, gm, by omega, rfl, rfl⟩) fun v4 H4 w4 hz => ?_
  obtain ⟨d4, ⟨l, rs, ed⟩, r4⟩ := hz
  subst ed
  have S4 := S3.mono o3 w4
  have k34 : Kp (· = q) H3 H4 := w4.mono fun _ z => z.elim
  have hlen : (l.map spt).length = l.length := List.length_map ..
  have hll := rs.len gm
  refine s_forRevP o3 (ds := l.map spt) (e_c o3 r4) (fun i σ' H' => Kp (· = q) H4 H' ∧ ∃ b8 b9 b10 b11 b12 b13 b14 b15 b16 kv, Sl (W0 K (Lp L q)) H' σ' [.da p.d, .da M.d, .da r.d, .va (.ref t), .da (.tuple (M.ends.map .bool)), .da (mvs M.moves), .da (.int far), .va (.ref q), b8, b9, b10, b11, b12, b13, b14, b15, b16] ∧ H' q = some (.dT kv) ∧ kv.length ≤ i ∧
      ∀ so ∈ l.drop (l.length - i), ∃ v d, valV kv (iks [so.1, (so.2 : Nat)]) = some v ∧ DT K (Lp L q) H' v d ∧ BvOk (far - so.2) d) (M := (· = q)) hM
    (fun H' w' => ⟨w'.mono fun _ z => z.elim, .un, .un, .un, .un, .un, .un, .un, .un, .un, [], S4.mono o3 w', (w4.trans w').dT (fun z => z.elim) hq3, Nat.le_refl _, fun so h => by rw [Nat.sub_zero, List.drop_length] at h; cases h⟩) (fun d hd => by obtain ⟨x, _, rfl⟩ := List.mem_map.mp hd; exact ⟨_, _, rfl⟩)
    (fun H5 w5 i d e v u σ6 H6 hi hde rd re k56 ⟨k6, b8, b9, b10, b11, b12, b13, b14, b15, b16, kv, S6, hq6, hkl, hkv⟩ => ?_) (fun H5 w5 σ6 H6 k56 ⟨k6, b8, b9, b10, b11, b12, b13, b14, b15, b16, kv, S6, hq6, hkl, hkv⟩ => ?_)
  · rw [hlen] at hi hde
    rw [List.getElem?_map] at hde
    cases hso : l[l.length - 1 - i]? with
    | none => rw [hso] at hde; cases hde
    | some so =>
      rw [hso] at hde
      have hde := Option.some.inj hde
      unfold spt at hde
      cases hde
      have hsl : so ∈ l := List.mem_of_getElem? hso
      have hrch : Reach M.moves far so.1 so.2 := (rs.iff so.1 so.2).mp hsl
      obtain ⟨b1, b2, b3, _⟩ := hrch.le gm
      have hst : so.1 < (M.ends.length : Int) := by
        generalize so.1 = s1 at hrch
        generalize so.2 = s2 at hrch
        cases hrch with
        | start => omega
        | step _ hm _ _ _ => exact gt _ hm
      have k36 : Kp (· = q) H3 H6 := k34.trans k6
      -- spots with a greater offset are there
      have later : ∀ {s : Int} {o' : Nat}, Reach M.moves far s o' → so.2 < o' → (s, o') ∈ l.drop (l.length - i) := fun {s o'} hr hlt => by
        have hm : (s, o') ∈ l := (rs.iff _ _).mpr hr
        obtain ⟨j, hj, ej⟩ := List.getElem_of_mem hm
        by_cases hji : l.length - i ≤ j
        · have : l.drop (l.length - i) = l.drop (l.length - i) := rfl
          refine List.mem_of_getElem? (i := j - (l.length - i)) ?_
          rw [List.getElem?_drop, show l.length - i + (j - (l.length - i)) = j by omega, List.getElem?_eq_getElem hj, ej]
        · have hle : l[j].2 ≤ so.2 := by
            have hjs : j ≤ l.length - 1 - i := by omega
            obtain ⟨hlt', es⟩ := List.getElem?_eq_some_iff.mp hso
            rcases Nat.lt_or_eq_of_le hjs with h | h
            · have := (List.pairwise_iff_getElem.mp rs.up) j _ hj hlt' h
              rw [es] at this
              exact this
            · subst h
              rw [es]
              exact Nat.le_refl _
          rw [ej] at hle
          omega
      have S7 := (S6.putD (i := 8) rd).putD (i := 9) re
      refine s_set (te := tC .non) (i := 10) o3 (e_non o3) fun v8 H8 w8 r8 => ?_
      have S8 := (S7.mono o3 w8).putD (i := 10) r8
      have hend : (M.ends.map PyData.bool)[so.1.toNat]? = some (.bool (M.ends.getD so.1.toNat false)) := by
        have hl : so.1.toNat < M.ends.length := by omega
        rw [List.getElem?_map, List.getElem?_eq_getElem hl, List.getD_eq_getElem?_getD, List.getElem?_eq_getElem hl]
        rfl
      refine s_ifSet o3 (i := 10) (P := fun v H' => Dw (W0 K (Lp L q)) H' v (.tuple [.int 0, .tuple []])) (t_and o3 (t_test o3 (e_eqI o3 (e_var o3 S8 rfl) (e_var o3 S8 rfl))) fun _ => t_B o3 (e_ixTz o3 (z := so.1) (ds := M.ends.map .bool) (e_var o3 S8 rfl) (e_var o3 S8 rfl) b2 hend)) (fun _ H' w' => e_tup o3 (a_cons o3 (e_int o3) (a_cons o3 (e_tup o3 (a_nil o3)) (a_nil o3)))) fun σ9 H9 w9 hor => ?_
      obtain ⟨d9, S9, hb9⟩ : ∃ d9, Sl (W0 K (Lp L q)) H9 σ9 [.da p.d, .da M.d, .da r.d, .va (.ref t), .da (.tuple (M.ends.map .bool)), .da (mvs M.moves), .da (.int far), .va (.ref q), .da (.int so.1), .da (.int (so.2 : Nat)), .da d9, b11, b12, b13, b14, b15, b16] ∧ BvOk (far - so.2) d9 := by
        rcases hor with ⟨_, v, rv, rfl⟩ | ⟨_, rfl⟩
        · exact ⟨_, (S8.mono o3 w9).putD (i := 10) rv, .inr ⟨0, [], rfl, Nat.zero_le _⟩⟩
        · exact ⟨_, S8.mono o3 w9, .inl rfl⟩
      have w69 : Kp No H6 H9 := w8.trans w9
      have hq9 : H9 q = some (.dT kv) := w69.dT (fun z => z.elim) hq6
      have un9 := (k36.trans (w69.mono fun _ z => z.elim)).un un3
      have lk := looks_len gm (st := so.1) (left := (far : Int) - (so.2 : Nat))
      refine s_forP o3 (ds := prs (looks M.moves so.1 ((far : Int) - (so.2 : Nat)))) (e_call o3 un9 (a_cons o3 (e_var o3 S9 rfl) (a_cons o3 (e_var o3 S9 rfl) (a_cons o3 (e_sub o3 (e_var o3 S9 rfl) (e_var o3 S9 rfl)) (a_nil o3)))) ⟨M.moves, so.1, _, gm, by omega, rfl, rfl⟩)
        (fun j σ' H' => Kp No H6 H' ∧ ∃ d b11 b12 b13 b14 b15 b16, Sl (W0 K (Lp L q)) H' σ' [.da p.d, .da M.d, .da r.d, .va (.ref t), .da (.tuple (M.ends.map .bool)), .da (mvs M.moves), .da (.int far), .va (.ref q), .da (.int so.1), .da (.int (so.2 : Nat)), .da d, b11, b12, b13, b14, b15, b16] ∧ BvOk (far - so.2) d) (M := No) (fun _ z => z.elim)
        (fun H' w' => ⟨w69.trans w', d9, b11, b12, b13, b14, b15, b16, S9.mono o3 w', hb9⟩) (fun d hd => by obtain ⟨x, _, rfl⟩ := List.mem_map.mp hd; exact ⟨_, _, rfl⟩) (fun H10 w10 j d e v u σ11 H11 hj rd re k1011 ⟨k11, d10, b11, b12, b13, b14, b15, b16, S11, hb10⟩ => ?_) (fun H10 w10 σ11 H11 k1011 ⟨k11, d10, b11, b12, b13, b14, b15, b16, S11, hb10⟩ => ?_)
      · unfold prs at hj
        rw [List.getElem?_map] at hj
        cases hnz : (looks M.moves so.1 ((far : Int) - (so.2 : Nat)))[j]? with
        | none => rw [hnz] at hj; cases hj
        | some nz =>
          rw [hnz] at hj
          have hj := Option.some.inj hj
          unfold pr at hj
          cases hj
          obtain ⟨n, z⟩ := nz
          have hin := List.mem_of_getElem? hnz
          obtain ⟨m, hm, hmo, hz1, hz2⟩ := mem_looks.mp hin
          have hml := (gm.g m (List.mem_of_getElem? hm)).1
          have S12 := (S11.putD (i := 11) rd).putD (i := 12) re
          refine s_set o3 (e_ixT o3 (ds := M.moves.map Mv.d) (i := n) (e_var o3 S12 rfl) (e_var o3 S12 rfl) (by rw [List.getElem?_map, hm]; rfl)) fun v13 H13 w13 r13 => ?_
          have S13 := (S12.mono o3 w13).putD (i := 13) r13
          have k13 : Kp No H6 H13 := k11.trans w13
          have k313 : Kp (· = q) H3 H13 := k36.trans (k13.mono fun _ z => z.elim)
          have hpc : Pcs p M.moves r (p.piece r (so.2 : Nat) m.p z) := ⟨so.1, so.2, n, z, m, by rw [show (p.ext r).toNat = far by omega]; exact hrch, by rw [hfar]; exact hin, hm, rfl⟩
          obtain ⟨vi, di, hvi, rvi, hbi⟩ := htab3 k313 _ hpc
          refine s_set o3 (e_of o3 (e_dget o3 (ns := (p.piece r (so.2 : Nat) m.p z).ns) (e_val o3 S13 rfl) (e_call o3 (k313.un un3) (a_cons o3 (e_var o3 S13 rfl) (a_cons o3 (e_var o3 S13 rfl) (a_cons o3 (e_var o3 S13 rfl) (a_cons o3 (e_mv o3 (m := m) (e_var o3 S13 rfl) 2) (a_cons o3 (e_var o3 S13 rfl) (a_nil o3)))))) ⟨p, r, (so.2 : Nat), m.p, z, rfl, rfl⟩) (fun H' w' => w'.dT (fun z => z.elim) (ht3 k313)) hvi) rvi) fun v14 H14 w14 r14 => ?_
          have S14 := (S13.mono o3 w14).putD (i := 14) r14
          have k14 : Kp No H6 H14 := k13.trans w14
          have hr' : Reach M.moves far m.t (so.2 + z.toNat) := .step hrch (List.mem_of_getElem? hm) hmo hz1 hz2
          obtain ⟨vr, dr, hvr, rvr, hbr⟩ := hkv _ (later hr' (by omega))
          have ez : ((so.2 : Nat) : Int) + z = ((so.2 + z.toNat : Nat) : Int) := by omega
          refine s_set o3 (e_of o3 (e_dget o3 (ns := [m.t, ((so.2 + z.toNat : Nat) : Int)]) (e_val o3 S14 rfl) (e_tup o3 (a_cons o3 (e_mv o3 (m := m) (e_var o3 S14 rfl) 1) (a_cons o3 (by have := e_add o3 (e_var o3 S14 (i := 9) rfl) (e_var o3 S14 (i := 12) rfl); rw [ez] at this; exact this) (a_nil o3)))) (fun H' w' => (k14.trans w').dT (fun z => z.elim) hq6) hvr) (DT.mono o3 k14 rvr)) fun v15 H15 w15 r15 => ?_
          have S15 := (S14.mono o3 w15).putD (i := 15) r15
          have k15 : Kp No H6 H15 := k14.trans w15
          have k1015 : Kp No H10 H15 := ((k1011.trans w13).trans w14).trans w15
          have hle := (hr'.le gm).1
          refine s_if o3 (t_and o3 (t_test o3 (e_notN o3 (e_var o3 S15 rfl))) fun _ => t_test o3 (e_notN o3 (e_var o3 S15 rfl))) (fun cc H16 w16 => ?_) (fun cc H16 w16 => ?_)
          · obtain ⟨ci, dsi, rfl, hli⟩ : ∃ (c : Int) (ds : List PyData), di = .tuple [.int c, .tuple ds] ∧ ds.length ≤ 100 := by
              rcases hbi with rfl | h
              · simp [isND] at cc
              · exact h
            obtain ⟨cr, dsr, rfl, hlr⟩ : ∃ (c : Int) (ds : List PyData), dr = .tuple [.int c, .tuple ds] ∧ ds.length ≤ far - (so.2 + z.toNat) := by
              rcases hbr with rfl | h
              · simp [isND] at cc
              · exact h
            have S16 := S15.mono o3 w16
            refine s_set o3 (e_add o3 (e_add o3 (e_mv o3 (m := m) (e_var o3 S16 rfl) 5) (e_ixT o3 (i := 0) (d := .int ci) (e_var o3 S16 rfl) (e_int o3) rfl)) (e_ixT o3 (i := 0) (d := .int cr) (e_var o3 S16 rfl) (e_int o3) rfl)) fun v17 H17 w17 r17 => ?_
            have S17 := (S16.mono o3 w17).putD (i := 16) r17
            refine s_ifSet o3 (i := 10) (b := isND d10 || (match d10 with | .tuple [.int c, _] => decide (m.at 5 + ci + cr < c) | _ => false)) (P := fun v H' => Dw (W0 K (Lp L q)) H' v (.tuple [.int (m.at 5 + ci + cr), .tuple ([.tuple [.int (n : Nat), .int z, .tuple dsi]] ++ dsr)])) (t_or o3 (t_test o3 (e_isN o3 (e_var o3 S17 rfl))) fun hnn => ?_) (fun _ H' w' => ?_) fun σ18 H18 w18 hor => ?_
            · obtain ⟨cf, dsf, rfl, _⟩ : ∃ (c : Int) (ds : List PyData), d10 = .tuple [.int c, .tuple ds] ∧ ds.length ≤ far - so.2 := by
                rcases hb10 with rfl | h
                · cases hnn
                · exact h
              exact t_test o3 (e_cmp o3 (P := fun i j => decide (i < j)) (e_var o3 S17 rfl) (e_ixT o3 (i := 0) (d := .int cf) (e_var o3 S17 rfl) (e_int o3) rfl))
            · have S18 := S17.mono o3 w'
              exact e_tup o3 (a_cons o3 (e_var o3 S18 rfl) (a_cons o3 (e_cat o3 (ds := [.tuple [.int (n : Nat), .int z, .tuple dsi]]) (es := dsr) (e_tup o3 (a_cons o3 (e_tup o3 (a_cons o3 (e_var o3 S18 rfl) (a_cons o3 (e_var o3 S18 rfl) (a_cons o3 (e_ixT o3 (i := 1) (d := .tuple dsi) (e_var o3 S18 rfl) (e_int o3) rfl) (a_nil o3))))) (a_nil o3))) (e_ixT o3 (i := 1) (d := .tuple dsr) (e_var o3 S18 rfl) (e_int o3) rfl) (by simp; omega)) (a_nil o3)))
            · have kk := ((w16.trans w17).trans w18)
              rcases hor with ⟨_, v, rv, rfl⟩ | ⟨_, rfl⟩
              · exact ⟨k1015.trans kk, k15.trans kk, _, _, _, _, _, _, _, (S17.mono o3 w18).putD (i := 10) rv, .inr ⟨_, _, rfl, by simp; omega⟩⟩
              · exact ⟨k1015.trans kk, k15.trans kk, _, _, _, _, _, _, _, S17.mono o3 w18, hb10⟩
          · exact ⟨k1015.trans w16, k15.trans w16, _, _, _, _, _, _, _, S15.mono o3 w16, hb10⟩
      · -- rests[(state, offset)] = found
        refine s_dput (ns := [so.1, (so.2 : Nat)]) (e_var o3 S11 rfl) (fun H' w => e_val o3 (S11.mono o3 w) rfl) (fun H' w => e_tup o3 (a_cons o3 (e_var o3 (S11.mono o3 w) rfl) (a_cons o3 (e_var o3 (S11.mono o3 w) rfl) (a_nil o3)))) (fun v H1 H2 k h => DT.mono o3 k h) (fun H' w => (k11.trans w).dT (fun z => z.elim) hq6) (lt_size (by omega)) fun v12 H12 w12 r12 hq12 => ?_
        have k13 : Kp (· = q) H12 (upd H12 q (.dT (putK kv (iks [so.1, (so.2 : Nat)]) v12))) := (Kp.refl _ _).dput hq12
        have kk : Kp (· = q) H6 (upd H12 q (.dT (putK kv (iks [so.1, (so.2 : Nat)]) v12))) := ((k11.trans w12).mono fun _ z => z.elim).trans k13
        refine ⟨k56.trans kk, k6.trans kk, _, _, _, _, _, _, _, _, _, _, (S11.mono o3 w12).step hM k13, upd_same, Nat.le_trans putK_len (by omega), fun so' hso' => ?_⟩
        by_cases he : so' = so
        · subst he
          exact ⟨v12, d10, valV_put_same _ _ _, DT.step hM k13 r12, hb10⟩
        · have hin' : so' ∈ l.drop (l.length - i) := by
            rw [show l.length - (i + 1) = l.length - 1 - i by omega] at hso'
            obtain ⟨hlt', es⟩ := List.getElem?_eq_some_iff.mp hso
            rw [List.drop_eq_getElem_cons hlt', es] at hso'
            rcases List.mem_cons.mp hso' with h | h
            · exact absurd h he
            · rw [show l.length - 1 - i + 1 = l.length - i by omega] at h
              exact h
          obtain ⟨v, d, e1, e2, e3⟩ := hkv so' hin'
          refine ⟨v, d, ?_, DT.step hM kk e2, e3⟩
          rw [valV_put_ne]
          · exact e1
          · intro z
            have := iks_inj z
            rw [List.cons.injEq, List.cons.injEq] at this
            obtain ⟨a1, a2, _⟩ := this
            exact he (Prod.ext a1 (by omega))
  · rw [hlen, Nat.sub_self, List.drop_zero] at hkv
    refine s_ret o3 (e_val o3 S6 rfl) fun v7 H7 w7 e => ?_
    subst e
    refine k q kv H7 (kend (((w4.mono fun _ z => z.elim).trans k6).trans (w7.mono fun _ z => z.elim))) fq (w7.dT (fun z => z.elim) hq6) fun s o' hr => ?_
    obtain ⟨v, d, e1, e2, e3⟩ := hkv (s, o') ((rs.iff s o').mpr hr)
    exact ⟨v, d, e1, DT.less (fun a z => .inl z) (DT.mono o3 w7 e2), e3.up (by omega)⟩
end
end SR

namespace SR
open PySem PySem.Spec PyProof.Rows L2
section
variable {P : Program} {w : World} {K : PySem.W.Frag} {mg : Str → Option Value} {base : Heap}
def bvCost : PyData → Option Int
  | .tuple (.int c :: _) => some c
  | _ => none
abbrev N_cost_in : List Str := ["table", "key"]
abbrev s_cost_in : Stmt := top 36
theorem sc_cost_in : FnScope ["table", "key"] ["table", "key"] (defScope s_cost_in) := ⟨rfl, rfl, rfl, by decide +kernel, rfl, by decide +kernel, by decide +kernel⟩
def spCI (K : PySem.W.Frag) : Sp := fun vs H Q _ => ∃ (L : Addr → Prop) (t : Addr) (v u : V) (ns : List Int) (kvs : List (List L2.Key × V)) (d : PyData), vs = [.ref t, v] ∧ (∀ a, L a → H a ≠ none) ∧ H t = some (.dT kvs) ∧ DT K L H v (.tuple (ns.map .int)) ∧ valV kvs (iks ns) = some u ∧ DT K L H u d ∧ BvOk 100 d ∧ ∀ v' H', Kp No H H' → DT K L H' v' (oi (bvCost d)) → Q v' H'
theorem ok_cost_in (F : DefA K mg "cost_in" s_cost_in) : C8.Cal P w K mg base 1 "cost_in" (spCI K) [] := by
  refine cal_by F sc_cost_in rfl rfl rfl (fun _ _ _ _ _ _ us hl => match us, hl with | [_, _], _ => rfl) (fun vs H Q E ⟨_, _, _, _, _, _, _, e, _⟩ => by rw [e]; rfl) fun f cdv A outer s H vs Q E hr h => ?_
  obtain ⟨L, t, v, u, ns, kvs, d, rfl, hL, ht, rv, hu', ru, hb, k⟩ := h
  have o := w0 K L
  have hu := hu_of hr
  have S : Sl (W0 K L) H (start N_cost_in [.ref t, v]) [.va (.ref t), .da (.tuple (ns.map .int))] := .cons (s := .va _) rfl (.cons ⟨_, rfl, rv⟩ .nil)
  refine ⟨_, (pss_c (ps_if (pt_cmpR op_isN (pe_dget hu (pv 0) (pv 1) (fun _ _ => rfl)) pe_non (nomark _)) (pss_one (ps_ret pe_non)) pss_nil)
  (pss_one (ps_ret (pe_ix ix_seq (pe_dget hu (pv 0) (pv 1) (fun _ _ => rfl)) pe_int (fun _ _ => rfl))))), ?_⟩
  have get : ∀ {H'}, Kp No H H' → Ed (W0 K L) (tDGet (tVar 0) (tVar 1)) (start N_cost_in [.ref t, v]) H' d := fun {H'} w' => e_of o (e_dget o (ns := ns) (e_val o (S.mono o w') rfl) (e_var o (S.mono o w') rfl) (fun H'' w'' => (w'.trans w'').dT (fun z => z.elim) ht) hu') (DT.mono o w' ru)
  refine s_if o (t_test o (e_isN o (get (Kp.refl _ _)))) (fun c H1 w1 => ?_) (fun c H1 w1 => ?_)
  · refine s_ret o (e_non o) fun v2 H2 w2 r2 => k v2 H2 (w1.trans w2) ?_
    rcases hb with rfl | ⟨c', ds, rfl, _⟩
    · exact r2
    · cases c
  · rcases hb with rfl | ⟨c', ds, rfl, _⟩
    · cases c
    · exact s_ret o (e_ixT o (i := 0) (d := .int c') (get w1) (e_int o) rfl) fun v2 H2 w2 r2 => k v2 H2 (w1.trans w2) r2
theorem e_callCI {L : Addr → Prop} {H : Hp} {σ : L2.St} {ρ : List Ds} {i : Nat} {t : Addr} {tx : TE} {ns : List Int} {kvs : List (List L2.Key × V)} {u : V} {d : PyData} (S : Sl (W0 K L) H σ ρ) (hi : ρ[i]? = some (.va (.ref t))) (hx : Ed (W0 K L) tx σ H (.tuple (ns.map .int))) (hL : ∀ a, L a → H a ≠ none) (ht : H t = some (.dT kvs)) (hu : valV kvs (iks ns) = some u) (ru : DT K L H u d) (hb : BvOk 100 d) :
    Ed (W0 K L) (tCall (spCI K) [] E0 (tCons (tVar i) (tCons tx tNil))) σ H (oi (bvCost d)) := fun H1 w1 Q q =>
  ⟨_, S.va hi, hx H1 w1 _ fun v H2 w2 r => ⟨L, t, v, u, ns, kvs, d, rfl, (w1.trans w2).un hL, (w1.trans w2).dT (fun z => z.elim) ht, r, hu, DT.mono (w0 K L) (w1.trans w2) ru, hb, fun v' H' k' r' => q v' H' (w2.trans k') r'⟩⟩
theorem e_callBR {L : Addr → Prop} {H : Hp} {σ : L2.St} {ρ : List Ds} {i : Nat} {t : Addr} {t1 t2 t3 : TE} {p : Pt} {M : Mch} {r : Rg} {far : Nat} {kvs : List (List L2.Key × V)} (S : Sl (W0 K L) H σ ρ) (hi : ρ[i]? = some (.va (.ref t))) (h1 : Ed (W0 K L) t1 σ H p.d) (h2 : Ed (W0 K L) t2 σ H M.d) (h3 : Ed (W0 K L) t3 σ H r.d) (hL : ∀ a, L a → H a ≠ none) (ht : H t = some (.dT kvs))
    (gm : Mvs M.moves) (gt : ∀ m ∈ M.moves, m.t < (M.ends.length : Int)) (g1 : 1 ≤ M.ends.length) (hfar : p.ext r = (far : Int)) (hf : far ≤ 100) (htab : ∀ x, Pcs p M.moves r x → ∃ v d, valV kvs (iks x.ns) = some v ∧ DT K L H v d ∧ BvOk 100 d) :
    EvP (W0 K L) (tCall (spBR K) [] E0 (tCons t1 (tCons t2 (tCons t3 (tCons (tVar i) tNil))))) σ H fun v H' => ∃ rr kv, v = .ref rr ∧ H rr = none ∧ H' rr = some (.dT kv) ∧ ∀ s o, Reach M.moves far s o → ∃ v d, valV kv (iks [s, (o : Nat)]) = some v ∧ DT K L H' v d ∧ BvOk 100 d := fun H1 w1 Q q =>
  h1 H1 w1 _ fun v1 H2 w2 r1 => h2 H2 (w1.trans w2) _ fun v2 H3 w3 r2 => h3 H3 ((w1.trans w2).trans w3) _ fun v3 H4 w4 r3 => by
    have o := w0 K L
    have w14 : Kp No H H4 := ((w1.trans w2).trans w3).trans w4
    refine ⟨_, S.va hi, L, p, M, r, t, v1, v2, v3, kvs, far, rfl, w14.un hL, DT.mono o (w3.trans w4) r1, DT.mono o w4 r2, r3, w14.dT (fun z => z.elim) ht, gm, gt, g1, hfar, hf, fun x hx => ?_, fun rr kv H' k' hn hr' hv => q _ H' (((w2.trans w3).trans w4).trans k') ⟨rr, kv, rfl, w14.free hn, hr', hv⟩⟩
    obtain ⟨v, d, a1, a2, a3⟩ := htab x hx
    exact ⟨v, d, a1, DT.mono o w14 a2, a3⟩
theorem e_dget_of {L : Addr → Prop} {H : Hp} {σ : L2.St} {td ty : TE} {ns : List Int} {Z : PyData → Prop} (hd : EvP (W0 K L) td σ H fun x H' => ∃ rr kv v d, x = .ref rr ∧ H' rr = some (.dT kv) ∧ valV kv (iks ns) = some v ∧ DT K L H' v d ∧ Z d) (hk : ∀ H', Kp No H H' → Ed (W0 K L) ty σ H' (.tuple (ns.map .int))) :
    EvP (W0 K L) (tDGet td ty) σ H fun v H' => ∃ d, Z d ∧ DT K L H' v d := fun H1 w1 Q q =>
  hd H1 w1 _ fun x H2 w2 ⟨rr, kv, v, d, ex, hr, hv, rv, hz⟩ => hk H2 (w1.trans w2) H2 (Kp.refl _ _) _ fun y H3 w3 r3 => by
    subst ex
    obtain ⟨b, rfl, hb⟩ := r3.keyI
    exact ⟨rr, v, rfl, by rw [← hv]; exact DGet.t (w3.dT (fun z => z.elim) hr) hb, q v H3 (w2.trans w3) ⟨d, hz, DT.mono (w0 K L) w3 rv⟩⟩
/-- needed_with(..)[0] -/
theorem e_needed {L : Addr → Prop} {H : Hp} {σ : L2.St} {tx : TA} {ps : List Pt} {ms : List (Option Mch)} {r : Rg} (hL : ∀ a, L a → H a ≠ none) (h : Ea (W0 K L) tx σ H [pts ps, mcs ms, r.d]) (G : Gram ps ms) (g : Page ps r) : EvP (W0 K L) (tOp (rIx K) (tCall (spN K [] Rneeded) [] E0 tx) (tC (.int 0))) σ H fun v H' => ∃ l, NeedL ps ms r l ∧ DT K L H' v (.list (l.map Rg.d)) := fun H1 w1 Q q =>
  e_callN (w0 K L) (C := W0 K L) noT hL h ⟨ps, ms, r, G, g, rfl, rfl⟩ H1 w1 _ fun v H2 w2 hz => by
    obtain ⟨d, ⟨l, n, hl, ed⟩, rd⟩ := hz
    subst ed
    obtain ⟨a, xs, rfl, hs, rx⟩ := DT.tupI rd
    obtain ⟨x, hx, rx'⟩ := rx.get (i := 0) (d := .list (l.map Rg.d)) rfl
    exact .inr (.inl ⟨a, xs, _, x, rfl, rfl, hs, atI_nat (j := 0) hx, q x H2 w2 ⟨l, hl, rx'⟩⟩)
abbrev N_best_table : List Str := ["parts", "region", "rows", "wishes", "machine_of", "table", "one", "part", "found"]
abbrev s_best_table : Stmt := top 33
theorem sc_best_table : FnScope ["parts", "region", "rows", "wishes", "machine_of", "table", "one", "part", "found"] ["parts", "region", "rows", "wishes"] (defScope s_best_table) := ⟨rfl, rfl, rfl, by decide +kernel, rfl, by decide +kernel, by decide +kernel⟩
structure BtPre (ps : List Pt) (r : Rg) (rows : List Str) : Prop where
  ch : ∀ p ∈ ps, p.isStrip = true → p.ch.dep ≤ 3 ∧ p.ch.cnt ≤ 50
  G : Gram ps (machsOf ps)
  g : Page ps r
  im : Img rows
def TabN (K : PySem.W.Frag) (L : Addr → Prop) (H : Hp) (kvs : List (List L2.Key × V)) (ps : List Pt) (r : Rg) : Prop := ∀ x, Needed ps (machsOf ps) r x → ∃ v d, valV kvs (iks x.ns) = some v ∧ DT K L H v d ∧ BvOk 100 d
def spBT (K : PySem.W.Frag) (Ts : List Addr) : Sp := fun vs H Q _ => ∃ (L : Addr → Prop) (ps : List Pt) (r : Rg) (rows : List Str) (fixed forb : List Rg), (∀ P ∈ Ts, GxR.TabG H P) ∧ (∀ a, L a → H a ≠ none) ∧ DTs K L H vs [pts ps, r.d, .tuple (rows.map .str), wish fixed forb] ∧ BtPre ps r rows ∧
  ∀ t kvs H', Kp No H H' → H t = none → H' t = some (.dT kvs) → TabN K L H' kvs ps r → Q (.ref t) H'
theorem ok_best_table {Ts : List Addr} (F : DefA K mg "best_table" s_best_table) (c_machines : C8.Cal P w K mg base 12 "machines" (spD K Rmachines) []) (c_needed_with : C8.Cal P w K mg base 4 "needed_with" (spN K [] Rneeded) []) (c_allowed : C8.Cal P w K mg base 3 "allowed" (spG K Ts Rallowed) []) (c_is_strip : C8.Cal P w K mg base 1 "is_strip" (spD K RisStrip) [])
    (c_best_rests : C8.Cal P w K mg base 2 "best_rests" (spBR K) []) (c_fits : C8.Cal P w K mg base 1 "fits" (spD K Rfits) []) (c_leaf_cost : C8.Cal P w K mg base 2 "leaf_cost" (spD K Rleaf_cost) []) : C8.Cal P w K mg base 13 "best_table" (spBT K Ts) [] := by
  refine cal_by F sc_best_table rfl rfl rfl (fun _ _ _ _ _ _ us hl => match us, hl with | [_, _, _, _], _ => rfl) (fun vs H Q E ⟨_, _, _, _, _, _, _, _, e, _⟩ => by have := e.length; exact this) fun f cdv A outer s H vs Q E hr h => ?_
  obtain ⟨L, ps, r, rows, fixed, forb, hTs, hL, hd, ⟨pc, G, g, im⟩, k⟩ := h
  have o := w0 K L
  have hu := hu_of hr
  have S := Sl.start (C := W0 K L) (N := N_best_table) hd
  refine ⟨_, (pss_c (ps_set (i := 4) sc_best_table.nd rfl (Or.inl rfl) (C8.pe_c c_machines hr (by omega) rfl (pa_cons (pv 0) pa_nil)))
  (pss_c (ps_set (i := 5) sc_best_table.nd rfl (Or.inl rfl) pe_dnewT)
  (pss_c (ps_for PassesOwn.never rfl (pi_list (pe_ix ix_seq (C8.pe_c c_needed_with hr (by omega) rfl (pa_cons (pv 0) (pa_cons (pv 4) (pa_cons (pv 1) pa_nil)))) pe_int (fun _ _ => rfl))) (pg_name (i := 6) sc_best_table.nd rfl (Or.inl rfl)) (pss_c (ps_set (i := 7) sc_best_table.nd rfl (Or.inl rfl) (pe_ix ix_seq (pv 0) (pe_ix ix_seq (pv 6) pe_int (fun _ _ => rfl)) (fun _ _ => rfl)))
  (pss_c (ps_set (i := 8) sc_best_table.nd rfl (Or.inl rfl) pe_non)
  (pss_c (ps_if (pt_val (C8.pe_c c_allowed hr (by omega) rfl (pa_cons (pv 0) (pa_cons (pv 6) (pa_cons (pv 3) pa_nil))))) (pss_one (ps_if (pt_val (C8.pe_c c_is_strip hr (by omega) rfl (pa_cons (pv 7) pa_nil))) (pss_one (ps_set (i := 8) sc_best_table.nd rfl (Or.inl rfl) (pe_dget hu (C8.pe_c c_best_rests hr (by omega) rfl (pa_cons (pv 7) (pa_cons (pe_ix ix_seq (pv 4) (pe_ix ix_seq (pv 6) pe_int (fun _ _ => rfl)) (fun _ _ => rfl)) (pa_cons (pv 6) (pa_cons (pv 5) pa_nil))))) (pe_tup (pa_cons pe_int (pa_cons pe_int pa_nil))) (fun _ _ => rfl)))) (pss_one (ps_if (pt_val (C8.pe_c c_fits hr (by omega) rfl (pa_cons (pv 7) (pa_cons (pv 6) pa_nil)))) (pss_one (ps_set (i := 8) sc_best_table.nd rfl (Or.inl rfl) (pe_tup (pa_cons (C8.pe_c c_leaf_cost hr (by omega) rfl (pa_cons (pv 7) (pa_cons (pv 6) (pa_cons (pv 2) pa_nil)))) (pa_cons (pe_tup pa_nil) pa_nil))))) pss_nil)))) pss_nil)
  (pss_one (ps_dput hu (pv 5) (pv 6) (pv 8) rfl))))))
  (pss_one (ps_ret (pv 5)))))), ?_⟩
  have hpsl := G.few
  refine s_set o (e_call o hL (a_cons o (e_var o S rfl) (a_nil o)) ⟨ps, by omega, pc, rfl, rfl⟩) fun v1 H1 w1 r1 => ?_
  have S1 := (S.mono o w1).putD (i := 4) r1
  refine s_newD (i := 5) S1 fun q hq S2 => ?_
  have o2 := w0 K (Lp L q)
  have hM : ∀ a, a = q → Lp L q a := fun a e => .inr e
  have hq2 : upd H1 q (.dT []) q = some (.dT []) := upd_same
  have un2 : ∀ a, Lp L q a → upd H1 q (.dT []) a ≠ none := own_un (w1.un hL) _
  have kend : ∀ {H'}, Kp (· = q) (upd H1 q (.dT [])) H' → Kp No H H' := fun {H'} k' => w1.trans ((Kp.new hq).loc hq k')
  have fq : H q = none := w1.free hq
  generalize upd H1 q (.dT []) = H2 at S2 hq2 un2 kend ⊢
  refine s_forEv o2 (e_needed un2 (a_cons o2 (e_var o2 S2 rfl) (a_cons o2 (e_var o2 S2 rfl) (a_cons o2 (e_var o2 S2 rfl) (a_nil o2)))) G g) fun v3 H3 w3 ⟨l, hl, r3⟩ => ?_
  have S3 := S2.mono o2 w3
  have hll : l.length ≤ 6000 := by
    have := nodup_sub_len l _ hl.nd fun x hx => (((hl.iff x).mp hx).ins G g).all g
    have := allIn_len G r
    omega
  let Pv : Nat → L2.St → Hp → Prop := fun i σ' H' => Kp (· = q) H2 H' ∧ ∃ b6 b7 b8 kv, Sl (W0 K (Lp L q)) H' σ' [.da (pts ps), .da r.d, .da (.tuple (rows.map .str)), .da (wish fixed forb), .da (mcs (machsOf ps)), .va (.ref q), b6, b7, b8] ∧ H' q = some (.dT kv) ∧ kv.length ≤ i ∧
    ∀ x ∈ l.take i, ∃ v d, valV kv (iks x.ns) = some v ∧ DT K (Lp L q) H' v d ∧ BvOk 100 d
  refine s_forN o2 (ds := l.map Rg.d) (e_c o2 r3) Pv (M := (· = q)) hM (fun H' w' => ⟨(w3.trans w').mono fun _ z => z.elim, .un, .un, .un, [], S3.mono o2 w', (w3.trans w').dT (fun z => z.elim) hq2, Nat.le_refl _, fun x h => by simp at h⟩)
    (fun H4 w4 i d v σ5 H5 hi rd k45 ⟨k5, b6, b7, b8, kv, S5, hq5, hkl, hkv⟩ => ?_) (fun H4 w4 σ5 H5 k45 ⟨k5, b6, b7, b8, kv, S5, hq5, hkl, hkv⟩ => ?_)
  · rw [List.getElem?_map] at hi
    cases hx : l[i]? with
    | none => rw [hx] at hi; cases hi
    | some x =>
      rw [hx] at hi
      cases hi
      have hxl : x ∈ l := List.mem_of_getElem? hx
      have hN := (hl.iff x).mp hxl
      have hin := hN.ins G g
      obtain ⟨p, hp⟩ := hin.part
      have hpd : (ps.map Pt.d)[x.p.toNat]? = some p.d := by rw [List.getElem?_map, hp]; rfl
      have hext := hin.ext g p
      have S6 := S5.putD (i := 6) rd
      have un5 := k5.un un2
      refine s_set o2 (e_ixTz o2 (ds := ps.map Pt.d) (e_var o2 S6 rfl) (e_rg o2 (r := x) (e_var o2 S6 rfl) 0) hin.p0 hpd) fun v7 H7 w7 r7 => ?_
      have S7 := (S6.mono o2 w7).putD (i := 7) r7
      refine s_set (te := tC .non) (i := 8) o2 (e_non o2) fun v8 H8 w8 r8 => ?_
      have S8 := (S7.mono o2 w8).putD (i := 8) r8
      have w58 : Kp No H5 H8 := w7.trans w8
      -- table[one] = found
      have main : ∀ {σ9 H9 d9}, Kp No H5 H9 → Sl (W0 K (Lp L q)) H9 σ9 [.da (pts ps), .da r.d, .da (.tuple (rows.map .str)), .da (wish fixed forb), .da (mcs (machsOf ps)), .va (.ref q), .da x.d, .da p.d, .da d9] → BvOk 100 d9 → ∀ {rt bk ct}, sDPut (tVar 5) (tVar 6) (tVar 8) ⟨fun σ3 H3 => Kp (· = q) H4 H3 ∧ Pv (i + 1) σ3 H3, rt, bk, ct⟩ σ9 H9 := fun {σ9 H9 d9} w9 S9 hb9 {rt bk ct} => by
        refine s_dput (ns := x.ns) (e_var o2 S9 rfl) (fun H' w => e_val o2 (S9.mono o2 w) rfl) (fun H' w => e_var o2 (S9.mono o2 w) rfl) (fun v H1 H2 k h => DT.mono o2 k h) (fun H' w => (w9.trans w).dT (fun z => z.elim) hq5) (lt_size (by have := (List.getElem?_eq_some_iff.mp hx).1; omega)) fun v12 H12 w12 r12 hq12 => ?_
        have k13 : Kp (· = q) H12 (upd H12 q (.dT (putK kv (iks x.ns) v12))) := (Kp.refl _ _).dput hq12
        have kk : Kp (· = q) H5 (upd H12 q (.dT (putK kv (iks x.ns) v12))) := ((w9.trans w12).mono fun _ z => z.elim).trans k13
        refine ⟨k45.trans kk, k5.trans kk, _, _, _, _, (S9.mono o2 w12).step hM k13, upd_same, Nat.le_trans putK_len (by omega), fun y hy => ?_⟩
        by_cases he : y = x
        · subst he
          exact ⟨v12, d9, valV_put_same _ _ _, DT.step hM k13 r12, hb9⟩
        · have hy' : y ∈ l.take i := by
            rw [take_snoc hx] at hy
            rcases List.mem_append.mp hy with h | h
            · exact h
            · exact absurd (List.mem_singleton.mp h) he
          obtain ⟨v, d, e1, e2, e3⟩ := hkv y hy'
          exact ⟨v, d, by rw [valV_put_ne _ _ fun z => he (Rg.ns_inj (iks_inj z))]; exact e1, DT.step hM kk e2, e3⟩
      have hTs8 : ∀ P ∈ Ts, GxR.TabG H8 P := fun P hP => w58.tab P ((kend k5).tab P (hTs P hP))
      refine s_if o2 (t_B o2 (e_callG o2 hTs8 (w58.un un5) (a_cons o2 (e_var o2 S8 rfl) (a_cons o2 (e_var o2 S8 rfl) (a_cons o2 (e_var o2 S8 rfl) (a_nil o2)))) ⟨ps, p, x, fixed, forb, hin.p0, hp, rfl, rfl⟩)) (fun ca H9 w9 => ?_) (fun ca H9 w9 => ?_)
      · have S9 := S8.mono o2 w9
        have w59 : Kp No H5 H9 := w58.trans w9
        refine s_if o2 (t_B o2 (e_call o2 (w59.un un5) (a_cons o2 (e_var o2 S9 rfl) (a_nil o2)) ⟨p, rfl, rfl⟩)) (fun cs H10 w10 => ?_) (fun cs H10 w10 => ?_)
        · have S10 := S9.mono o2 w10
          have w510 : Kp No H5 H10 := w59.trans w10
          obtain ⟨M, hM', gm, g1, g5, gmm⟩ := G.strip _ p hp cs
          have hmd : ((machsOf ps).map mchD)[x.p.toNat]? = some M.d := by rw [List.getElem?_map, hM']; rfl
          obtain ⟨far, hfar⟩ : ∃ far : Nat, p.ext x = (far : Int) := ⟨(p.ext x).toNat, by omega⟩
          refine s_set o2 (e_dget_of (ns := [0, 0]) (Z := BvOk 100) ((e_callBR (far := far) S10 rfl (e_var o2 S10 rfl) (e_ixTz o2 (ds := (machsOf ps).map mchD) (d := M.d) (e_var o2 S10 rfl) (e_rg o2 (r := x) (e_var o2 S10 rfl) 0) hin.p0 hmd) (e_var o2 S10 rfl) (w510.un un5) (w510.dT (fun z => z.elim) hq5) gm (fun m hm => (gmm m hm).2.2.2.2.1) g1 hfar (by omega) fun y hy => ?_).imp (fun v' H' w' ⟨rr, kv', e1, e2, e3, e4⟩ => ?_) o2) fun H' w' => e_tup o2 (a_cons o2 (e_int o2) (a_cons o2 (e_int o2) (a_nil o2)))) fun v11 H11 w11 hz => ?_
          · have hn : Nxt ps (machsOf ps) x y := ⟨p, M, hp, hM', hy⟩
            have hyN : Needed ps (machsOf ps) r y := .step hN hn
            have hlt := (hin.next G g hn).2
            have hyl := (hl.iff y).mpr hyN
            obtain ⟨j, hj, ej⟩ := List.getElem_of_mem hyl
            obtain ⟨hil, ei⟩ := List.getElem?_eq_some_iff.mp hx
            have hji : j < i := by
              rcases Nat.lt_trichotomy j i with h | h | h
              · exact h
              · subst h
                rw [ei] at ej
                rw [← ej] at hlt
                omega
              · have := (List.pairwise_iff_getElem.mp hl.up) i j hil hj h
                rw [ei, ej] at this
                omega
            obtain ⟨v, d, e1, e2, e3⟩ := hkv y (List.mem_of_getElem? (i := j) (by rw [List.getElem?_take_of_lt hji, List.getElem?_eq_getElem hj, ej]))
            exact ⟨v, d, e1, DT.mono o2 w510 e2, e3⟩
          · obtain ⟨v, d, a1, a2, a3⟩ := e4 0 0 .start
            exact ⟨rr, kv', v, d, e1, e3, a1, a2, a3⟩
          · obtain ⟨d, hz, rd'⟩ := hz
            exact main (w510.trans w11) ((S10.mono o2 w11).putD (i := 8) rd') hz
        · have S10 := S9.mono o2 w10
          have w510 : Kp No H5 H10 := w59.trans w10
          obtain ⟨_, lf⟩ := G.leaf _ p hp cs
          have hw := g.w; have hh := g.h; have i1 := hin.w0; have i2 := hin.h0; have i3 := hin.x0; have i4 := hin.x1; have i5 := hin.y0; have i6 := hin.y1
          refine s_if o2 (t_B o2 (e_call o2 (w510.un un5) (a_cons o2 (e_var o2 S10 rfl) (a_cons o2 (e_var o2 S10 rfl) (a_nil o2))) ⟨p, x, lf, rfl, rfl⟩)) (fun cf H11 w11 => ?_) (fun cf H11 w11 => ?_)
          · have S11 := S10.mono o2 w11
            refine s_set o2 (e_tup o2 (a_cons o2 (e_call o2 ((w510.trans w11).un un5) (a_cons o2 (e_var o2 S11 rfl) (a_cons o2 (e_var o2 S11 rfl) (a_cons o2 (e_var o2 S11 rfl) (a_nil o2)))) ⟨p, x, rows, lf, cf, im, by omega, by omega, by omega, by omega, rfl, rfl⟩) (a_cons o2 (e_tup o2 (a_nil o2)) (a_nil o2)))) fun v12 H12 w12 r12 => ?_
            exact main ((w510.trans w11).trans w12) ((S11.mono o2 w12).putD (i := 8) r12) (.inr ⟨_, [], rfl, Nat.zero_le _⟩)
          · exact main (w510.trans w11) (S10.mono o2 w11) (.inl rfl)
      · exact main (w58.trans w9) (S8.mono o2 w9) (.inl rfl)
  · rw [List.length_map, List.take_length] at hkv
    refine s_ret o2 (e_val o2 S5 rfl) fun v6 H6 w6 e => ?_
    subst e
    refine k q kv H6 (kend (k5.trans (w6.mono fun _ z => z.elim))) fq (w6.dT (fun z => z.elim) hq5) fun x hx => ?_
    obtain ⟨v, d, e1, e2, e3⟩ := hkv x ((hl.iff x).mpr hx)
    exact ⟨v, d, e1, DT.less (fun a z => .inl z) (DT.mono o2 w6 e2), e3⟩
end
end SR

namespace SR
open PySem PySem.Spec PyProof.Rows L2
/-- leaves first, at most four, then at most two strips -/
def Two (ps : List Pt) : Prop := ∃ n : Nat, n ≤ 4 ∧ ps.length ≤ n + 2 ∧ ∀ (i : Nat) (p : Pt), ps[i]? = some p → (p.isStrip = true ↔ n ≤ i)
def stripR (ps : List Pt) (x : Rg) : Bool := match ps[x.p.toNat]? with
  | some p => p.isStrip
  | none => false
def cstR (ps : List Pt) : List Rg → Nat
  | [] => 0
  | x :: l => (if stripR ps x then 32 else 1) + cstR ps l
theorem cstR_app (ps : List Pt) : ∀ a b : List Rg, cstR ps (a ++ b) = cstR ps a + cstR ps b
  | [], b => by simp [cstR]
  | x :: a, b => by rw [List.cons_append, cstR, cstR, cstR_app ps a b]; omega
theorem cstR_take (ps : List Pt) (l : List Rg) (i : Nat) : cstR ps (l.take i) ≤ cstR ps l := by
  have := cstR_app ps (l.take i) (l.drop i)
  rw [List.take_append_drop] at this
  omega
theorem cstR_eq (ps : List Pt) : ∀ l : List Rg, cstR ps l = 32 * (l.filter (stripR ps)).length + (l.filter fun x => !stripR ps x).length
  | [] => rfl
  | x :: l => by
    rw [cstR, cstR_eq ps l, List.filter_cons, List.filter_cons]
    cases stripR ps x
    · simp; omega
    · simp; omega
def pairsL : List (Nat × Nat) := ((List.range 6).flatMap fun a => (List.range 4).map fun z => (a, z + 1)).filter fun x => decide (x.1 + x.2 ≤ 6)
def pairsW : List (Nat × Nat) := ((List.range 6).flatMap fun a => (List.range 6).map fun z => (a, z + 1)).filter fun x => decide (x.1 + x.2 ≤ 6)
def pairsH : List (Nat × Nat) := ((List.range 4).flatMap fun a => (List.range 4).map fun z => (a, z + 1)).filter fun x => decide (x.1 + x.2 ≤ 4)
theorem pairsL_len : pairsL.length = 18 := by decide +kernel
theorem pairsW_len : pairsW.length = 21 := by decide +kernel
theorem pairsH_len : pairsH.length = 10 := by decide +kernel
theorem mem_pairs {A Z T a z : Nat} (h1 : a < A) (h2 : 1 ≤ z) (h3 : z ≤ Z) (h4 : a + z ≤ T) : (a, z) ∈ ((List.range A).flatMap fun a => (List.range Z).map fun z => (a, z + 1)).filter fun x => decide (x.1 + x.2 ≤ T) := by
  refine List.mem_filter.mpr ⟨List.mem_flatMap.mpr ⟨a, List.mem_range.mpr h1, List.mem_map.mpr ⟨z - 1, List.mem_range.mpr (by omega), ?_⟩⟩, decide_eq_true h4⟩
  rw [Nat.sub_add_cancel h2]
def leafL (r : Rg) : List Rg := (List.range 4).flatMap fun n : Nat => pairsW.flatMap fun x : Nat × Nat => pairsH.map fun y : Nat × Nat => ⟨(n : Int), r.x + (x.1 : Int), r.y + (y.1 : Int), (x.2 : Int), (y.2 : Int)⟩
theorem leafL_len (r : Rg) : (leafL r).length ≤ 840 := by
  have h2 : ∀ n : Nat, (pairsW.flatMap fun x : Nat × Nat => pairsH.map fun y : Nat × Nat => (⟨(n : Int), r.x + (x.1 : Int), r.y + (y.1 : Int), (x.2 : Int), (y.2 : Int)⟩ : Rg)).length ≤ 210 := fun n => by
    have := flat_len (fun x : Nat × Nat => pairsH.map fun y : Nat × Nat => (⟨(n : Int), r.x + (x.1 : Int), r.y + (y.1 : Int), (x.2 : Int), (y.2 : Int)⟩ : Rg)) 10 pairsW fun x _ => by rw [List.length_map, pairsH_len]; exact Nat.le_refl _
    rw [pairsW_len] at this
    omega
  have := flat_len (fun n : Nat => pairsW.flatMap fun x : Nat × Nat => pairsH.map fun y : Nat × Nat => (⟨(n : Int), r.x + (x.1 : Int), r.y + (y.1 : Int), (x.2 : Int), (y.2 : Int)⟩ : Rg)) 210 (List.range 4) fun n _ => h2 n
  rw [List.length_range] at this
  exact this
theorem Needed.strip {ps : List Pt} {ms : List (Option Mch)} {r x : Rg} {n : Nat} (G : Gram ps ms) (g : Page ps r) (hl : ps.length ≤ n + 2) (hn : ∀ (i : Nat) (p : Pt), ps[i]? = some p → (p.isStrip = true ↔ n ≤ i)) (h : Needed ps ms r x) (hs : stripR ps x = true) : x = r ∨ x.p = (n : Int) ∧ Nxt ps ms r x := by
  have big : ∀ {y : Rg}, Ins ps r y → stripR ps y = true → (n : Int) ≤ y.p := fun {y} hi h => by
    unfold stripR at h
    obtain ⟨p, hp⟩ := hi.part
    rw [hp] at h
    have := (hn _ p hp).mp h
    have := hi.p0
    omega
  have str : ∀ {y z : Rg}, Nxt ps ms y z → stripR ps y = true := fun {y z} ⟨p, M, hp, hM, _⟩ => by
    unfold stripR
    rw [hp]
    cases e : p.isStrip with
    | true => exact e
    | false =>
      have := (G.leaf _ p hp e).1
      rw [hM] at this
      cases this
  induction h with
  | refl => exact .inl rfl
  | step h' nx ih =>
    have hi := h'.ins G g
    obtain ⟨hi2, hlt⟩ := hi.next G g nx
    have b2 := big hi2 hs
    rcases ih (str nx) with e | ⟨e, _⟩
    · subst e
      have := hi.p1
      exact .inr ⟨by omega, nx⟩
    · omega
theorem NeedL.cst {ps : List Pt} {ms : List (Option Mch)} {r : Rg} {l : List Rg} (G : Gram ps ms) (g : Page ps r) (T : Two ps) (h : NeedL ps ms r l) : cstR ps l ≤ 1448 := by
  obtain ⟨n, hn4, hl, hn⟩ := T
  have a1 : (l.filter fun x => !stripR ps x).length ≤ 840 := by
    refine Nat.le_trans (nodup_sub_len _ (leafL r) (h.nd.filter _) fun x hx => ?_) (leafL_len r)
    obtain ⟨hx, hs⟩ := List.mem_filter.mp hx
    have hi := ((h.iff x).mp hx).ins G g
    obtain ⟨p, hp⟩ := hi.part
    have hs' : p.isStrip = false := by
      unfold stripR at hs
      rw [hp] at hs
      simpa using hs
    have hlt : x.p.toNat < n := by
      rcases Nat.lt_or_ge x.p.toNat n with c | c
      · exact c
      · rw [(hn _ p hp).mpr c] at hs'; cases hs'
    have := g.w; have := g.h; have a0 := hi.p0; have a1 := hi.p1; have a2 := hi.x0; have a3 := hi.x1; have a4 := hi.y0; have a5 := hi.y1; have a6 := hi.w0; have a7 := hi.h0
    refine List.mem_flatMap.mpr ⟨x.p.toNat, List.mem_range.mpr (by omega), List.mem_flatMap.mpr ⟨((x.x - r.x).toNat, x.w.toNat), mem_pairs (by omega) (by omega) (by omega) (by omega), List.mem_map.mpr ⟨((x.y - r.y).toNat, x.h.toNat), mem_pairs (by omega) (by omega) (by omega) (by omega), ?_⟩⟩⟩
    cases x
    simp only [Rg.mk.injEq]
    simp only at a0 a1 a2 a3 a4 a5 a6 a7
    refine ⟨by omega, by omega, by omega, by omega, by omega⟩
  have a2 : (l.filter (stripR ps)).length ≤ 19 := by
    obtain ⟨p, hp⟩ := g.ins.part
    refine Nat.le_trans (nodup_sub_len _ (r :: pairsL.map fun x => p.piece r (x.1 : Int) (n : Int) (x.2 : Int)) (h.nd.filter _) fun x hx => ?_) (by rw [List.length_cons, List.length_map, pairsL_len]; exact Nat.le_refl _)
    obtain ⟨hx, hs⟩ := List.mem_filter.mp hx
    have hN := (h.iff x).mp hx
    rcases hN.strip G g hl hn hs with e | ⟨e, p', M, hp', hM, s, o, k, z, m, hr, hlk, hm, rfl⟩
    · subst e; exact List.mem_cons_self
    · rw [hp] at hp'
      cases hp'
      have hst : p.isStrip = true := by
        cases e : p.isStrip with
        | true => rfl
        | false =>
          have := (G.leaf _ p hp e).1
          rw [hM] at this
          cases this
      obtain ⟨M', hM', gm, _, _, hgm⟩ := G.strip _ p hp hst
      rw [hM] at hM'
      cases hM'
      obtain ⟨m', hm', _, k1, k2⟩ := mem_looks.mp hlk
      rw [hm] at hm'
      cases hm'
      have hle := (hr.le gm).1
      have he := g.ins.ext g p
      have hml := gm.g m (List.mem_of_getElem? hm)
      have en : m.p = (n : Int) := by
        rw [← e]
        unfold Pt.piece
        split <;> rfl
      refine List.mem_cons_of_mem _ (List.mem_map.mpr ⟨(o, z.toNat), mem_pairs (by omega) (by omega) (by omega) (by omega), ?_⟩)
      rw [en, Int.toNat_of_nonneg (by omega)]
  rw [cstR_eq]
  omega
/-- a bound -/
structure Bd where
  r : Rg
  at_ : Option (Int × Int)
  least : Option Int
def Bd.key (b : Bd) : List PyData := [.int b.r.p, .int b.r.x, .int b.r.y, .int b.r.w, .int b.r.h, oi (b.at_.map (·.1)), oi (b.at_.map (·.2))]
def Bd.d (b : Bd) : PyData := .tuple (b.key ++ [oi b.least])
structure BdOk (ps : List Pt) (r : Rg) (b : Bd) : Prop where
  ins : Ins ps r b.r
  at_ : ∀ s o, b.at_ = some (s, o) → 0 ≤ s ∧ s ≤ 100 ∧ 0 ≤ o ∧ o ≤ 100
section
variable {P : Program} {w : World} {K : PySem.W.Frag} {mg : Str → Option Value} {base : Heap}
theorem e_lenO {C : Wd} (o : C.Ok) {H : Hp} {σ : L2.St} {ta : TE} {p : Addr} {xs : List V} (ha : Ee C ta σ H (.ref p)) (hx : ∀ H', C.W H H' → H' p = some (.lst xs)) : Ed C (tCB (rLen C.K) (tCons ta tNil)) σ H (.int xs.length) := fun H1 w Q q =>
  ha H1 w _ fun x H2 w2 e => by
    subst e
    exact ⟨_, _, rfl, .inl ⟨xs, SqL.of (hx H2 (o.trans w w2)), rfl⟩, q _ H2 w2 (.int _)⟩
abbrev N_all_bounds : List Str := ["parts", "region", "rows", "wishes", "machine_of", "table", "found", "one", "part", "rests", "state", "offset"]
abbrev s_all_bounds : Stmt := top 39
theorem sc_all_bounds : FnScope ["parts", "region", "rows", "wishes", "machine_of", "table", "found", "one", "part", "rests", "state", "offset"] ["parts", "region", "rows", "wishes"] (defScope s_all_bounds) := ⟨rfl, rfl, rfl, by decide +kernel, rfl, by decide +kernel, by decide +kernel⟩
theorem e_callBT {Ts : List Addr} {L : Addr → Prop} {H : Hp} {σ : L2.St} {tx : TA} {ps : List Pt} {r : Rg} {rows : List Str} {fixed forb : List Rg} (hTs : ∀ P ∈ Ts, GxR.TabG H P) (hL : ∀ a, L a → H a ≠ none) (h : Ea (W0 K L) tx σ H [pts ps, r.d, .tuple (rows.map .str), wish fixed forb]) (bp : BtPre ps r rows) :
    EvP (W0 K L) (tCall (spBT K Ts) [] E0 tx) σ H fun v H' => ∃ t kvs, v = .ref t ∧ H t = none ∧ H' t = some (.dT kvs) ∧ TabN K L H' kvs ps r := fun H1 w1 Q q =>
  h H1 w1 _ fun vs H2 w2 rd => ⟨L, ps, r, rows, fixed, forb, fun P hP => (w1.trans w2).tab P (hTs P hP), (w1.trans w2).un hL, by rw [List.append_nil]; exact rd, bp, fun t kvs H' k' hn ht htab => q _ H' (w2.trans k') ⟨t, kvs, rfl, (w1.trans w2).free hn, ht, htab⟩⟩
def spAB (K : PySem.W.Frag) (Ts : List Addr) : Sp := fun vs H Q _ => ∃ (L : Addr → Prop) (ps : List Pt) (r : Rg) (rows : List Str) (fixed forb : List Rg), (∀ P ∈ Ts, GxR.TabG H P) ∧ (∀ a, L a → H a ≠ none) ∧ DTs K L H vs [pts ps, r.d, .tuple (rows.map .str), wish fixed forb] ∧ BtPre ps r rows ∧ Two ps ∧
  ∀ v (bs : List Bd) H', Kp No H H' → DT K L H' v (.list (bs.map Bd.d)) → bs.length ≤ 1500 → (∀ b ∈ bs, BdOk ps r b) → Q v H'
theorem ok_all_bounds {Ts : List Addr} (F : DefA K mg "all_bounds" s_all_bounds) (B : Blt mg) (hBM : ∃ t, mg "BOUNDS_MOST" = some (.int 1500 t)) (c_machines : C8.Cal P w K mg base 12 "machines" (spD K Rmachines) []) (c_best_table : C8.Cal P w K mg base 13 "best_table" (spBT K Ts) []) (c_needed_with : C8.Cal P w K mg base 4 "needed_with" (spN K [] Rneeded) []) (c_cost_in : C8.Cal P w K mg base 1 "cost_in" (spCI K) []) (c_is_strip : C8.Cal P w K mg base 1 "is_strip" (spD K RisStrip) [])
    (c_best_rests : C8.Cal P w K mg base 2 "best_rests" (spBR K) []) (c_reached : C8.Cal P w K mg base 1 "reached" (spN K [] Rreached) []) (c_extent : C8.Cal P w K mg base 1 "extent" (spD K Rextent) []) : C8.Cal P w K mg base 14 "all_bounds" (spAB K Ts) [] := by
  refine cal_by F sc_all_bounds rfl rfl rfl (fun _ _ _ _ _ _ us hl => match us, hl with | [_, _, _, _], _ => rfl) (fun vs H Q E ⟨_, _, _, _, _, _, _, _, e, _⟩ => by have := e.length; exact this) fun f cdv A outer s H vs Q E hr h => ?_
  obtain ⟨L, ps, r, rows, fixed, forb, hTs, hL, hd, bp, T, k⟩ := h
  have o := w0 K L
  have hu := hu_of hr
  have S := Sl.start (C := W0 K L) (N := N_all_bounds) hd
  obtain ⟨tBM, hBM⟩ := hBM
  refine ⟨_, (pss_c (ps_set (i := 4) sc_all_bounds.nd rfl (Or.inl rfl) (C8.pe_c c_machines hr (by omega) rfl (pa_cons (pv 0) pa_nil)))
  (pss_c (ps_set (i := 5) sc_all_bounds.nd rfl (Or.inl rfl) (C8.pe_c c_best_table hr (by omega) rfl (pa_cons (pv 0) (pa_cons (pv 1) (pa_cons (pv 2) (pa_cons (pv 3) pa_nil))))))
  (pss_c (ps_set (i := 6) sc_all_bounds.nd rfl (Or.inl rfl) (pe_lst pa_nil))
  (pss_c (ps_for PassesOwn.never rfl (pi_list (pe_ix ix_seq (C8.pe_c c_needed_with hr (by omega) rfl (pa_cons (pv 0) (pa_cons (pv 4) (pa_cons (pv 1) pa_nil)))) pe_int (fun _ _ => rfl))) (pg_name (i := 7) sc_all_bounds.nd rfl (Or.inl rfl)) (pss_c (ps_set (i := 8) sc_all_bounds.nd rfl (Or.inl rfl) (pe_ix ix_seq (pv 0) (pe_ix ix_seq (pv 7) pe_int (fun _ _ => rfl)) (fun _ _ => rfl)))
  (pss_c (ps_expr (pe_bm PySem.F.plainAttrs_list PySem.F.slot_list_append PySem.F.type_list_append mt_append (pv 6) (pa_cons (pe_op op_catA (pv 7) (pe_tup (pa_cons pe_non (pa_cons pe_non (pa_cons (C8.pe_c c_cost_in hr (by omega) rfl (pa_cons (pv 5) (pa_cons (pv 7) pa_nil))) pa_nil))))) pa_nil)))
  (pss_c (ps_if (pt_val (C8.pe_c c_is_strip hr (by omega) rfl (pa_cons (pv 8) pa_nil))) (pss_c (ps_set (i := 9) sc_all_bounds.nd rfl (Or.inl rfl) (C8.pe_c c_best_rests hr (by omega) rfl (pa_cons (pv 8) (pa_cons (pe_ix ix_seq (pv 4) (pe_ix ix_seq (pv 7) pe_int (fun _ _ => rfl)) (fun _ _ => rfl)) (pa_cons (pv 7) (pa_cons (pv 5) pa_nil))))))
  (pss_one (ps_for PassesOwn.never rfl (pi_list (C8.pe_c c_reached hr (by omega) rfl (pa_cons (pe_ix ix_seq (pe_ix ix_seq (pv 4) (pe_ix ix_seq (pv 7) pe_int (fun _ _ => rfl)) (fun _ _ => rfl)) pe_int (fun _ _ => rfl)) (pa_cons (C8.pe_c c_extent hr (by omega) rfl (pa_cons (pv 8) (pa_cons (pv 7) pa_nil))) pa_nil)))) (pg_tup rfl (pgs_cons (pg_name (i := 10) sc_all_bounds.nd rfl (Or.inl rfl)) (pgs_cons (pg_name (i := 11) sc_all_bounds.nd rfl (Or.inl rfl)) pgs_nil))) (pss_one (ps_expr (pe_bm PySem.F.plainAttrs_list PySem.F.slot_list_append PySem.F.type_list_append mt_append (pv 6) (pa_cons (pe_op op_catA (pv 7) (pe_tup (pa_cons (pv 10) (pa_cons (pv 11) (pa_cons (C8.pe_c c_cost_in hr (by omega) rfl (pa_cons (pv 9) (pa_cons (pe_tup (pa_cons (pv 10) (pa_cons (pv 11) pa_nil))) pa_nil))) pa_nil))))) pa_nil))))))) pss_nil)
  (pss_one (ps_if (pt_cmpR op_gt (pe_callB call_len (by rfl) B.len PySem.boot_len (pa_cons (pv 6) pa_nil)) (pe_glob (v := .int 1500) (by rfl) hBM ⟨_, rfl⟩) (nomark _)) (pss_one ps_never) pss_nil))))))
  (pss_one (ps_ret (pv 6))))))), ?_⟩
  have G := bp.G
  have g := bp.g
  have hpsl := G.few
  refine s_set o (e_call o hL (a_cons o (e_var o S rfl) (a_nil o)) ⟨ps, by omega, bp.ch, rfl, rfl⟩) fun v1 H1 w1 r1 => ?_
  have S1 := (S.mono o w1).putD (i := 4) r1
  refine s_set o (e_callBT (fun P hP => w1.tab P (hTs P hP)) (w1.un hL) (a_cons o (e_var o S1 rfl) (a_cons o (e_var o S1 rfl) (a_cons o (e_var o S1 rfl) (a_cons o (e_var o S1 rfl) (a_nil o))))) bp) fun v2 H2 w2 hz => ?_
  obtain ⟨t, kvs, rfl, ht0, ht2, htab⟩ := hz
  have S2 := (S1.mono o w2).putV (i := 5) (v := .ref t)
  have w02 : Kp No H H2 := w1.trans w2
  refine s_new (i := 6) S2 fun q hq S3 => ?_
  have o3 := w0 K (Lp L q)
  have hM : ∀ a, a = q → Lp L q a := fun a e => .inr e
  have hq3 : upd H2 q (.lst []) q = some (.lst []) := upd_same
  have un3 : ∀ a, Lp L q a → upd H2 q (.lst []) a ≠ none := own_un (w02.un hL) _
  have kend : ∀ {H'}, Kp (· = q) (upd H2 q (.lst [])) H' → Kp No H H' := fun {H'} k' => w02.trans ((Kp.new hq).loc hq k')
  have htq : t ≠ q := fun e => by rw [e, hq] at ht2; cases ht2
  have ht3 : ∀ {H'}, Kp (· = q) (upd H2 q (.lst [])) H' → H' t = some (.dT kvs) := fun {H'} k' => k'.dT htq (by rw [upd_ne htq]; exact ht2)
  have htab3 : ∀ {H'}, Kp (· = q) (upd H2 q (.lst [])) H' → ∀ x, Needed ps (machsOf ps) r x → ∃ v d, valV kvs (iks x.ns) = some v ∧ DT K (Lp L q) H' v d ∧ BvOk 100 d := fun {H'} k' x hx => by
    obtain ⟨v, d, h1, h2, h3⟩ := htab x hx
    exact ⟨v, d, h1, DT.step hM k' (DT.own h2 hq _), h3⟩
  have fq : H q = none := w02.free hq
  generalize upd H2 q (.lst []) = H3 at S3 hq3 un3 kend ht3 htab3 ⊢
  refine s_forEv o3 (e_needed un3 (a_cons o3 (e_var o3 S3 rfl) (a_cons o3 (e_var o3 S3 rfl) (a_cons o3 (e_var o3 S3 rfl) (a_nil o3)))) G g) fun v4 H4 w4 hz => ?_
  obtain ⟨l, hl, r4⟩ := hz
  have S4 := S3.mono o3 w4
  have hcst := hl.cst G g T
  let Pv : Nat → L2.St → Hp → Prop := fun i σ' H' => Kp (· = q) H3 H' ∧ ∃ (b7 b8 b9 b10 b11 : Ds) (xs : List V) (bs : List Bd), Sl (W0 K (Lp L q)) H' σ' [.da (pts ps), .da r.d, .da (.tuple (rows.map .str)), .da (wish fixed forb), .da (mcs (machsOf ps)), .va (.ref t), .va (.ref q), b7, b8, b9, b10, b11] ∧ H' q = some (.lst xs) ∧ DTs K (Lp L q) H' xs (bs.map Bd.d) ∧ bs.length ≤ cstR ps (l.take i) ∧ ∀ b ∈ bs, BdOk ps r b
  refine s_forN o3 (ds := l.map Rg.d) (e_c o3 r4) Pv (M := (· = q)) hM (fun H' w' => ⟨(w4.trans w').mono fun _ z => z.elim, .un, .un, .un, .un, .un, [], [], S4.mono o3 w', (w4.trans w').lst (fun z => z.elim) hq3, .nil, Nat.zero_le _, fun b h => by cases h⟩)
    (fun H5 w5 i d v σ6 H6 hi rd k56 ⟨k6, b7, b8, b9, b10, b11, xs, bs, S6, hq6, rx, hlen, hbs⟩ => ?_) (fun H5 w5 σ6 H6 k56 ⟨k6, b7, b8, b9, b10, b11, xs, bs, S6, hq6, rx, hlen, hbs⟩ => ?_)
  · rw [List.getElem?_map] at hi
    cases hx : l[i]? with
    | none => rw [hx] at hi; cases hi
    | some x =>
      rw [hx] at hi
      cases hi
      have hxl : x ∈ l := List.mem_of_getElem? hx
      have hN := (hl.iff x).mp hxl
      have hin := hN.ins G g
      obtain ⟨p, hp⟩ := hin.part
      have hpd : (ps.map Pt.d)[x.p.toNat]? = some p.d := by rw [List.getElem?_map, hp]; rfl
      have hext := hin.ext g p
      have hcl : cstR ps (l.take (i + 1)) = cstR ps (l.take i) + (if p.isStrip then 32 else 1) := by
        rw [take_snoc hx, cstR_app]
        show _ + ((if stripR ps x then 32 else 1) + 0) = _
        unfold stripR
        rw [hp]
        rfl
      have hct := cstR_take ps l (i + 1)
      have S7 := S6.putD (i := 7) rd
      have un6 := k6.un un3
      refine s_set o3 (e_ixTz o3 (ds := ps.map Pt.d) (e_var o3 S7 rfl) (e_rg o3 (r := x) (e_var o3 S7 rfl) 0) hin.p0 hpd) fun v8 H8 w8 r8 => ?_
      have S8 := (S7.mono o3 w8).putD (i := 8) r8
      have un8 := w8.un un6
      have k38 : Kp (· = q) H3 H8 := k6.trans (w8.mono fun _ z => z.elim)
      obtain ⟨vx, dx, e1, e2, e3⟩ := htab3 k38 x hN
      have rx8 := DTs.mono o3 w8 rx
      refine s_app S8 rfl (w8.lst (fun z => z.elim) hq6) (lt_size (by rw [rx.length, List.length_map]; split at hcl <;> omega)) (e_cat o3 (ds := x.ns.map .int) (es := [.none, .none, oi (bvCost dx)]) (e_var o3 S8 rfl) (e_tup o3 (a_cons o3 (e_non o3) (a_cons o3 (e_non o3) (a_cons o3 (e_callCI S8 rfl (e_var o3 S8 rfl) un8 (ht3 k38) e1 e2 e3) (a_nil o3))))) (by show 5 + 3 ≤ 1000; decide)) fun v9 H9 w9 r9 hx9 => ?_
      have k9 : Kp (· = q) H9 (upd H9 q (.lst (xs ++ [v9]))) := (Kp.refl _ _).app hx9
      have k69 := ((w8.trans w9).mono (M := (· = q)) fun _ z => z.elim).trans k9
      have S10 := (S8.mono o3 w9).step hM k9
      have rx10 : DTs K (Lp L q) (upd H9 q (.lst (xs ++ [v9]))) (xs ++ [v9]) ((bs ++ [(⟨x, none, bvCost dx⟩ : Bd)]).map Bd.d) := by
        rw [List.map_append]
        exact DTs.step hM k9 ((DTs.mono o3 (w8.trans w9) rx).snoc r9)
      have hq10 : upd H9 q (.lst (xs ++ [v9])) q = some (.lst (xs ++ [v9])) := upd_same
      have hbs10 : ∀ b ∈ bs ++ [(⟨x, none, bvCost dx⟩ : Bd)], BdOk ps r b := fun b hb => by
        rcases List.mem_append.mp hb with h | h
        · exact hbs b h
        · rw [List.mem_singleton.mp h]
          exact ⟨hin, fun s o e => by cases e⟩
      have hlen10 : (bs ++ [(⟨x, none, bvCost dx⟩ : Bd)]).length ≤ cstR ps (l.take i) + 1 := by rw [List.length_append]; simp; omega
      generalize bs ++ [(⟨x, none, bvCost dx⟩ : Bd)] = bs10 at rx10 hbs10 hlen10
      generalize xs ++ [v9] = xs10 at k9 k69 S10 rx10 hq10 ⊢
      generalize upd H9 q (.lst xs10) = H10 at k9 k69 S10 rx10 hq10 ⊢
      have fin : ∀ {σ' : L2.St} {H' : Hp} {b9 b10 b11 : Ds} {xs' : List V} {bs' : List Bd} {rt bk ct} {u : TS}, Kp (· = q) H6 H' → Sl (W0 K (Lp L q)) H' σ' [.da (pts ps), .da r.d, .da (.tuple (rows.map .str)), .da (wish fixed forb), .da (mcs (machsOf ps)), .va (.ref t), .va (.ref q), .da x.d, .da p.d, b9, b10, b11] → H' q = some (.lst xs') → DTs K (Lp L q) H' xs' (bs'.map Bd.d) → bs'.length ≤ cstR ps (l.take (i + 1)) → (∀ b ∈ bs', BdOk ps r b) →
          tIfS (tTest (tOp (rI0 fun i j => .bl (decide (j < i))) (tCB (rLen K) (tCons (tVar 6) tNil)) (tC (.int 1500)))) u tNext ⟨fun σ3 H3 => Kp (· = q) H5 H3 ∧ Pv (i + 1) σ3 H3, rt, bk, ct⟩ σ' H' := fun {σ' : L2.St} {H' : Hp} {b9 b10 b11 : Ds} {xs' : List V} {bs' : List Bd} {rt bk ct u} k' S' hq' rx' hl' hb' => by
        refine s_if o3 (t_test o3 (e_cmp o3 (e_lenO o3 (e_val o3 S' rfl) fun H' w => w.lst (fun z => z.elim) hq') (e_int o3))) (fun c H w => ?_) (fun c H w => ?_)
        · have := of_decide_eq_true c
          rw [rx'.length, List.length_map] at this
          omega
        · have k'' := k'.trans (w.mono fun _ z => z.elim)
          exact ⟨k56.trans k'', k6.trans k'', _, _, _, _, _, xs', bs', S'.mono o3 w, w.lst (fun z => z.elim) hq', DTs.mono o3 w rx', hl', hb'⟩
      refine s_if o3 (t_B o3 (e_call o3 (k69.un un6) (a_cons o3 (e_var o3 S10 rfl) (a_nil o3)) ⟨p, rfl, rfl⟩)) (fun cs H11 w11 => ?_) (fun cs H11 w11 => ?_)
      · have S11 := S10.mono o3 w11
        rw [cs, if_pos rfl] at hcl
        have k611 : Kp (· = q) H6 H11 := k69.trans (w11.mono fun _ z => z.elim)
        have k311 : Kp (· = q) H3 H11 := k6.trans k611
        obtain ⟨M, hM', gm, g1, g5, gmm⟩ := G.strip _ p hp cs
        have hmd : ((machsOf ps).map mchD)[x.p.toNat]? = some M.d := by rw [List.getElem?_map, hM']; rfl
        obtain ⟨far, hfar⟩ : ∃ far : Nat, p.ext x = (far : Int) := ⟨(p.ext x).toNat, by omega⟩
        have un11 := k611.un un6
        refine s_set o3 (e_callBR (far := far) S11 rfl (e_var o3 S11 rfl) (e_ixTz o3 (ds := (machsOf ps).map mchD) (d := M.d) (e_var o3 S11 rfl) (e_rg o3 (r := x) (e_var o3 S11 rfl) 0) hin.p0 hmd) (e_var o3 S11 rfl) un11 (ht3 k311) gm (fun m hm => (gmm m hm).2.2.2.2.1) g1 hfar (by omega) fun y hy => ?_) fun v12 H12 w12 hz => ?_
        · exact htab3 k311 y (.step hN ⟨p, M, hp, hM', hy⟩)
        obtain ⟨rr, kv, rfl, hr0, hr12, hrt⟩ := hz
        have S12 := (S11.mono o3 w12).putV (i := 9) (v := .ref rr)
        have k612 : Kp (· = q) H6 H12 := k611.trans (w12.mono fun _ z => z.elim)
        have un12 := k612.un un6
        have hq11 : H11 q = some (.lst xs10) := w11.lst (fun z => z.elim) hq10
        have hrq : rr ≠ q := fun e => by rw [e, hq11] at hr0; cases hr0
        have rx12 := DTs.mono o3 (w11.trans w12) rx10
        refine s_forEv o3 (e_callN o3 noT un12 (a_cons o3 (e_ixT o3 (i := 1) (ds := [.tuple (M.ends.map .bool), mvs M.moves]) (e_ixTz o3 (ds := (machsOf ps).map mchD) (d := M.d) (e_var o3 S12 rfl) (e_rg o3 (r := x) (e_var o3 S12 rfl) 0) hin.p0 hmd) (e_int o3) rfl) (a_cons o3 (e_call o3 un12 (a_cons o3 (e_var o3 S12 rfl) (a_cons o3 (e_var o3 S12 rfl) (a_nil o3))) ⟨p, x, rfl, rfl⟩) (a_nil o3))) ⟨M.moves, far, gm, by omega, by rw [hfar], rfl⟩) fun v13 H13 w13 hz => ?_
        obtain ⟨d13, ⟨lr, rs, ed⟩, r13⟩ := hz
        subst ed
        have hlr := rs.len gm
        have S13 := S12.mono o3 w13
        refine s_forP o3 (ds := lr.map spt) (e_c o3 r13) (fun j σ' H' => Kp (· = q) H12 H' ∧ ∃ (b10 b11 : Ds) (xs' : List V) (bs' : List Bd), Sl (W0 K (Lp L q)) H' σ' [.da (pts ps), .da r.d, .da (.tuple (rows.map .str)), .da (wish fixed forb), .da (mcs (machsOf ps)), .va (.ref t), .va (.ref q), .da x.d, .da p.d, .va (.ref rr), b10, b11] ∧ H' q = some (.lst xs') ∧ DTs K (Lp L q) H' xs' (bs'.map Bd.d) ∧ bs'.length ≤ cstR ps (l.take i) + 1 + j ∧ ∀ b ∈ bs', BdOk ps r b) (M := (· = q)) hM
          (fun H' w' => ⟨(w13.trans w').mono fun _ z => z.elim, _, _, xs10, bs10, S13.mono o3 w', ((w11.trans w12).trans (w13.trans w')).lst (fun z => z.elim) hq10, DTs.mono o3 (w13.trans w') rx12, hlen10, hbs10⟩) (fun d hd => by obtain ⟨x, _, rfl⟩ := List.mem_map.mp hd; exact ⟨_, _, rfl⟩)
          (fun H14 w14 j d e v u σ15 H15 hj rd re k145 ⟨k15, b10', b11', xs', bs', S15, hq15, rx15, hl15, hb15⟩ => ?_) (fun H14 w14 σ15 H15 k145 ⟨k15, b10', b11', xs', bs', S15, hq15, rx15, hl15, hb15⟩ => ?_)
        · rw [List.getElem?_map] at hj
          cases hso : lr[j]? with
          | none => rw [hso] at hj; cases hj
          | some so =>
            rw [hso] at hj
            have hj := Option.some.inj hj
            unfold spt at hj
            cases hj
            have hsl : so ∈ lr := List.mem_of_getElem? hso
            have hrch := (rs.iff so.1 so.2).mp hsl
            obtain ⟨c1, c2, c3, c4⟩ := hrch.le gm
            have hjl : j < lr.length := (List.getElem?_eq_some_iff.mp hso).1
            have S16 := (S15.putD (i := 10) rd).putD (i := 11) re
            have un15 := k15.un un12
            obtain ⟨vy, dy, f1, f2, f3⟩ := hrt so.1 so.2 hrch
            have hr15 : H15 rr = some (.dT kv) := k15.dT hrq hr12
            refine s_app S16 rfl hq15 (lt_size (by rw [rx15.length, List.length_map]; omega)) (e_cat o3 (ds := x.ns.map .int) (es := [.int so.1, .int (so.2 : Nat), oi (bvCost dy)]) (e_var o3 S16 rfl) (e_tup o3 (a_cons o3 (e_var o3 S16 rfl) (a_cons o3 (e_var o3 S16 rfl) (a_cons o3 (e_callCI (ns := [so.1, (so.2 : Nat)]) S16 rfl (e_tup o3 (a_cons o3 (e_var o3 S16 rfl) (a_cons o3 (e_var o3 S16 rfl) (a_nil o3)))) un15 hr15 f1 (DT.step hM k15 f2) f3) (a_nil o3))))) (by show 5 + 3 ≤ 1000; decide)) fun v17 H17 w17 r17 hx17 => ?_
            have k18 : Kp (· = q) H17 (upd H17 q (.lst (xs' ++ [v17]))) := (Kp.refl _ _).app hx17
            have kk := (w17.mono (M := (· = q)) fun _ z => z.elim).trans k18
            refine ⟨k145.trans kk, k15.trans kk, _, _, _, bs' ++ [(⟨x, some (so.1, (so.2 : Int)), bvCost dy⟩ : Bd)], (S16.mono o3 w17).step hM k18, upd_same, ?_, by rw [List.length_append]; simp; omega, fun b hb => ?_⟩
            · rw [List.map_append]
              exact DTs.step hM k18 ((DTs.mono o3 w17 rx15).snoc r17)
            · rcases List.mem_append.mp hb with h | h
              · exact hb15 b h
              · rw [List.mem_singleton.mp h]
                refine ⟨hin, fun s o e => ?_⟩
                cases e
                exact ⟨by omega, by omega, by omega, by omega⟩
        · rw [List.length_map] at hl15
          exact fin (k612.trans k15) S15 hq15 rx15 (by omega) hb15
      · have S11 := S10.mono o3 w11
        rw [cs, if_neg Bool.false_ne_true] at hcl
        exact fin (k69.trans (w11.mono fun _ z => z.elim)) S11 (w11.lst (fun z => z.elim) hq10) (DTs.mono o3 w11 rx10) (by omega) hbs10
  · rw [List.length_map, List.take_length] at hlen
    refine s_ret o3 (e_val o3 S6 rfl) fun v7 H7 w7 e => ?_
    subst e
    refine k _ bs H7 (kend (k6.trans (w7.mono fun _ z => z.elim))) ?_ (by omega) hbs
    exact DT.retL hL fq (w7.lst (fun z => z.elim) hq6) (DTs.mono o3 w7 rx)
end
end SR

/-! Ndt: dicts whose keys are tuples of numbers, texts and None. -/
namespace SR
open PySem PySem.Spec PyProof.Rows L2
abbrev NKy := Option L2.Key
def nV : NKy → V
  | none => .non
  | some k => kV k
def rawD (a : Addr) (es : Array DictEntry) (h : Heap) : Prop := ∃ o ep, h.get? a = some o ∧ o.ExactDict ∧ o.data = .dict es ep
abbrev NT (H : Hp) : List (List NKy × V) → List (List NKy × Addr × Value) → Prop := Paired fun p q => p.1 = q.1 ∧ H q.2.1 = some (.tup (p.1.map nV)) ∧ RelV p.2 q.2.2
structure ND (P : Program) (w : World) (H : Hp) (a : Addr) (kvs : List (List NKy × V)) : Prop where
  len : kvs.length ≤ sizeLine
  mods : (a == sysModules) = false
  raw : ∃ xs : List (List NKy × Addr × Value), NT H kvs xs ∧ (xs.map (·.1)).Nodup ∧ H a = some (.ext (rawD a (xs.map (entryOfKey (tupleKind (noneKind P w)))).toArray))
theorem NT.val {H : Hp} {kvs : List (List NKy × V)} {xs : List (List NKy × Addr × Value)} (r : NT H kvs xs) (k : List NKy) : RelO (valV kvs k) ((atKey xs k).map (·.2)) := by
  induction r with
  | nil => exact True.intro
  | @cons p q ps qs h t ih =>
    by_cases e : p.1 = k
    · have b : atKey (q :: qs) k = some q.2 := by simp [atKey, List.find?_cons, h.1.symm.trans e]
      rw [valV_pos e, b]; exact h.2.2
    · have b : atKey (q :: qs) k = atKey qs k := by simp [atKey, List.find?_cons, show ¬ q.1 = k from fun z => e (h.1.trans z)]
      rw [valV_neg e, b]; exact ih
theorem NT.put {H : Hp} {kvs : List (List NKy × V)} {xs : List (List NKy × Addr × Value)} (r : NT H kvs xs) (k : List NKy) {b : Addr} {y : V} {u : Value} (hb : H b = some (.tup (k.map nV))) (ry : RelV y u) : NT H (putK kvs k y) (storedH xs k b u) := by
  have e : (kvs.any fun kv => decide (kv.1 = k)) = (atKey xs k).isSome := by
    rw [valV_any, (r.val k).isSome_eq, Option.isSome_map]
  unfold putK storedH
  rw [e]
  by_cases q : (atKey xs k).isSome = true
  · rw [if_pos q, if_pos q]
    clear e q
    induction r with
    | nil => exact .nil
    | @cons p q ps qs h t ih =>
      rw [List.map_cons, List.map_cons]
      refine .cons ?_ ih
      unfold putAt
      by_cases e : p.1 = k
      · rw [if_pos e, if_pos (h.1.symm.trans e)]; exact ⟨h.1, h.2.1, ry⟩
      · rw [if_neg e, if_neg (fun z => e (h.1.trans z))]; exact h
  · rw [if_neg q, if_neg q]; exact Paired.snoc r ⟨rfl, hb, ry⟩
theorem NT.keeps {H H' : Hp} {kvs : List (List NKy × V)} {xs : List (List NKy × Addr × Value)} (r : NT H kvs xs) (ht : ∀ b ys, H b = some (.tup ys) → H' b = some (.tup ys)) : NT H' kvs xs :=
  Paired.mapP r fun _ _ z => ⟨z.1, ht _ _ z.2.1, z.2.2⟩
theorem n_is {P : Program} {w : World} : ∀ {k : NKy} {u : Value}, RelV (nV k) u → (noneKind P w).is k u = true
  | none, _, r => by
    obtain rfl := (show _ = Value.none from r)
    rfl
  | some k, _, r => kV_is (P := P) (w := w) r
theorem nitems {P : Program} {w : World} : ∀ {ks : List NKy} {us : List Value}, Vals (ks.map nV) us → ItemsAre (noneKind P w) ks us
  | [], _, r => by rw [List.map_nil] at r; cases r; exact .nil
  | k :: ks, _, r => by
    rw [List.map_cons] at r
    cases r with
    | cons h t => exact .cons (n_is h) (nitems t)
section
variable {P : Program} {w : World} {H : Hp} {h : Heap} {a : Addr}
theorem nkey_of {ks : List NKy} (ok : HOk P w H h) (e : H a = some (.tup (ks.map nV))) : (tupleKind (noneKind P w)).is h ks a := by
  obtain ⟨_, its, r, o, h1, h2, n, h3⟩ := (show ObjOk P w H h a (.tup (ks.map nV)) from ok a _ e)
  exact ⟨o, its.toArray, n, h1, h2, h3, by simpa using nitems r⟩
theorem nd_of {kvs : List (List NKy × V)} (ok : HOk P w H h) (e : ND P w H a kvs) : ∃ xs, NT H kvs xs ∧ h.DictOfH (tupleKind (noneKind P w)) a xs := by
  obtain ⟨_, _, xs, r, nd, hx⟩ := e
  obtain ⟨⟨o, ep, h1, h2, h3⟩, _⟩ := (show ObjOk P w H h a (.ext _) from ok a _ hx)
  refine ⟨xs, r, o, _, ep, h1, h2, h3, by simp, fun x hx => ?_, nd⟩
  have all : ∀ {l : List (List NKy × V)} {m : List (List NKy × Addr × Value)}, NT H l m → ∀ x ∈ m, (tupleKind (noneKind P w)).is h x.1 x.2.1 := by
    intro l m q
    induction q with
    | nil => intro x hx; exact nomatch hx
    | @cons p q ps qs hq t ih =>
      intro x hx
      rcases List.mem_cons.mp hx with e | hx
      · subst e
        exact nkey_of ok (by rw [← hq.1]; exact hq.2.1)
      · exact ih x hx
  exact all r x hx
theorem raw_ok {H' : Hp} {es : Array DictEntry} (hr : rawD a es h) : ObjOk P w H' h a (.ext (rawD a es)) :=
  ⟨hr, let ⟨o, _, e, _⟩ := hr; ⟨o, e⟩, fun h1 h2 ⟨o, ep, e, x⟩ k => ⟨o, ep, k o e, x⟩⟩
end
theorem ND.keep {P : Program} {w : World} {H H' : Hp} {L : Addr → Prop} {a : Addr} {kvs : List (List NKy × V)} (k : Kp L H H') (n : ¬ L a) (h : ND P w H a kvs) : ND P w H' a kvs := by
  obtain ⟨l, m, xs, r, nd, hx⟩ := h
  exact ⟨l, m, xs, r.keeps fun b ys e => k.tup b ys e, nd, k.keep a _ hx n (fun _ z => by cases z)⟩
theorem ND.ne {P : Program} {w : World} {H : Hp} {a : Addr} {kvs : List (List NKy × V)} (h : ND P w H a kvs) : ∃ φ, H a = some (.ext φ) := let ⟨_, _, _, _, _, e⟩ := h; ⟨_, e⟩
/-- {} -/
def tDNewN (P : Program) (w : World) : TE := fun _ H Q => ∀ p o, H p = none → ND P w (upd H p o) p [] → Q (.ref p) (upd H p o)
def tDGetN (P : Program) (w : World) (td ty : TE) : TE := fun σ H Q => td σ H fun x H1 => ty σ H1 fun y H2 => ∃ a b kvs k v, x = .ref a ∧ ND P w H2 a kvs ∧ y = .ref b ∧ H2 b = some (.tup (k.map nV)) ∧ valV kvs k = some v ∧ Q v H2
def tDInN' (P : Program) (w : World) (ty td : TE) : TE := fun σ H Q => ty σ H fun y H1 => td σ H1 fun x H2 => ∃ a b kvs k, x = .ref a ∧ ND P w H2 a kvs ∧ y = .ref b ∧ H2 b = some (.tup (k.map nV)) ∧ Q (.bl (valV kvs k).isSome) H2
def tDNotInN' (P : Program) (w : World) (ty td : TE) : TE := fun σ H Q => ty σ H fun y H1 => td σ H1 fun x H2 => ∃ a b kvs k, x = .ref a ∧ ND P w H2 a kvs ∧ y = .ref b ∧ H2 b = some (.tup (k.map nV)) ∧ Q (.bl (!(valV kvs k).isSome)) H2
def sDPutN (P : Program) (w : World) (td ty tv : TE) : TS := fun D σ H => tv σ H fun v H1 => td σ H1 fun x H2 => ty σ H2 fun y H3 => ∃ a b kvs k, x = .ref a ∧ ND P w H3 a kvs ∧ y = .ref b ∧ H3 b = some (.tup (k.map nV)) ∧ kvs.length < sizeLine ∧
  ∀ o, ND P w (upd H3 a o) a (putK kvs k v) → D.nx σ (upd H3 a o)
section
variable {X : Cx} {o i e value : Expr} {pos pos' tpos : Pos} {td ty tv : TE}
theorem pe_dnewN : PE X (.Dict [] [] pos) (tDNewN X.prog X.w) := ⟨fun pins s σ H Q I h => by
  have hr : rawD s.heap.objs.size #[] (s.heap.push { cls := .type "dict", data := .dict #[] }) := ⟨_, 0, Heap.get?_push_size _ rfl, ⟨rfl, rfl, rfl⟩, rfl⟩
  exact wpAny_Dict_empty ⟨.ref s.heap.objs.size, _, I.laid (a := s.heap.objs.size) (o := .ext (rawD s.heap.objs.size #[])) (t' := s.toks) (fun _ _ q => Heap.get?_push_of_some _ q) (Nat.le_refl _) (raw_ok hr), rfl,
    h _ _ (I.hok.fresh (Nat.le_refl _)) ⟨Nat.zero_le _, beq_eq_false_iff_ne.mpr (Ne.symm (Nat.ne_of_lt I.big)), [], .nil, List.nodup_nil, upd_same⟩⟩⟩
theorem pe_dgetN (hu : X.A.units + 1 < cLine) (ho : PE X o td) (hi : PE X i ty) (hs : NoSl i) : PE X (.Subscript o i pos) (tDGetN X.prog X.w td ty) := by
  refine ⟨fun pins s σ H Q I h => ?_⟩
  refine subD_of PySem.F.slot_dict_getitem.lookup hs (thn (ho.run pins s σ H _ I h) fun u s1 ⟨x, H1, I1, rx, q1⟩ => thn (hi.run pins s1 σ H1 _ I1 q1) fun iv s2 ⟨y, H2, I2, ry, a, b, kvs, k, v, ex, nd, ey, hb, hv, q2⟩ => ?_)
  subst ex ey
  obtain rfl : u = Value.ref a := rx
  obtain rfl : iv = Value.ref b := ry
  obtain ⟨xs, r, dd⟩ := nd_of I2.hok nd
  have dd' := dd
  obtain ⟨ob, es, ep, h1, h2, _⟩ := dd'
  refine ⟨⟨ob, h1, h2.1⟩, ?_⟩
  obtain ⟨w', hw, rw'⟩ := RelO.some_of (v := v) (o := (atKey xs k).map (·.2)) (by rw [← hv]; exact r.val k)
  obtain ⟨p, hp, hp2⟩ := Option.map_eq_some_iff.mp hw
  refine wpAny_getItem_heap (tupleKind_room_in1 hu) (nkey_of I2.hok hb) dd hp ?_
  rw [hp2]
  exact ⟨v, H2, I2.tok _, rw', q2⟩
theorem pc_dinN' (hu : X.A.units + 1 < cLine) (hi : PE X i ty) (ho : PE X o td) : PC X .In i o (tDInN' X.prog X.w ty td) := by
  refine ⟨fun pins s σ H Q I h => ?_⟩
  refine thn (hi.run pins s σ H _ I h) fun iv s1 ⟨y, H1, I1, ry, q1⟩ => thn (ho.run pins s1 σ H1 _ I1 q1) fun u s2 ⟨x, H2, I2, rx, a, b, kvs, k, ex, nd, ey, hb, q2⟩ => ?_
  subst ex ey
  obtain rfl : u = Value.ref a := rx
  obtain rfl : iv = Value.ref b := ry
  obtain ⟨xs, r, dd⟩ := nd_of I2.hok nd
  refine wpAny_in_heap (tupleKind_room_in1 hu) (nkey_of I2.hok hb) nd.mods dd ?_
  have q := (r.val k).isSome_eq
  rw [Option.isSome_map] at q
  rw [← q]
  exact ⟨.bl _, H2, I2.tok _, rfl, q2⟩
theorem pc_dnotinN' (hu : X.A.units + 1 < cLine) (hi : PE X i ty) (ho : PE X o td) : PC X .NotIn i o (tDNotInN' X.prog X.w ty td) := by
  refine ⟨fun pins s σ H Q I h => ?_⟩
  refine thn (hi.run pins s σ H _ I h) fun iv s1 ⟨y, H1, I1, ry, q1⟩ => thn (ho.run pins s1 σ H1 _ I1 q1) fun u s2 ⟨x, H2, I2, rx, a, b, kvs, k, ex, nd, ey, hb, q2⟩ => ?_
  subst ex ey
  obtain rfl : u = Value.ref a := rx
  obtain rfl : iv = Value.ref b := ry
  obtain ⟨xs, r, dd⟩ := nd_of I2.hok nd
  refine wpAny_notIn_heap (tupleKind_room_in1 hu) (nkey_of I2.hok hb) nd.mods dd ?_
  have q := (r.val k).isSome_eq
  rw [Option.isSome_map] at q
  rw [← q]
  exact ⟨.bl _, H2, I2.tok _, rfl, q2⟩
theorem ps_dputN (hu : X.A.units + 1 < cLine) (ho : PE X o td) (hi : PE X i ty) (hv : PE X value tv) (hs : swapsWith value (some (.Subscript o i pos')) pos.line X.env = pure false) :
    PS X (.Assign [.Subscript o i pos'] value pos) (sDPutN X.prog X.w td ty tv) := by
  refine ⟨fun pins s σ H D I h => ?_⟩
  refine wpAny_Assign_Subscript (thn (hv.run pins s σ H _ I h) fun r s1 ⟨v, H1, I1, rv, q1⟩ => thn (ho.run pins s1 σ H1 _ I1 q1) fun u s2 ⟨x, H2, I2, rx, q2⟩ => thn (hi.run pins s2 σ H2 _ I2 q2) fun iv s3 ⟨y, H3, I3, ry, a, b, kvs, k, ex, nd, ey, hb, hl, q3⟩ => ?_) hs
  subst ex ey
  obtain rfl : u = Value.ref a := rx
  obtain rfl : iv = Value.ref b := ry
  obtain ⟨xs, rx, dd⟩ := nd_of I3.hok nd
  obtain ⟨φ, ea⟩ := nd.ne
  have hz : xs.length ≤ sizeLine := by rw [← Paired.length rx]; omega
  refine wpAny_setItem_heap (hsz := hz) (tupleKind_room_in1 hu) (nkey_of I3.hok hb) dd fun h' dd' hs => ?_
  obtain ⟨q, es, ep, hq, h2, h3, h4, _, h5⟩ := dd'
  have hr : rawD a ((storedH xs k b r).map (entryOfKey (tupleKind (noneKind X.prog X.w)))).toArray h' := ⟨q, ep, hq, h2, by rw [← h4]; simpa using h3⟩
  have I4 := d_write (t' := s3.toks + (tupleKind (noneKind X.prog X.w)).draws k) I3 (by rw [ea]; exact True.intro) hs ⟨q, hq⟩ (raw_ok hr)
  refine ⟨σ, _, I4, q3 _ ⟨Nat.le_trans (length_putK kvs k v) hl, nd.mods, _, (rx.put k hb rv).keeps fun c ys ec => ?_, h5, upd_same⟩⟩
  rw [upd_ne (ne_of ec ea (fun z => nomatch z))]
  exact ec
end
end SR

namespace SR
open PySem PySem.Spec PyProof.Rows L2
/-- the key of a bound -/
def kyOf (r : Rg) (at_ : Option (Int × Int)) : List (Option Int) := [some r.p, some r.x, some r.y, some r.w, some r.h, at_.map (·.1), at_.map (·.2)]
def Bd.ky (b : Bd) : List (Option Int) := kyOf b.r b.at_
def oV : Option Int → V
  | none => .non
  | some i => .int i
abbrev nks (ns : List (Option Int)) : List NKy := ns.map (Option.map Sum.inl)
theorem nV_nks (ns : List (Option Int)) : (nks ns).map nV = ns.map oV := by
  unfold nks
  rw [List.map_map]
  exact List.map_congr_left fun x _ => by cases x <;> rfl
theorem nks_inj : ∀ {a b : List (Option Int)}, nks a = nks b → a = b
  | [], [], _ => rfl
  | [], _ :: _, h => by cases h
  | _ :: _, [], h => by cases h
  | x :: a, y :: b, h => by
    obtain ⟨h1, h2⟩ := List.cons.inj (show (x.map Sum.inl : NKy) :: nks a = y.map Sum.inl :: nks b from h)
    have e : x = y := by
      cases x with
      | none => cases y with
        | none => rfl
        | some j => cases h1
      | some i => cases y with
        | none => cases h1
        | some j => rw [Sum.inl.inj (Option.some.inj h1)]
    rw [e, nks_inj h2]
/-- the first bound with a key -/
def boundOf (bs : List Bd) (ky : List (Option Int)) : Option Int := match bs.find? fun b => decide (b.ky = ky) with
  | some b => b.least
  | none => some 0
def Kn (kvs : List (List NKy × V)) (bs : List Bd) : Prop := ∀ ky : List (Option Int), valV kvs (nks ky) = (bs.find? fun b => decide (b.ky = ky)).map fun b => oV b.least
theorem Kn.old {kvs : List (List NKy × V)} {bs : List Bd} {b : Bd} (h : Kn kvs bs) (hb : (valV kvs (nks b.ky)).isSome = true) : Kn kvs (bs ++ [b]) := fun ky => by
  rw [h ky, List.find?_append]
  cases e : bs.find? fun b => decide (b.ky = ky) with
  | some c => rfl
  | none =>
    have : ¬ b.ky = ky := fun z => by
      rw [h b.ky, z, e] at hb
      cases hb
    simp [this]
theorem Kn.new {kvs : List (List NKy × V)} {bs : List Bd} {b : Bd} (h : Kn kvs bs) (hb : (valV kvs (nks b.ky)).isSome = false) : Kn (putK kvs (nks b.ky) (oV b.least)) (bs ++ [b]) := fun ky => by
  rw [valV_put, List.find?_append]
  by_cases e : nks ky = nks b.ky
  · rw [if_pos e]
    have e' := nks_inj e
    subst e'
    rw [h b.ky, Option.isSome_map] at hb
    cases q : bs.find? fun c => decide (c.ky = b.ky) with
    | some c => rw [q] at hb; cases hb
    | none => simp
  · rw [if_neg e, h ky]
    have : ¬ b.ky = ky := fun z => e (by rw [z])
    cases q : bs.find? fun c => decide (c.ky = ky) with
    | some c => rfl
    | none => simp [this]
theorem oi_some (i : Int) : oi (some i) = .int i := rfl
section
variable {K : PySem.W.Frag} {L : Addr → Prop} {H : Hp} {v : V} {vs : List V}
theorem DT.oiI : ∀ {i : Option Int}, DT K L H v (oi i) → v = oV i
  | none, h => h.nonI
  | some _, h => h.intI
theorem DT.oi : ∀ (i : Option Int), DT K L H (oV i) (oi i)
  | none => .non
  | some _ => .int _
theorem DTs.oisI : ∀ {ns : List (Option Int)} {vs : List V}, DTs K L H vs (ns.map SR.oi) → vs = ns.map oV
  | [], _, h => by cases h; rfl
  | n :: ns, _, h => by
    cases h with
    | cons a b => rw [a.oiI, DTs.oisI b]; rfl
theorem DT.nkeyI {ns : List (Option Int)} (h : DT K L H v (.tuple (ns.map SR.oi))) : ∃ b, v = .ref b ∧ H b = some (.tup ((nks ns).map nV)) := by
  obtain ⟨a, xs, rfl, e, r⟩ := h.tupX
  refine ⟨a, rfl, ?_⟩
  rw [nV_nks, ← DTs.oisI r]
  exact e
end
section
variable {C : Wd} (o : C.Ok) {H : Hp} {σ : L2.St} {te : TE} {ds : List PyData}
include o
theorem e_slT {n : Nat} (h : Ed C te σ H (.tuple ds)) : Ed C (tSl (rSlA C.K) te tNoPart (tPart (tC (.int (n : Int))))) σ H (.tuple (ds.take n)) := fun H1 w Q q =>
  h H1 w _ fun x H2 w2 r => by
    obtain ⟨a, xs, rfl, hs, rx⟩ := r.tupI
    refine ⟨(n : Int), rfl, a, xs, rfl, hs, fun ⟨_, e⟩ => ?_, fun _ p hp => ?_⟩
    · rw [HT.sIx_nat] at e
      refine q _ H2 w2 ?_
      have hl := rx.length
      rw [List.take_of_length_le (by omega)]
      exact r
    · refine q _ _ (o.trans w2 (o.new hp)) (.tup upd_same ?_)
      have ec : cutV xs none (some (n : Int)) = xs.take n := by
        unfold cutV
        rw [HT.sIx_nat, HT.sIx_none, List.drop_zero, Nat.sub_zero]
        rcases Nat.le_total n xs.length with c | c
        · rw [Nat.min_eq_left c]
        · rw [Nat.min_eq_right c, List.take_length, List.take_of_length_le c]
      rw [ec]
      exact DTs.mono o (o.new hp) (rx.take n)
end
section
variable {P : Program} {w : World} {C : Wd} (o : C.Ok) {H : Hp} {σ : L2.St} {td ty : TE} {p : Addr} {kvs : List (List NKy × V)} {ns : List (Option Int)} {v : V}
include o
theorem e_dgetN (hd : Ee C td σ H (.ref p)) (hk : Ed C ty σ H (.tuple (ns.map oi))) (hx : ∀ H', C.W H H' → ND P w H' p kvs) (hv : valV kvs (nks ns) = some v) : Ee C (tDGetN P w td ty) σ H v := fun H1 w1 Q q =>
  hd H1 w1 _ fun x H2 w2 e => hk H2 (o.trans w1 w2) _ fun y H3 w3 r => by
    subst e
    obtain ⟨b, rfl, hb⟩ := r.nkeyI
    exact ⟨p, b, kvs, _, v, rfl, hx H3 (o.trans (o.trans w1 w2) w3), rfl, hb, hv, q v H3 (o.trans w2 w3) rfl⟩
theorem e_dinN (hd : Ee C td σ H (.ref p)) (hk : Ed C ty σ H (.tuple (ns.map oi))) (hx : ∀ H', C.W H H' → ND P w H' p kvs) : Ed C (tDInN' P w ty td) σ H (.bool (valV kvs (nks ns)).isSome) := fun H1 w1 Q q =>
  hk H1 w1 _ fun y H2 w2 r => hd H2 (o.trans w1 w2) _ fun x H3 w3 e => by
    subst e
    obtain ⟨b, rfl, hb⟩ := r.nkeyI
    exact ⟨p, b, kvs, _, rfl, hx H3 (o.trans (o.trans w1 w2) w3), rfl, (o.kp w3).tup _ _ hb, q _ H3 (o.trans w2 w3) (.bl _)⟩
theorem e_dnotinN (hd : Ee C td σ H (.ref p)) (hk : Ed C ty σ H (.tuple (ns.map oi))) (hx : ∀ H', C.W H H' → ND P w H' p kvs) : Ed C (tDNotInN' P w ty td) σ H (.bool (!(valV kvs (nks ns)).isSome)) := fun H1 w1 Q q =>
  hk H1 w1 _ fun y H2 w2 r => hd H2 (o.trans w1 w2) _ fun x H3 w3 e => by
    subst e
    obtain ⟨b, rfl, hb⟩ := r.nkeyI
    exact ⟨p, b, kvs, _, rfl, hx H3 (o.trans (o.trans w1 w2) w3), rfl, (o.kp w3).tup _ _ hb, q _ H3 (o.trans w2 w3) (.bl _)⟩
end
theorem s_newN {P : Program} {w : World} {K : PySem.W.Frag} {L : Addr → Prop} {H : Hp} {σ : L2.St} {ρ : List Ds} {i : Nat} {nx bk ct : L2.St → Hp → Prop} {rt : VK} (S : Sl (W0 K L) H σ ρ) (q : ∀ p o, H p = none → ND P w (upd H p o) p [] → Sl (W0 K (Lp L p)) (upd H p o) (σ.set i (some (.ref p))) (ρ.set i (.va (.ref p))) → nx (σ.set i (some (.ref p))) (upd H p o)) :
    tAsg (tDNewN P w) (gName i) ⟨nx, rt, bk, ct⟩ σ H := fun p u hp nd => q p u hp nd (S.own hp u).putV
theorem s_dputN {P : Program} {w : World} {K : PySem.W.Frag} {L : Addr → Prop} {H : Hp} {σ : L2.St} {td ty tv : TE} {p : Addr} {kvs : List (List NKy × V)} {ns : List (Option Int)} {nx bk ct : L2.St → Hp → Prop} {rt : VK} {Z : V → Hp → Prop} (hv : EvP (W0 K L) tv σ H Z) (hd : ∀ H', Kp No H H' → Ee (W0 K L) td σ H' (.ref p)) (hk : ∀ H', Kp No H H' → Ed (W0 K L) ty σ H' (.tuple (ns.map oi)))
    (hP : ∀ v H1 H2, Kp No H1 H2 → Z v H1 → Z v H2) (hx : ND P w H p kvs) (hz : kvs.length < sizeLine) (q : ∀ v H' u, Kp No H H' → Z v H' → Kp (· = p) H (upd H' p u) → Kp (· = p) H' (upd H' p u) → ND P w (upd H' p u) p (putK kvs (nks ns) v) → nx σ (upd H' p u)) : sDPutN P w td ty tv ⟨nx, rt, bk, ct⟩ σ H :=
  hv H (Kp.refl _ _) _ fun v H1 w1 r1 => hd H1 w1 H1 (Kp.refl _ _) _ fun x H2 w2 e => hk H2 (w1.trans w2) H2 (Kp.refl _ _) _ fun y H3 w3 r3 => by
    subst e
    obtain ⟨b, rfl, hb⟩ := r3.nkeyI
    have w13 : Kp No H H3 := (w1.trans w2).trans w3
    have nd : ND P w H3 p kvs := ND.keep w13 (fun z => z.elim) hx
    obtain ⟨φ, ea⟩ := nd.ne
    refine ⟨p, b, kvs, _, rfl, nd, rfl, hb, hz, fun u nd' => ?_⟩
    have kp : Kp (· = p) H3 (upd H3 p u) := (Kp.refl _ _).put (.inr rfl) (by rw [ea]; trivial)
    exact q v H3 u w13 (hP _ _ _ (w2.trans w3) r1) ((w13.mono fun _ z => z.elim).trans kp) kp nd'
section
variable {P : Program} {w : World} {K : PySem.W.Frag} {mg : Str → Option Value} {base : Heap}
abbrev N_known_bounds : List Str := ["bounds", "known", "bound"]
abbrev s_known_bounds : Stmt := top 40
theorem sc_known_bounds : FnScope ["bounds", "known", "bound"] ["bounds"] (defScope s_known_bounds) := ⟨rfl, rfl, rfl, by decide +kernel, rfl, by decide +kernel, by decide +kernel⟩
def spKB (P : Program) (w : World) (K : PySem.W.Frag) : Sp := fun vs H Q _ => ∃ (L : Addr → Prop) (bs : List Bd), (∀ a, L a → H a ≠ none) ∧ DTs K L H vs [.list (bs.map Bd.d)] ∧ bs.length ≤ 5000 ∧ ∀ q kvs H', Kp No H H' → H q = none → ND P w H' q kvs → Kn kvs bs → Q (.ref q) H'
theorem ok_known_bounds (F : DefA K mg "known_bounds" s_known_bounds) : C8.Cal P w K mg base 1 "known_bounds" (spKB P w K) [] := by
  refine cal_by F sc_known_bounds rfl rfl rfl (fun _ _ _ _ _ _ us hl => match us, hl with | [_], _ => rfl) (fun vs H Q E ⟨_, _, _, e, _⟩ => by have := e.length; exact this) fun f cdv A outer s H vs Q E hr h => ?_
  obtain ⟨L, bs, hL, hd, hbl, k⟩ := h
  have o := w0 K L
  have hu := hu_of hr
  have S := Sl.start (C := W0 K L) (N := N_known_bounds) hd
  refine ⟨_, (pss_c (ps_set (i := 1) sc_known_bounds.nd rfl (Or.inl rfl) pe_dnewN)
  (pss_c (ps_for PassesOwn.never rfl (pi_list (pv 0)) (pg_name (i := 2) sc_known_bounds.nd rfl (Or.inl rfl)) (pss_one (ps_if (pt_cmp (pc_dnotinN' hu (pe_slice sl_tupA (pv 2) po_none (po_some pe_int)) (pv 1))) (pss_one (ps_dputN hu (pv 1) (pe_slice sl_tupA (pv 2) po_none (po_some pe_int)) (pe_ix ix_seq (pv 2) pe_int (fun _ _ => rfl)) rfl)) pss_nil)))
  (pss_one (ps_ret (pv 1))))), ?_⟩
  refine s_newN (P := P) (w := w) (i := 1) S fun q u hq nd S1 => ?_
  have o1 := w0 K (Lp L q)
  have hM : ∀ a, a = q → Lp L q a := fun a e => .inr e
  have un1 : ∀ a, Lp L q a → upd H q u a ≠ none := own_un hL _
  have kend : ∀ {H'}, Kp (· = q) (upd H q u) H' → Kp No H H' := fun {H'} k' => (Kp.refl No H).trans ((Kp.new hq).loc hq k')
  generalize upd H q u = H1 at S1 nd un1 kend ⊢
  refine s_forN o1 (ds := bs.map Bd.d) (e_var o1 S1 rfl) (fun i σ' H' => Kp (· = q) H1 H' ∧ ∃ b2 kvs, Sl (W0 K (Lp L q)) H' σ' [.da (.list (bs.map Bd.d)), .va (.ref q), b2] ∧ ND P w H' q kvs ∧ Kn kvs (bs.take i) ∧ kvs.length ≤ i) (M := (· = q)) hM
    (fun H' w' => ⟨w'.mono fun _ z => z.elim, .un, [], S1.mono o1 w', ND.keep w' (fun z => z.elim) nd, fun ky => rfl, Nat.le_refl _⟩)
    (fun H2 w2 i d v σ3 H3 hi rd k23 ⟨k3, b2, kvs, S3, nd3, kn, hkl⟩ => ?_) (fun H2 w2 σ3 H3 k23 ⟨k3, b2, kvs, S3, nd3, kn, hkl⟩ => ?_)
  · rw [List.getElem?_map] at hi
    cases hb : bs[i]? with
    | none => rw [hb] at hi; cases hi
    | some b =>
      rw [hb] at hi
      cases hi
      have hil : i < bs.length := (List.getElem?_eq_some_iff.mp hb).1
      have S4 := S3.putD (i := 2) rd
      have tk : bs.take (i + 1) = bs.take i ++ [b] := take_snoc hb
      refine s_if o1 (t_test o1 (e_dnotinN o1 (ns := b.ky) (e_val o1 S4 rfl) (e_slT o1 (n := 7) (ds := b.key ++ [oi b.least]) (e_var o1 S4 rfl)) fun H' w' => ND.keep w' (fun z => z.elim) nd3)) (fun c H5 w5 => ?_) (fun c H5 w5 => ?_)
      · have S5 := S4.mono o1 w5
        refine s_dputN (P := P) (w := w) (ns := b.ky) (e_ixT o1 (i := 7) (ds := b.key ++ [oi b.least]) (d := oi b.least) (e_var o1 S5 rfl) (e_int o1) rfl) (fun H' w' => e_val o1 (S5.mono o1 w') rfl) (fun H' w' => e_slT o1 (n := 7) (ds := b.key ++ [oi b.least]) (e_var o1 (S5.mono o1 w') rfl)) (fun v H1 H2 k h => DT.mono o1 k h) (ND.keep w5 (fun z => z.elim) nd3) (lt_size (by omega)) fun v6 H6 u w6 r6 k6 k66 nd6 => ?_
        have k36 : Kp (· = q) H3 (upd H6 q u) := (w5.mono fun _ z => z.elim).trans k6
        refine ⟨k23.trans k36, k3.trans k36, _, _, (S5.mono o1 w6).step hM k66, nd6, ?_, Nat.le_trans (length_putK _ _ _) (by omega)⟩
        rw [tk, r6.oiI]
        exact kn.new (by simpa using c)
      · have k35 : Kp (· = q) H3 H5 := w5.mono fun _ z => z.elim
        refine ⟨k23.trans k35, k3.trans k35, _, kvs, S4.mono o1 w5, ND.keep w5 (fun z => z.elim) nd3, ?_, by omega⟩
        rw [tk]
        exact kn.old (by simpa using c)
  · rw [List.length_map, List.take_length] at kn
    refine s_ret o1 (e_val o1 S3 rfl) fun v4 H4 w4 e => ?_
    subst e
    exact k q kvs H4 (kend (k3.trans (w4.mono fun _ z => z.elim))) hq (ND.keep w4 (fun z => z.elim) nd3) kn
abbrev N_bound_of : List Str := ["known", "key"]
abbrev s_bound_of : Stmt := top 41
theorem sc_bound_of : FnScope ["known", "key"] ["known", "key"] (defScope s_bound_of) := ⟨rfl, rfl, rfl, by decide +kernel, rfl, by decide +kernel, by decide +kernel⟩
def spBO (P : Program) (w : World) (K : PySem.W.Frag) : Sp := fun vs H Q _ => ∃ (L : Addr → Prop) (bs : List Bd) (kvs : List (List NKy × V)) (t : Addr) (v : V) (ky : List (Option Int)), vs = [.ref t, v] ∧ (∀ a, L a → H a ≠ none) ∧ DT K L H v (.tuple (ky.map oi)) ∧ ND P w H t kvs ∧ Kn kvs bs ∧ ∀ v' H', Kp No H H' → v' = oV (boundOf bs ky) → Q v' H'
theorem ok_bound_of (F : DefA K mg "bound_of" s_bound_of) : C8.Cal P w K mg base 1 "bound_of" (spBO P w K) [] := by
  refine cal_by F sc_bound_of rfl rfl rfl (fun _ _ _ _ _ _ us hl => match us, hl with | [_, _], _ => rfl) (fun vs H Q E ⟨_, _, _, _, _, _, e, _⟩ => by rw [e]; rfl) fun f cdv A outer s H vs Q E hr h => ?_
  obtain ⟨L, bs, kvs, t, v, ky, rfl, hL, rv, nd, kn, k⟩ := h
  have o := w0 K L
  have hu := hu_of hr
  have S : Sl (W0 K L) H (start N_bound_of [.ref t, v]) [.va (.ref t), .da (.tuple (ky.map oi))] := .cons (s := .va _) rfl (.cons ⟨_, rfl, rv⟩ .nil)
  refine ⟨_, (pss_c (ps_if (pt_cmp (pc_dinN' hu (pv 1) (pv 0))) (pss_one (ps_ret (pe_dgetN hu (pv 0) (pv 1) (fun _ _ => rfl)))) pss_nil)
  (pss_one (ps_ret pe_int))), ?_⟩
  have hkv := kn ky
  refine s_if o (t_test o (e_dinN o (ns := ky) (e_val o S rfl) (e_var o S rfl) fun H' w' => ND.keep w' (fun z => z.elim) nd)) (fun c H1 w1 => ?_) (fun c H1 w1 => ?_)
  · cases e : bs.find? fun b => decide (b.ky = ky) with
    | none => rw [hkv, e] at c; cases c
    | some b =>
      have S1 := S.mono o w1
      refine s_ret o (e_dgetN o (ns := ky) (v := oV b.least) (e_val o S1 rfl) (e_var o S1 rfl) (fun H' w' => ND.keep (w1.trans w') (fun z => z.elim) nd) (by rw [hkv, e]; rfl)) fun v2 H2 w2 r2 => k v2 H2 (w1.trans w2) ?_
      rw [r2]
      unfold boundOf
      rw [e]
  · cases e : bs.find? fun b => decide (b.ky = ky) with
    | some b => rw [hkv, e] at c; cases c
    | none =>
      refine k (.int 0) H1 w1 ?_
      unfold boundOf
      rw [e]
      rfl
theorem e_callBO {L : Addr → Prop} {H : Hp} {σ : L2.St} {ρ : List Ds} {i : Nat} {t : Addr} {tx : TE} {ky : List (Option Int)} {bs : List Bd} {kvs : List (List NKy × V)} (S : Sl (W0 K L) H σ ρ) (hi : ρ[i]? = some (.va (.ref t))) (hx : Ed (W0 K L) tx σ H (.tuple (ky.map oi))) (hL : ∀ a, L a → H a ≠ none) (nd : ND P w H t kvs) (kn : Kn kvs bs) :
    Ed (W0 K L) (tCall (spBO P w K) [] E0 (tCons (tVar i) (tCons tx tNil))) σ H (oi (boundOf bs ky)) := fun H1 w1 Q q =>
  ⟨_, S.va hi, hx H1 w1 _ fun v H2 w2 r => ⟨L, bs, kvs, t, v, ky, rfl, (w1.trans w2).un hL, r, ND.keep (w1.trans w2) (fun z => z.elim) nd, kn, fun v' H' k' r' => q v' H' (w2.trans k') (by rw [r']; exact DT.oi _)⟩⟩
end
end SR

namespace SR
open PySem PySem.Spec PyProof.Rows L2
def rightLeaf (p : Pt) (r : Rg) (rows : List Str) (fixed forb : List Rg) (least : Option Int) : Bool := if !(allowedB p r fixed forb) || !(p.fits r) then true else atMost least (some (leafCost p r rows))
def spotOk (p : Pt) (ms : List Mv) (r : Rg) (o : Int) (least : Option Int) (bs : List Bd) (x : Nat × Int) : Bool := match ms[x.1]? with
  | some m => atMost least (sumOf m.c (boundOf bs (kyOf (p.piece r o m.p x.2) none)) (boundOf bs (kyOf r (some (m.t, o + x.2)))))
  | none => true
def rightSpot (p : Pt) (M : Mch) (r : Rg) (s o : Int) (least : Option Int) (bs : List Bd) : Bool :=
  if decide ((M.ends.length : Int) ≤ s) then true
  else if decide (o = p.ext r) && (M.ends.getD s.toNat false && !decide (least = some 0)) then false
  else (looks M.moves s (p.ext r - o)).all (spotOk p M.moves r o least bs)
def rightBound (ps : List Pt) (ms : List (Option Mch)) (rows : List Str) (fixed forb : List Rg) (bs : List Bd) (b : Bd) : Bool := match ps[b.r.p.toNat]? with
  | none => true
  | some p => if !p.isStrip then b.at_.isSome || rightLeaf p b.r rows fixed forb b.least else match b.at_ with
    | some (s, o) => match ms[b.r.p.toNat]? with
      | some (some M) => rightSpot p M b.r s o b.least bs
      | _ => true
    | none => !(allowedB p b.r fixed forb) || atMost b.least (boundOf bs (kyOf b.r (some (0, 0))))
def certB (ps : List Pt) (r : Rg) (rows : List Str) (fixed forb : List Rg) (bs : List Bd) (cost : Option Int) : Bool := if !(bs.all (rightBound ps (machsOf ps) rows fixed forb bs)) then false else atMost cost (boundOf bs (kyOf r none))
theorem eqv_oi (a : Option Int) : PyData.eqv (oi a) (.int 0) = decide (a = some 0) := by
  cases a with
  | none => rfl
  | some i =>
    show (i == 0) = decide (some i = some 0)
    by_cases h : i = 0
    · subst h; rfl
    · rw [beq_eq_false_iff_ne.mpr h, decide_eq_false fun z => h (Option.some.inj z)]
theorem shaped_oi (a : Option Int) : SeqAt.shaped (oi a) = true := by cases a <;> rfl
theorem isND_oi (a : Option Int) : isND (oi a) = a.isNone := by cases a <;> rfl
structure Rules (ps : List Pt) (ms : List (Option Mch)) (r : Rg) (rows : List Str) : Prop where
  G : Gram ps ms
  g : Page ps r
  im : Img rows
section
variable {P : Program} {w : World} {K : PySem.W.Frag} {mg : Str → Option Value} {base : Heap}
abbrev N_right_leaf : List Str := ["parts", "rows", "wishes", "region", "least", "part"]
abbrev s_right_leaf : Stmt := top 43
theorem sc_right_leaf : FnScope ["parts", "rows", "wishes", "region", "least", "part"] ["parts", "rows", "wishes", "region", "least"] (defScope s_right_leaf) := ⟨rfl, rfl, rfl, by decide +kernel, rfl, by decide +kernel, by decide +kernel⟩
def Rright_leaf (ds : List PyData) (d : PyData) : Prop := ∃ (ps : List Pt) (p : Pt) (r : Rg) (rows : List Str) (fixed forb : List Rg) (least : Option Int), 0 ≤ r.p ∧ ps[r.p.toNat]? = some p ∧ Leaf p ∧ Img rows ∧ 0 ≤ r.w ∧ r.w ≤ 1000 ∧ 0 ≤ r.h ∧ r.h ≤ 1000 ∧ ds = [pts ps, .tuple (rows.map .str), wish fixed forb, r.d, oi least] ∧ d = .bool (rightLeaf p r rows fixed forb least)
theorem ok_right_leaf {Ts : List Addr} (F : DefA K mg "right_leaf" s_right_leaf) (c_allowed : C8.Cal P w K mg base 3 "allowed" (spG K Ts Rallowed) []) (c_fits : C8.Cal P w K mg base 1 "fits" (spD K Rfits) []) (c_at_most : C8.Cal P w K mg base 1 "at_most" (spD K Rat_most) []) (c_leaf_cost : C8.Cal P w K mg base 2 "leaf_cost" (spD K Rleaf_cost) []) :
    C8.Cal P w K mg base 4 "right_leaf" (spG K Ts Rright_leaf) [] := by
  refine cal_by F sc_right_leaf rfl rfl rfl (fun _ _ _ _ _ _ us hl => match us, hl with | [_, _, _, _, _], _ => rfl) (spG_len fun ds d ⟨_, _, _, _, _, _, _, _, _, _, _, _, _, _, _, e, _⟩ => by rw [e]; rfl) fun f cdv A outer s H vs Q E hr h => ?_
  obtain ⟨L, ds, d, hTs, hL, hd, ⟨ps, p, r, rows, fixed, forb, least, hp0, hp, lf, im, b1, b2, b3, b4, rfl, rfl⟩, k⟩ := h
  have o := w0 K L
  have hu4 : _ + 64 < cLine := hr.units
  have S := Sl.start (C := W0 K L) (N := N_right_leaf) hd
  refine ⟨_, (pss_c (ps_set (i := 5) sc_right_leaf.nd rfl (Or.inl rfl) (pe_ix ix_seq (pv 0) (pe_ix ix_seq (pv 3) pe_int (fun _ _ => rfl)) (fun _ _ => rfl)))
  (pss_c (ps_if (PW.pt (pw_or (pt_not (pt_val (C8.pe_c c_allowed hr (by omega) rfl (pa_cons (pv 0) (pa_cons (pv 3) (pa_cons (pv 2) pa_nil)))))) (pw_or1 (pt_not (pt_val (C8.pe_c c_fits hr (by omega) rfl (pa_cons (pv 5) (pa_cons (pv 3) pa_nil)))))))) (pss_one (ps_ret pe_bl)) pss_nil)
  (pss_one (ps_ret (C8.pe_c c_at_most hr (by omega) rfl (pa_cons (pv 4) (pa_cons (C8.pe_c c_leaf_cost hr (by omega) rfl (pa_cons (pv 5) (pa_cons (pv 3) (pa_cons (pv 1) pa_nil)))) pa_nil))))))), ?_⟩
  have hpd : (ps.map Pt.d)[r.p.toNat]? = some p.d := by rw [List.getElem?_map, hp]; rfl
  refine s_set o (e_ixTz o (ds := ps.map Pt.d) (e_var o S rfl) (e_rg o (r := r) (e_var o S rfl) 0) hp0 hpd) fun v1 H1 w1 r1 => ?_
  have S1 := (S.mono o w1).putD (i := 5) r1
  refine s_if o (t_or o (t_not o (t_B o (e_callG o (fun P hP => w1.tab P (hTs P hP)) (w1.un hL) (a_cons o (e_var o S1 rfl) (a_cons o (e_var o S1 rfl) (a_cons o (e_var o S1 rfl) (a_nil o)))) ⟨ps, p, r, fixed, forb, hp0, hp, rfl, rfl⟩))) fun _ => t_not o (t_B o (e_call o (w1.un hL) (a_cons o (e_var o S1 rfl) (a_cons o (e_var o S1 rfl) (a_nil o))) ⟨p, r, lf, rfl, rfl⟩))) (fun c H2 w2 => ?_) (fun c H2 w2 => ?_)
  · refine s_ret o (e_bl o) fun v H3 w3 r3 => k v H3 ((w1.trans w2).trans w3) ?_
    unfold rightLeaf
    rw [if_pos c]
    exact r3
  · have S2 := S1.mono o w2
    have hf : p.fits r = true := by
      cases e : p.fits r with
      | true => rfl
      | false => rw [e] at c; simp at c
    have un2 := (w1.trans w2).un hL
    refine s_ret o (e_call o un2 (a_cons o (e_var o S2 rfl) (a_cons o (e_call o un2 (a_cons o (e_var o S2 rfl) (a_cons o (e_var o S2 rfl) (a_cons o (e_var o S2 rfl) (a_nil o)))) ⟨p, r, rows, lf, hf, im, b1, b2, b3, b4, rfl, rfl⟩) (a_nil o))) ⟨least, some (leafCost p r rows), rfl, rfl⟩) fun v H3 w3 r3 => k v H3 ((w1.trans w2).trans w3) ?_
    unfold rightLeaf
    rw [if_neg (by rw [c]; exact Bool.false_ne_true)]
    exact r3
abbrev N_right_spot : List Str := ["part", "machine", "region", "spot", "least", "known", "ends", "moves", "state", "offset", "far", "number", "size", "move", "inner", "rest"]
abbrev s_right_spot : Stmt := top 44
theorem sc_right_spot : FnScope ["part", "machine", "region", "spot", "least", "known", "ends", "moves", "state", "offset", "far", "number", "size", "move", "inner", "rest"] ["part", "machine", "region", "spot", "least", "known"] (defScope s_right_spot) := ⟨rfl, rfl, rfl, by decide +kernel, rfl, by decide +kernel, by decide +kernel⟩
def spRS (P : Program) (w : World) (K : PySem.W.Frag) : Sp := fun vs H Q _ => ∃ (L : Addr → Prop) (p : Pt) (M : Mch) (r : Rg) (st of : Int) (least : Option Int) (bs : List Bd) (kvs : List (List NKy × V)) (t : Addr) (v1 v2 v3 v4 v5 : V), vs = [v1, v2, v3, v4, v5, .ref t] ∧ (∀ a, L a → H a ≠ none) ∧ DT K L H v1 p.d ∧ DT K L H v2 M.d ∧ DT K L H v3 r.d ∧ DT K L H v4 (.tuple [.int st, .int of]) ∧ DT K L H v5 (oi least) ∧ ND P w H t kvs ∧ Kn kvs bs ∧
  Mvs M.moves ∧ 0 ≤ st ∧ 0 ≤ of ∧ of ≤ 100 ∧ 0 ≤ p.ext r ∧ p.ext r ≤ 100 ∧ ∀ v' H', Kp No H H' → v' = .bl (rightSpot p M r st of least bs) → Q v' H'
theorem ok_right_spot (F : DefA K mg "right_spot" s_right_spot) (B : Blt mg) (c_extent : C8.Cal P w K mg base 1 "extent" (spD K Rextent) []) (c_looks_at : C8.Cal P w K mg base 1 "looks_at" (spD K Rlooks_at) []) (c_bound_of : C8.Cal P w K mg base 1 "bound_of" (spBO P w K) []) (c_piece : C8.Cal P w K mg base 1 "piece" (spD K Rpiece) []) (c_at_most : C8.Cal P w K mg base 1 "at_most" (spD K Rat_most) []) (c_sum_of : C8.Cal P w K mg base 1 "sum_of" (spD K Rsum_of) []) :
    C8.Cal P w K mg base 2 "right_spot" (spRS P w K) [] := by
  refine cal_by F sc_right_spot rfl rfl rfl (fun _ _ _ _ _ _ us hl => match us, hl with | [_, _, _, _, _, _], _ => rfl) (fun vs H Q E ⟨_, _, _, _, _, _, _, _, _, _, _, _, _, _, _, e, _⟩ => by rw [e]; rfl) fun f cdv A outer s H vs Q E hr h => ?_
  obtain ⟨L, p, M, r, st, of, least, bs, kvs, t, v1, v2, v3, v4, v5, rfl, hL, rv1, rv2, rv3, rv4, rv5, nd, kn, gm, hs0, ho0, ho1, he0, he1, k⟩ := h
  have o := w0 K L
  have hu4 : _ + 64 < cLine := hr.units
  have hu := hu_of hr
  refine ⟨_, (pss_c (ps_asg (pv 1) (pg_tup rfl (pgs_cons (pg_name (i := 6) sc_right_spot.nd rfl (Or.inl rfl)) (pgs_cons (pg_name (i := 7) sc_right_spot.nd rfl (Or.inl rfl)) pgs_nil))))
  (pss_c (ps_asg (pv 3) (pg_tup rfl (pgs_cons (pg_name (i := 8) sc_right_spot.nd rfl (Or.inl rfl)) (pgs_cons (pg_name (i := 9) sc_right_spot.nd rfl (Or.inl rfl)) pgs_nil))))
  (pss_c (ps_if (pt_cmpR op_ge (pv 8) (pe_callB call_len (by rfl) B.len PySem.boot_len (pa_cons (pv 6) pa_nil)) (nomark _)) (pss_one (ps_ret pe_bl)) pss_nil)
  (pss_c (ps_set (i := 10) sc_right_spot.nd rfl (Or.inl rfl) (C8.pe_c c_extent hr (by omega) rfl (pa_cons (pv 0) (pa_cons (pv 2) pa_nil))))
  (pss_c (ps_if (PW.pt (pw_and (pt_cmpR (op_Q hu4) (pv 9) (pv 10) (nomark _)) (pw_and (pt_val (pe_ix ix_seq (pv 6) (pv 8) (fun _ _ => rfl))) (pw_and1 (pt_cmpR (op_NQ hu4) (pv 4) pe_int (nomark _)))))) (pss_one (ps_ret pe_bl)) pss_nil)
  (pss_c (ps_for PassesOwn.never rfl (pi_list (C8.pe_c c_looks_at hr (by omega) rfl (pa_cons (pv 7) (pa_cons (pv 8) (pa_cons (pe_op op_sub (pv 10) (pv 9)) pa_nil))))) (pg_tup rfl (pgs_cons (pg_name (i := 11) sc_right_spot.nd rfl (Or.inl rfl)) (pgs_cons (pg_name (i := 12) sc_right_spot.nd rfl (Or.inl rfl)) pgs_nil))) (pss_c (ps_set (i := 13) sc_right_spot.nd rfl (Or.inl rfl) (pe_ix ix_seq (pv 7) (pv 11) (fun _ _ => rfl)))
  (pss_c (ps_set (i := 14) sc_right_spot.nd rfl (Or.inl rfl) (C8.pe_c c_bound_of hr (by omega) rfl (pa_cons (pv 5) (pa_cons (pe_op op_catA (C8.pe_c c_piece hr (by omega) rfl (pa_cons (pv 0) (pa_cons (pv 2) (pa_cons (pv 9) (pa_cons (pe_ix ix_seq (pv 13) pe_int (fun _ _ => rfl)) (pa_cons (pv 12) pa_nil)))))) (pe_tup (pa_cons pe_non (pa_cons pe_non pa_nil)))) pa_nil))))
  (pss_c (ps_set (i := 15) sc_right_spot.nd rfl (Or.inl rfl) (C8.pe_c c_bound_of hr (by omega) rfl (pa_cons (pv 5) (pa_cons (pe_op op_catA (pv 2) (pe_tup (pa_cons (pe_ix ix_seq (pv 13) pe_int (fun _ _ => rfl)) (pa_cons (pe_op op_add (pv 9) (pv 12)) pa_nil)))) pa_nil))))
  (pss_one (ps_if (pt_not (pt_val (C8.pe_c c_at_most hr (by omega) rfl (pa_cons (pv 4) (pa_cons (C8.pe_c c_sum_of hr (by omega) rfl (pa_cons (pe_ix ix_seq (pv 13) pe_int (fun _ _ => rfl)) (pa_cons (pv 14) (pa_cons (pv 15) pa_nil)))) pa_nil))))) (pss_one (ps_ret pe_bl)) pss_nil))))))
  (pss_one (ps_ret pe_bl)))))))), ?_⟩
  have S : Sl (W0 K L) H (start N_right_spot [v1, v2, v3, v4, v5, .ref t]) [.da p.d, .da M.d, .da r.d, .da (.tuple [.int st, .int of]), .da (oi least), .va (.ref t), .un, .un, .un, .un, .un, .un, .un, .un, .un, .un] :=
    .cons ⟨_, rfl, rv1⟩ (.cons ⟨_, rfl, rv2⟩ (.cons ⟨_, rfl, rv3⟩ (.cons ⟨_, rfl, rv4⟩ (.cons ⟨_, rfl, rv5⟩ (.cons (s := .va _) rfl (Sl.ofD (vs := []) (ds := []) 10 .nil))))))
  refine s_asg o (e_var o S rfl) fun v H1 w1 r1 => g_pair r1 fun x y rx ry => ?_
  have S1 := ((S.mono o w1).putD (i := 6) rx).putD (i := 7) ry
  refine s_asg o (e_var o S1 rfl) fun v H2 w2 r2 => g_pair r2 fun x y rx ry => ?_
  have S2 := ((S1.mono o w2).putD (i := 8) rx).putD (i := 9) ry
  have w02 : Kp No H H2 := w1.trans w2
  refine s_if o (t_test o (e_cmp o (e_var o S2 rfl) (e_lenT o (ds := M.ends.map .bool) (e_var o S2 rfl)))) (fun c H3 w3 => ?_) (fun c H3 w3 => ?_)
  · refine s_ret o (e_bl o) fun v H4 w4 r4 => k v H4 ((w02.trans w3).trans w4) ?_
    unfold rightSpot
    rw [List.length_map] at c
    rw [if_pos c]
    exact r4.blI
  rw [List.length_map] at c
  have hst : st < (M.ends.length : Int) := by have := of_decide_eq_false c; omega
  have S3 := S2.mono o w3
  have w03 : Kp No H H3 := w02.trans w3
  refine s_set o (e_call o (w03.un hL) (a_cons o (e_var o S3 rfl) (a_cons o (e_var o S3 rfl) (a_nil o))) ⟨p, r, rfl, rfl⟩) fun v5 H4 w4 r4 => ?_
  have S4 := (S3.mono o w4).putD (i := 10) r4
  have w04 : Kp No H H4 := w03.trans w4
  have hend : (M.ends.map PyData.bool)[st.toNat]? = some (.bool (M.ends.getD st.toNat false)) := by
    rw [List.getElem?_map, List.getD_eq_getElem?_getD]
    cases e : M.ends[st.toNat]? with
    | none => have := List.getElem?_eq_none_iff.mp e; omega
    | some b => rfl
  refine s_if o (t_and o (t_test o (e_eqI o (e_var o S4 rfl) (e_var o S4 rfl))) fun _ => t_and o (t_B o (e_ixTz o (ds := M.ends.map .bool) (e_var o S4 rfl) (e_var o S4 rfl) hs0 hend)) fun _ => t_test o (e_neD o (shaped_oi least) rfl (e_var o S4 rfl) (e_int o))) (fun c2 H5 w5 => ?_) (fun c2 H5 w5 => ?_)
  · rw [eqv_oi] at c2
    refine s_ret o (e_bl o) fun v H6 w6 r6 => k v H6 ((w04.trans w5).trans w6) ?_
    unfold rightSpot
    rw [if_neg (by rw [c]; exact Bool.false_ne_true), if_pos c2]
    exact r6.blI
  rw [eqv_oi] at c2
  have S5 := S4.mono o w5
  have w05 : Kp No H H5 := w04.trans w5
  have res : rightSpot p M r st of least bs = (looks M.moves st (p.ext r - of)).all (spotOk p M.moves r of least bs) := by
    unfold rightSpot
    rw [if_neg (by rw [c]; exact Bool.false_ne_true), if_neg (by rw [c2]; exact Bool.false_ne_true)]
  unfold tNext
  dsimp only
  refine s_forP o (ds := prs (looks M.moves st (p.ext r - of))) (e_call o (w05.un hL) (a_cons o (e_var o S5 rfl) (a_cons o (e_var o S5 rfl) (a_cons o (e_sub o (e_var o S5 rfl) (e_var o S5 rfl)) (a_nil o)))) ⟨M.moves, st, _, gm, by omega, rfl, rfl⟩)
    (fun i σ' H' => Kp No H5 H' ∧ ((looks M.moves st (p.ext r - of)).take i).all (spotOk p M.moves r of least bs) = true ∧ ∃ b11 b12 b13 b14 b15, Sl (W0 K L) H' σ' [.da p.d, .da M.d, .da r.d, .da (.tuple [.int st, .int of]), .da (oi least), .va (.ref t), .da (.tuple (M.ends.map .bool)), .da (mvs M.moves), .da (.int st), .da (.int of), .da (.int (p.ext r)), b11, b12, b13, b14, b15]) (M := No) (fun a z => z.elim)
    (fun H' w' => ⟨w', rfl, .un, .un, .un, .un, .un, S5.mono o w'⟩) (fun d hd => by obtain ⟨x, _, rfl⟩ := List.mem_map.mp hd; exact ⟨_, _, rfl⟩) (fun H6 w6 i d e v u σ7 H7 hi rd re k67 ⟨k7, hall, b11, b12, b13, b14, b15, S7⟩ => ?_) (fun H6 w6 σ7 H7 k67 ⟨k7, hall, b11, b12, b13, b14, b15, S7⟩ => ?_)
  · unfold prs at hi
    rw [List.getElem?_map] at hi
    cases hnz : (looks M.moves st (p.ext r - of))[i]? with
    | none => rw [hnz] at hi; cases hi
    | some nz =>
      rw [hnz] at hi
      have hi := Option.some.inj hi
      unfold pr at hi
      cases hi
      obtain ⟨n, z⟩ := nz
      obtain ⟨m, hm, _⟩ := mem_looks.mp (List.mem_of_getElem? hnz)
      have S8 := (S7.putD (i := 11) rd).putD (i := 12) re
      have w07 : Kp No H H7 := w05.trans k7
      refine s_set o (e_ixT o (ds := M.moves.map Mv.d) (i := n) (d := m.d) (e_var o S8 rfl) (e_var o S8 rfl) (by rw [List.getElem?_map, hm]; rfl)) fun v9 H9 w9 r9 => ?_
      have S9 := (S8.mono o w9).putD (i := 13) r9
      have w09 : Kp No H H9 := w07.trans w9
      have rgt : ∀ (x : Rg), x.d = .tuple ((x.ns.map some).map oi) := fun x => rfl
      refine s_set o (e_callBO (P := P) (w := w) (ky := kyOf (p.piece r of m.p z) none) S9 rfl (e_cat o (ds := (p.piece r of m.p z).ns.map .int) (es := [.none, .none]) (e_call o (w09.un hL) (a_cons o (e_var o S9 rfl) (a_cons o (e_var o S9 rfl) (a_cons o (e_var o S9 rfl) (a_cons o (e_mv o (m := m) (e_var o S9 rfl) 2) (a_cons o (e_var o S9 rfl) (a_nil o)))))) ⟨p, r, of, m.p, z, rfl, rfl⟩) (e_tup o (a_cons o (e_non o) (a_cons o (e_non o) (a_nil o)))) (by show 5 + 2 ≤ 1000; decide)) (w09.un hL) (ND.keep w09 (fun z => z.elim) nd) kn) fun v10 H10 w10 r10 => ?_
      have S10 := (S9.mono o w10).putD (i := 14) r10
      have w010 : Kp No H H10 := w09.trans w10
      refine s_set o (e_callBO (P := P) (w := w) (ky := kyOf r (some (m.t, of + z))) S10 rfl (e_cat o (ds := r.ns.map .int) (es := [.int m.t, .int (of + z)]) (e_var o S10 rfl) (e_tup o (a_cons o (e_mv o (m := m) (e_var o S10 rfl) 1) (a_cons o (e_add o (e_var o S10 rfl) (e_var o S10 rfl)) (a_nil o)))) (by show 5 + 2 ≤ 1000; decide)) (w010.un hL) (ND.keep w010 (fun z => z.elim) nd) kn) fun v11 H11 w11 r11 => ?_
      have S11 := (S10.mono o w11).putD (i := 15) r11
      have w011 : Kp No H H11 := w010.trans w11
      have un11 := w011.un hL
      have hso : spotOk p M.moves r of least bs (n, z) = atMost least (sumOf m.c (boundOf bs (kyOf (p.piece r of m.p z) none)) (boundOf bs (kyOf r (some (m.t, of + z))))) := by
        unfold spotOk
        rw [hm]
      refine s_if o (t_not o (t_B o (e_call o un11 (a_cons o (e_var o S11 rfl) (a_cons o (e_call o un11 (a_cons o (e_mv o (m := m) (e_var o S11 rfl) 5) (a_cons o (e_var o S11 rfl) (a_cons o (e_var o S11 rfl) (a_nil o)))) ⟨m.c, boundOf bs (kyOf (p.piece r of m.p z) none), boundOf bs (kyOf r (some (m.t, of + z))), rfl, rfl⟩) (a_nil o))) ⟨least, sumOf m.c (boundOf bs (kyOf (p.piece r of m.p z) none)) (boundOf bs (kyOf r (some (m.t, of + z)))), rfl, rfl⟩))) (fun c3 H12 w12 => ?_) (fun c3 H12 w12 => ?_)
      · refine s_ret o (e_bl o) fun v H13 w13 r13 => k v H13 ((w011.trans w12).trans w13) ?_
        rw [res, r13.blI]
        congr 1
        symm
        rw [List.all_eq_false]
        refine ⟨(n, z), List.mem_of_getElem? hnz, ?_⟩
        rw [hso]
        simpa using c3
      · refine ⟨k67.trans (((w9.trans w10).trans w11).trans w12), k7.trans (((w9.trans w10).trans w11).trans w12), ?_, _, _, _, _, _, S11.mono o w12⟩
        rw [take_snoc hnz, List.all_append, hall, Bool.true_and]
        simp only [List.all_cons, List.all_nil, Bool.and_true]
        rw [hso]
        simpa using c3
  · rw [show (prs (looks M.moves st (p.ext r - of))).length = (looks M.moves st (p.ext r - of)).length from List.length_map .., List.take_length] at hall
    refine s_ret o (e_bl o) fun v H8 w8 r8 => k v H8 ((w05.trans k7).trans w8) ?_
    rw [res, hall]
    exact r8.blI
end
end SR

namespace SR
open PySem PySem.Spec PyProof.Rows L2
def nthB {α : Type} (f : α → Bool) (l : List α) (i : Nat) : Bool := match l[i]? with
  | some b => f b
  | none => true
theorem nthB_of {α : Type} {f : α → Bool} {l : List α} {i : Nat} {b : α} (h : l[i]? = some b) : nthB f l i = f b := by
  unfold nthB
  rw [h]
theorem range_all {α : Type} (f : α → Bool) (l : List α) : (List.range l.length).all (nthB f l) = l.all f := by
  rw [Bool.eq_iff_iff, List.all_eq_true, List.all_eq_true]
  constructor
  · intro h b hb
    obtain ⟨i, hi, e⟩ := List.getElem_of_mem hb
    have := h i (List.mem_range.mpr hi)
    rw [nthB_of (List.getElem?_eq_getElem hi), e] at this
    exact this
  · intro h i hi
    have := List.mem_range.mp hi
    rw [nthB_of (List.getElem?_eq_getElem this)]
    exact h _ (List.getElem_mem this)
section
variable {P : Program} {w : World} {K : PySem.W.Frag} {mg : Str → Option Value} {base : Heap}
theorem e_callRS {L : Addr → Prop} {H : Hp} {σ : L2.St} {ρ : List Ds} {i : Nat} {t : Addr} {t1 t2 t3 t4 t5 : TE} {p : Pt} {M : Mch} {r : Rg} {st of : Int} {least : Option Int} {bs : List Bd} {kvs : List (List NKy × V)} (S : Sl (W0 K L) H σ ρ) (hi : ρ[i]? = some (.va (.ref t))) (h1 : Ed (W0 K L) t1 σ H p.d) (h2 : Ed (W0 K L) t2 σ H M.d) (h3 : Ed (W0 K L) t3 σ H r.d) (h4 : Ed (W0 K L) t4 σ H (.tuple [.int st, .int of])) (h5 : Ed (W0 K L) t5 σ H (oi least)) (hL : ∀ a, L a → H a ≠ none) (nd : ND P w H t kvs) (kn : Kn kvs bs)
    (gm : Mvs M.moves) (hs0 : 0 ≤ st) (ho0 : 0 ≤ of) (ho1 : of ≤ 100) (he0 : 0 ≤ p.ext r) (he1 : p.ext r ≤ 100) : Ed (W0 K L) (tCall (spRS P w K) [] E0 (tCons t1 (tCons t2 (tCons t3 (tCons t4 (tCons t5 (tCons (tVar i) tNil))))))) σ H (.bool (rightSpot p M r st of least bs)) := fun H1 w1 Q q => by
  have o := w0 K L
  refine h1 H1 w1 _ fun v1 H2 w2 r1 => h2 H2 (w1.trans w2) _ fun v2 H3 w3 r2 => h3 H3 ((w1.trans w2).trans w3) _ fun v3 H4 w4 r3 => h4 H4 (((w1.trans w2).trans w3).trans w4) _ fun v4 H5 w5 r4 => h5 H5 ((((w1.trans w2).trans w3).trans w4).trans w5) _ fun v5 H6 w6 r5 => ?_
  have w16 : Kp No H H6 := ((((w1.trans w2).trans w3).trans w4).trans w5).trans w6
  have w36 : Kp No H3 H6 := ((Kp.trans w4 w5)).trans w6
  refine ⟨_, S.va hi, L, p, M, r, st, of, least, bs, kvs, t, v1, v2, v3, v4, v5, rfl, w16.un hL, DT.mono o (Kp.trans w3 w36) r1, DT.mono o w36 r2, DT.mono o (Kp.trans w5 w6) r3, DT.mono o w6 r4, r5, ND.keep w16 (fun z => z.elim) nd, kn, gm, hs0, ho0, ho1, he0, he1, fun v' H' k' e => q v' H' (((((w2.trans w3).trans w4).trans w5).trans w6).trans k') ?_⟩
  rw [e]
  exact .bl _
abbrev N_right_bound : List Str := ["parts", "machine_of", "rows", "wishes", "bound", "known", "region", "part"]
abbrev s_right_bound : Stmt := top 45
theorem sc_right_bound : FnScope ["parts", "machine_of", "rows", "wishes", "bound", "known", "region", "part"] ["parts", "machine_of", "rows", "wishes", "bound", "known"] (defScope s_right_bound) := ⟨rfl, rfl, rfl, by decide +kernel, rfl, by decide +kernel, by decide +kernel⟩
def spRB (P : Program) (w : World) (K : PySem.W.Frag) (Ts : List Addr) : Sp := fun vs H Q _ => ∃ (L : Addr → Prop) (ps : List Pt) (r : Rg) (rows : List Str) (fixed forb : List Rg) (b : Bd) (bs : List Bd) (kvs : List (List NKy × V)) (t : Addr) (v1 v2 v3 v4 v5 : V), vs = [v1, v2, v3, v4, v5, .ref t] ∧ (∀ P ∈ Ts, GxR.TabG H P) ∧ (∀ a, L a → H a ≠ none) ∧ DT K L H v1 (pts ps) ∧ DT K L H v2 (mcs (machsOf ps)) ∧ DT K L H v3 (.tuple (rows.map .str)) ∧ DT K L H v4 (wish fixed forb) ∧ DT K L H v5 b.d ∧ ND P w H t kvs ∧ Kn kvs bs ∧
  BtPre ps r rows ∧ BdOk ps r b ∧ ∀ v' H', Kp No H H' → v' = .bl (rightBound ps (machsOf ps) rows fixed forb bs b) → Q v' H'
theorem ok_right_bound {Ts : List Addr} (F : DefA K mg "right_bound" s_right_bound) (c_is_strip : C8.Cal P w K mg base 1 "is_strip" (spD K RisStrip) []) (c_right_leaf : C8.Cal P w K mg base 4 "right_leaf" (spG K Ts Rright_leaf) []) (c_right_spot : C8.Cal P w K mg base 2 "right_spot" (spRS P w K) []) (c_allowed : C8.Cal P w K mg base 3 "allowed" (spG K Ts Rallowed) [])
    (c_at_most : C8.Cal P w K mg base 1 "at_most" (spD K Rat_most) []) (c_bound_of : C8.Cal P w K mg base 1 "bound_of" (spBO P w K) []) : C8.Cal P w K mg base 5 "right_bound" (spRB P w K Ts) [] := by
  refine cal_by F sc_right_bound rfl rfl rfl (fun _ _ _ _ _ _ us hl => match us, hl with | [_, _, _, _, _, _], _ => rfl) (fun vs H Q E ⟨_, _, _, _, _, _, _, _, _, _, _, _, _, _, _, e, _⟩ => by rw [e]; rfl) fun f cdv A outer s H vs Q E hr h => ?_
  obtain ⟨L, ps, r, rows, fixed, forb, b, bs, kvs, t, v1, v2, v3, v4, v5, rfl, hTs, hL, rv1, rv2, rv3, rv4, rv5, nd, kn, bp, hb, k⟩ := h
  have o := w0 K L
  have hu := hu_of hr
  refine ⟨_, (pss_c (ps_set (i := 6) sc_right_bound.nd rfl (Or.inl rfl) (pe_slice sl_tupA (pv 4) po_none (po_some pe_int)))
  (pss_c (ps_set (i := 7) sc_right_bound.nd rfl (Or.inl rfl) (pe_ix ix_seq (pv 0) (pe_ix ix_seq (pv 6) pe_int (fun _ _ => rfl)) (fun _ _ => rfl)))
  (pss_c (ps_if (pt_not (pt_val (C8.pe_c c_is_strip hr (by omega) rfl (pa_cons (pv 7) pa_nil)))) (pss_one (ps_ret (pe_or (pe_cmpR op_notN (pe_ix ix_seq (pv 4) pe_int (fun _ _ => rfl)) pe_non (nomark _)) (pe_one (C8.pe_c c_right_leaf hr (by omega) rfl (pa_cons (pv 0) (pa_cons (pv 2) (pa_cons (pv 3) (pa_cons (pv 6) (pa_cons (pe_ix ix_seq (pv 4) pe_int (fun _ _ => rfl)) pa_nil)))))))))) pss_nil)
  (pss_c (ps_if (pt_cmpR op_notN (pe_ix ix_seq (pv 4) pe_int (fun _ _ => rfl)) pe_non (nomark _)) (pss_one (ps_ret (C8.pe_c c_right_spot hr (by omega) rfl (pa_cons (pv 7) (pa_cons (pe_ix ix_seq (pv 1) (pe_ix ix_seq (pv 6) pe_int (fun _ _ => rfl)) (fun _ _ => rfl)) (pa_cons (pv 6) (pa_cons (pe_tup (pa_cons (pe_ix ix_seq (pv 4) pe_int (fun _ _ => rfl)) (pa_cons (pe_ix ix_seq (pv 4) pe_int (fun _ _ => rfl)) pa_nil))) (pa_cons (pe_ix ix_seq (pv 4) pe_int (fun _ _ => rfl)) (pa_cons (pv 5) pa_nil))))))))) pss_nil)
  (pss_one (ps_ret (pe_or (pe_not (C8.pe_c c_allowed hr (by omega) rfl (pa_cons (pv 0) (pa_cons (pv 6) (pa_cons (pv 3) pa_nil))))) (pe_one (C8.pe_c c_at_most hr (by omega) rfl (pa_cons (pe_ix ix_seq (pv 4) pe_int (fun _ _ => rfl)) (pa_cons (C8.pe_c c_bound_of hr (by omega) rfl (pa_cons (pv 5) (pa_cons (pe_op op_catA (pv 6) (pe_tup (pa_cons pe_int (pa_cons pe_int pa_nil)))) pa_nil))) pa_nil))))))))))), ?_⟩
  have S : Sl (W0 K L) H (start N_right_bound [v1, v2, v3, v4, v5, .ref t]) [.da (pts ps), .da (mcs (machsOf ps)), .da (.tuple (rows.map .str)), .da (wish fixed forb), .da b.d, .va (.ref t), .un, .un] :=
    .cons ⟨_, rfl, rv1⟩ (.cons ⟨_, rfl, rv2⟩ (.cons ⟨_, rfl, rv3⟩ (.cons ⟨_, rfl, rv4⟩ (.cons ⟨_, rfl, rv5⟩ (.cons (s := .va _) rfl (Sl.ofD (vs := []) (ds := []) 2 .nil))))))
  have G := bp.G
  have g := bp.g
  have hin := hb.ins
  obtain ⟨p, hp⟩ := hin.part
  have hpd : (ps.map Pt.d)[b.r.p.toNat]? = some p.d := by rw [List.getElem?_map, hp]; rfl
  have hext := hin.ext g p
  have hw := g.w; have hh := g.h; have i1 := hin.w0; have i2 := hin.h0; have i3 := hin.x0; have i4 := hin.x1; have i5 := hin.y0; have i6 := hin.y1
  refine s_set o (e_slT o (n := 5) (ds := b.key ++ [oi b.least]) (e_var o S rfl)) fun v6 H1 w1 r1 => ?_
  have r1 : DT K L H1 v6 b.r.d := r1
  have S1 := (S.mono o w1).putD (i := 6) r1
  refine s_set o (e_ixTz o (ds := ps.map Pt.d) (e_var o S1 rfl) (e_rg o (r := b.r) (e_var o S1 rfl) 0) hin.p0 hpd) fun v7 H2 w2 r2 => ?_
  have S2 := (S1.mono o w2).putD (i := 7) r2
  have w02 : Kp No H H2 := w1.trans w2
  have rb : rightBound ps (machsOf ps) rows fixed forb bs b = if !p.isStrip then b.at_.isSome || rightLeaf p b.r rows fixed forb b.least else match b.at_ with
      | some (s, o) => match (machsOf ps)[b.r.p.toNat]? with
        | some (some M) => rightSpot p M b.r s o b.least bs
        | _ => true
      | none => !(allowedB p b.r fixed forb) || atMost b.least (boundOf bs (kyOf b.r (some (0, 0)))) := by
    unfold rightBound
    rw [hp] <;> rfl
  have at5 : ∀ {σ H'} {te : TE}, Ed (W0 K L) te σ H' b.d → Ed (W0 K L) (tOp (fun x y H Q => y = .non ∧ Q (.bl (!decide (x = .non))) H) (tOp (rIx K) te (tC (.int 5))) (tC .non)) σ H' (.bool b.at_.isSome) := fun {σ H' te} h => by
    have := e_notN o (e_ixT o (i := 5) (ds := b.key ++ [oi b.least]) (d := oi (b.at_.map (·.1))) h (e_int o) rfl)
    rw [isND_oi] at this
    cases e : b.at_ with
    | none => rw [e] at this; exact this
    | some x => rw [e] at this; exact this
  refine s_if o (t_not o (t_B o (e_call o (w02.un hL) (a_cons o (e_var o S2 rfl) (a_nil o)) ⟨p, rfl, rfl⟩))) (fun c H3 w3 => ?_) (fun c H3 w3 => ?_)
  · have S3 := S2.mono o w3
    have w03 : Kp No H H3 := w02.trans w3
    obtain ⟨_, lf⟩ := G.leaf _ p hp (by simpa using c)
    refine s_ret o (e_or o (at5 (e_var o S3 rfl)) fun _ => e_callG o (fun P hP => w03.tab P (hTs P hP)) (w03.un hL) (a_cons o (e_var o S3 rfl) (a_cons o (e_var o S3 rfl) (a_cons o (e_var o S3 rfl) (a_cons o (e_var o S3 rfl) (a_cons o (e_ixT o (i := 7) (ds := b.key ++ [oi b.least]) (d := oi b.least) (e_var o S3 rfl) (e_int o) rfl) (a_nil o)))))) ⟨ps, p, b.r, rows, fixed, forb, b.least, hin.p0, hp, lf, bp.im, by omega, by omega, by omega, by omega, rfl, rfl⟩) fun v H4 w4 r4 => k v H4 (w03.trans w4) ?_
    rw [rb, if_pos c]
    exact r4.blI
  rw [if_neg (by rw [c]; exact Bool.false_ne_true)] at rb
  have S3 := S2.mono o w3
  have w03 : Kp No H H3 := w02.trans w3
  refine s_if o (t_test o (at5 (e_var o S3 rfl))) (fun c2 H4 w4 => ?_) (fun c2 H4 w4 => ?_)
  · have S4 := S3.mono o w4
    have w04 : Kp No H H4 := w03.trans w4
    cases hat : b.at_ with
    | none => rw [hat] at c2; cases c2
    | some so =>
      obtain ⟨st, of⟩ := so
      obtain ⟨M, hM, gm, g1, _⟩ := G.strip _ p hp (by simpa using c)
      have hmd : ((machsOf ps).map mchD)[b.r.p.toNat]? = some M.d := by rw [List.getElem?_map, hM]; rfl
      obtain ⟨q1, q2, q3, q4⟩ := hb.at_ st of hat
      rw [hat, hM] at rb
      refine s_ret o (e_callRS (P := P) (w := w) S4 rfl (e_var o S4 rfl) (e_ixTz o (ds := (machsOf ps).map mchD) (d := M.d) (e_var o S4 rfl) (e_rg o (r := b.r) (e_var o S4 rfl) 0) hin.p0 hmd) (e_var o S4 rfl) (e_tup o (a_cons o (e_ixT o (i := 5) (ds := b.key ++ [oi b.least]) (d := .int st) (e_var o S4 rfl) (e_int o) (by unfold Bd.key; rw [hat]; rfl)) (a_cons o (e_ixT o (i := 6) (ds := b.key ++ [oi b.least]) (d := .int of) (e_var o S4 rfl) (e_int o) (by unfold Bd.key; rw [hat]; rfl)) (a_nil o)))) (e_ixT o (i := 7) (ds := b.key ++ [oi b.least]) (d := oi b.least) (e_var o S4 rfl) (e_int o) rfl)
        (w04.un hL) (ND.keep w04 (fun z => z.elim) nd) kn gm q1 q3 q4 (by omega) (by omega)) fun v H5 w5 r5 => k v H5 (w04.trans w5) ?_
      rw [rb]
      exact r5.blI
  · have S4 := S3.mono o w4
    have w04 : Kp No H H4 := w03.trans w4
    have hat : b.at_ = none := by
      cases e : b.at_ with
      | none => rfl
      | some so => rw [e] at c2; cases c2
    rw [hat] at rb
    unfold tNext
    dsimp only
    refine s_ret o (e_or o (e_not o (e_callG o (fun P hP => w04.tab P (hTs P hP)) (w04.un hL) (a_cons o (e_var o S4 rfl) (a_cons o (e_var o S4 rfl) (a_cons o (e_var o S4 rfl) (a_nil o)))) ⟨ps, p, b.r, fixed, forb, hin.p0, hp, rfl, rfl⟩)) fun _ => e_call o (w04.un hL) (a_cons o (e_ixT o (i := 7) (ds := b.key ++ [oi b.least]) (d := oi b.least) (e_var o S4 rfl) (e_int o) rfl) (a_cons o (e_callBO (P := P) (w := w) (ky := kyOf b.r (some (0, 0))) S4 rfl (e_cat o (ds := b.r.ns.map .int) (es := [.int 0, .int 0]) (e_var o S4 rfl) (e_tup o (a_cons o (e_int o) (a_cons o (e_int o) (a_nil o)))) (by show 5 + 2 ≤ 1000; decide)) (w04.un hL) (ND.keep w04 (fun z => z.elim) nd) kn) (a_nil o))) ⟨b.least, boundOf bs (kyOf b.r (some (0, 0))), rfl, rfl⟩) fun v H5 w5 r5 => k v H5 (w04.trans w5) ?_
    rw [rb]
    exact r5.blI
theorem e_callRB {Ts : List Addr} {L : Addr → Prop} {H : Hp} {σ : L2.St} {ρ : List Ds} {i : Nat} {t : Addr} {t1 t2 t3 t4 t5 : TE} {ps : List Pt} {r : Rg} {rows : List Str} {fixed forb : List Rg} {b : Bd} {bs : List Bd} {kvs : List (List NKy × V)} (S : Sl (W0 K L) H σ ρ) (hi : ρ[i]? = some (.va (.ref t))) (h1 : Ed (W0 K L) t1 σ H (pts ps)) (h2 : Ed (W0 K L) t2 σ H (mcs (machsOf ps))) (h3 : Ed (W0 K L) t3 σ H (.tuple (rows.map .str))) (h4 : Ed (W0 K L) t4 σ H (wish fixed forb)) (h5 : Ed (W0 K L) t5 σ H b.d) (hTs : ∀ P ∈ Ts, GxR.TabG H P) (hL : ∀ a, L a → H a ≠ none) (nd : ND P w H t kvs) (kn : Kn kvs bs)
    (bp : BtPre ps r rows) (hb : BdOk ps r b) : Ed (W0 K L) (tCall (spRB P w K Ts) [] E0 (tCons t1 (tCons t2 (tCons t3 (tCons t4 (tCons t5 (tCons (tVar i) tNil))))))) σ H (.bool (rightBound ps (machsOf ps) rows fixed forb bs b)) := fun H1 w1 Q q => by
  have o := w0 K L
  refine h1 H1 w1 _ fun v1 H2 w2 r1 => h2 H2 (w1.trans w2) _ fun v2 H3 w3 r2 => h3 H3 ((w1.trans w2).trans w3) _ fun v3 H4 w4 r3 => h4 H4 (((w1.trans w2).trans w3).trans w4) _ fun v4 H5 w5 r4 => h5 H5 ((((w1.trans w2).trans w3).trans w4).trans w5) _ fun v5 H6 w6 r5 => ?_
  have w16 : Kp No H H6 := ((((w1.trans w2).trans w3).trans w4).trans w5).trans w6
  have w36 : Kp No H3 H6 := ((Kp.trans w4 w5)).trans w6
  refine ⟨_, S.va hi, L, ps, r, rows, fixed, forb, b, bs, kvs, t, v1, v2, v3, v4, v5, rfl, fun P hP => w16.tab P (hTs P hP), w16.un hL, DT.mono o (Kp.trans w3 w36) r1, DT.mono o w36 r2, DT.mono o (Kp.trans w5 w6) r3, DT.mono o w6 r4, r5, ND.keep w16 (fun z => z.elim) nd, kn, bp, hb, fun v' H' k' e => q v' H' (((((w2.trans w3).trans w4).trans w5).trans w6).trans k') ?_⟩
  rw [e]
  exact .bl _
/-- known_bounds(bounds), the dict tracked -/
theorem e_callKB {L : Addr → Prop} {H : Hp} {σ : L2.St} {tx : TE} {bs : List Bd} (hL : ∀ a, L a → H a ≠ none) (h : Ed (W0 K L) tx σ H (.list (bs.map Bd.d))) (hl : bs.length ≤ 5000) : EvP (W0 K L) (tCall (spKB P w K) [] E0 (tCons tx tNil)) σ H fun v H' => ∃ q kvs, v = .ref q ∧ ND P w H' q kvs ∧ Kn kvs bs := fun H1 w1 Q q =>
  h H1 w1 _ fun v H2 w2 r => ⟨L, bs, (w1.trans w2).un hL, .cons r .nil, hl, fun p kvs H' k' hn nd kn => q _ H' (w2.trans k') ⟨p, kvs, rfl, nd, kn⟩⟩
theorem e_callBO2 {L : Addr → Prop} {H : Hp} {σ : L2.St} {td tx : TE} {ky : List (Option Int)} {bs : List Bd} (hd : EvP (W0 K L) td σ H fun v H' => ∃ q kvs, v = .ref q ∧ ND P w H' q kvs ∧ Kn kvs bs) (hx : ∀ H', Kp No H H' → Ed (W0 K L) tx σ H' (.tuple (ky.map oi))) (hL : ∀ a, L a → H a ≠ none) :
    Ed (W0 K L) (tCall (spBO P w K) [] E0 (tCons td (tCons tx tNil))) σ H (oi (boundOf bs ky)) := fun H1 w1 Q q =>
  hd H1 w1 _ fun v1 H2 w2 hz => hx H2 (w1.trans w2) H2 (Kp.refl _ _) _ fun v H3 w3 r => by
    obtain ⟨t, kvs, rfl, nd, kn⟩ := hz
    exact ⟨L, bs, kvs, t, v, ky, rfl, ((w1.trans w2).trans w3).un hL, r, ND.keep w3 (fun z => z.elim) nd, kn, fun v' H' k' r' => q v' H' ((w2.trans w3).trans k') (by rw [r']; exact DT.oi _)⟩
abbrev N_right : List Str := ["parts", "rows", "wishes", "bounds", "machine_of", "known", "bound"]
abbrev s_right : Stmt := top 46
theorem sc_right : FnScope ["parts", "rows", "wishes", "bounds", "machine_of", "known", "bound"] ["parts", "rows", "wishes", "bounds"] (defScope s_right) := ⟨rfl, rfl, rfl, by decide +kernel, rfl, by decide +kernel, by decide +kernel⟩
def Rright (ds : List PyData) (d : PyData) : Prop := ∃ (ps : List Pt) (r : Rg) (rows : List Str) (fixed forb : List Rg) (bs : List Bd), BtPre ps r rows ∧ (∀ b ∈ bs, BdOk ps r b) ∧ bs.length ≤ 5000 ∧ ds = [pts ps, .tuple (rows.map .str), wish fixed forb, .list (bs.map Bd.d)] ∧ d = .bool (bs.all (rightBound ps (machsOf ps) rows fixed forb bs))
theorem ok_right {c T : Addr} {Ts : List Addr} (F : DefC K mg "right" s_right c) (TB : GxR.TabB base mg c T) (hT : T ∈ Ts) (B : Blt mg) (c_machines : C8.Cal P w K mg base 12 "machines" (spD K Rmachines) []) (c_known_bounds : C8.Cal P w K mg base 1 "known_bounds" (spKB P w K) []) (c_right_bound : C8.Cal P w K mg base 5 "right_bound" (spRB P w K Ts) []) : C8.Cal P w K mg base 13 "right" (spG K Ts Rright) [] := by
  refine cal_byC F sc_right rfl rfl rfl (fun _ _ _ _ _ _ us hl => match us, hl with | [_, _, _, _], _ => rfl) (spG_len fun ds d ⟨_, _, _, _, _, _, _, _, _, e, _⟩ => by rw [e]; rfl) fun f A outer s H vs Q E hr h => ?_
  obtain ⟨L, ds, d, hTs, hL, hd, ⟨ps, r, rows, fixed, forb, bs, bp, hbs, hl, rfl, rfl⟩, k⟩ := h
  have o := w0 K L
  have S := Sl.start (C := W0 K L) (N := N_right) hd
  refine ⟨_, (pss_c (ps_set (i := 4) sc_right.nd rfl (Or.inr rfl) (C8.pe_c c_machines hr (by omega) rfl (pa_cons (pv 0) pa_nil)))
  (pss_c (ps_set (i := 5) sc_right.nd rfl (Or.inr rfl) (C8.pe_c c_known_bounds hr (by omega) rfl (pa_cons (pv 3) pa_nil)))
  (pss_one (ps_ret (pe_allG (own := [("bound", 6)]) hr (by rfl) B.all TB rfl rfl sc_right.nd (blkOk_by (N := N_right) (sc := defScope s_right) (by decide +kernel)) rfl (by decide +kernel) rfl (pi_list (pv 3)) (fun _ _ _ _ _ _ _ _ => (pg_name (i := 6) sc_right.nd rfl (Or.inl rfl))) (fun _ _ _ _ _ _ _ A hr => have hu4 : A.units + 64 < cLine := hr.units; (C8.pe_c c_right_bound hr (by omega) rfl (pa_cons (pv 0) (pa_cons (pv 4) (pa_cons (pv 1) (pa_cons (pv 2) (pa_cons (pv 6) (pa_cons (pv 5) pa_nil))))))))))))), ?_⟩
  have := bp.G.few
  refine s_set o (e_call o hL (a_cons o (e_var o S rfl) (a_nil o)) ⟨ps, by omega, bp.ch, rfl, rfl⟩) fun v1 H1 w1 r1 => ?_
  have S1 := (S.mono o w1).putD (i := 4) r1
  refine s_set o (e_callKB (P := P) (w := w) (w1.un hL) (e_var o S1 rfl) hl) fun v2 H2 w2 hz => ?_
  obtain ⟨q, kvs, rfl, nd, kn⟩ := hz
  have S2 := (S1.mono o w2).putV (i := 5) (v := .ref q)
  have w02 : Kp No H H2 := w1.trans w2
  refine s_ret o (e_allL o (ds := bs.map Bd.d) (g := nthB (rightBound ps (machsOf ps) rows fixed forb bs) bs) (w02.tab T (hTs T hT)) (e_var o S2 rfl) (fun v => by simp [wipe, List.set_set]) fun i d v H4 hi w4 r4 => ?_) fun v H4 w4 r4 => k v H4 (w02.trans w4) ?_
  · have S4 := ((S2.mono o w4).wipe [6]).putD (i := 6) r4
    have w04 : Kp No H H4 := w02.trans w4
    rw [List.getElem?_map] at hi
    cases hb : bs[i]? with
    | none => rw [hb] at hi; cases hi
    | some b =>
      rw [hb] at hi
      cases hi
      rw [nthB_of hb]
      exact e_callRB (P := P) (w := w) S4 rfl (e_var o S4 rfl) (e_var o S4 rfl) (e_var o S4 rfl) (e_var o S4 rfl) (e_var o S4 rfl) (fun P hP => w04.tab P (hTs P hP)) (w04.un hL) (ND.keep w4 (fun z => z.elim) nd) kn bp (hbs b (List.mem_of_getElem? hb))
  · rw [List.length_map, range_all] at r4
    exact r4
abbrev N_certifies : List Str := ["parts", "region", "rows", "wishes", "bounds", "cost"]
abbrev s_certifies : Stmt := top 47
theorem sc_certifies : FnScope ["parts", "region", "rows", "wishes", "bounds", "cost"] ["parts", "region", "rows", "wishes", "bounds", "cost"] (defScope s_certifies) := ⟨rfl, rfl, rfl, by decide +kernel, rfl, by decide +kernel, by decide +kernel⟩
def Rcertifies (ds : List PyData) (d : PyData) : Prop := ∃ (ps : List Pt) (r : Rg) (rows : List Str) (fixed forb : List Rg) (bs : List Bd) (cost : Option Int), BtPre ps r rows ∧ (∀ b ∈ bs, BdOk ps r b) ∧ bs.length ≤ 5000 ∧ ds = [pts ps, r.d, .tuple (rows.map .str), wish fixed forb, .list (bs.map Bd.d), oi cost] ∧ d = .bool (certB ps r rows fixed forb bs cost)
theorem ok_certifies {Ts : List Addr} (F : DefA K mg "certifies" s_certifies) (c_right : C8.Cal P w K mg base 13 "right" (spG K Ts Rright) []) (c_at_most : C8.Cal P w K mg base 1 "at_most" (spD K Rat_most) []) (c_bound_of : C8.Cal P w K mg base 1 "bound_of" (spBO P w K) []) (c_known_bounds : C8.Cal P w K mg base 1 "known_bounds" (spKB P w K) []) : C8.Cal P w K mg base 14 "certifies" (spG K Ts Rcertifies) [] := by
  refine cal_by F sc_certifies rfl rfl rfl (fun _ _ _ _ _ _ us hl => match us, hl with | [_, _, _, _, _, _], _ => rfl) (spG_len fun ds d ⟨_, _, _, _, _, _, _, _, _, _, e, _⟩ => by rw [e]; rfl) fun f cdv A outer s H vs Q E hr h => ?_
  obtain ⟨L, ds, d, hTs, hL, hd, ⟨ps, r, rows, fixed, forb, bs, cost, bp, hbs, hl, rfl, rfl⟩, k⟩ := h
  have o := w0 K L
  have S := Sl.start (C := W0 K L) (N := N_certifies) hd
  refine ⟨_, (pss_c (ps_if (pt_not (pt_val (C8.pe_c c_right hr (by omega) rfl (pa_cons (pv 0) (pa_cons (pv 2) (pa_cons (pv 3) (pa_cons (pv 4) pa_nil))))))) (pss_one (ps_ret pe_bl)) pss_nil)
  (pss_one (ps_ret (C8.pe_c c_at_most hr (by omega) rfl (pa_cons (pv 5) (pa_cons (C8.pe_c c_bound_of hr (by omega) rfl (pa_cons (C8.pe_c c_known_bounds hr (by omega) rfl (pa_cons (pv 4) pa_nil)) (pa_cons (pe_op op_catA (pv 1) (pe_tup (pa_cons pe_non (pa_cons pe_non pa_nil)))) pa_nil))) pa_nil)))))), ?_⟩
  refine s_if o (t_not o (t_B o (e_callG o hTs hL (a_cons o (e_var o S rfl) (a_cons o (e_var o S rfl) (a_cons o (e_var o S rfl) (a_cons o (e_var o S rfl) (a_nil o))))) ⟨ps, r, rows, fixed, forb, bs, bp, hbs, hl, rfl, rfl⟩))) (fun c H1 w1 => ?_) (fun c H1 w1 => ?_)
  · refine s_ret o (e_bl o) fun v H2 w2 r2 => k v H2 (w1.trans w2) ?_
    unfold certB
    rw [if_pos c]
    exact r2
  · have S1 := S.mono o w1
    have un1 := w1.un hL
    unfold tNext
    dsimp only
    refine s_ret o (e_call o un1 (a_cons o (e_var o S1 rfl) (a_cons o (e_callBO2 (P := P) (w := w) (ky := kyOf r none) (e_callKB (P := P) (w := w) un1 (e_var o S1 rfl) hl) (fun H' w' => e_cat o (ds := r.ns.map .int) (es := [.none, .none]) (e_var o (S1.mono o w') rfl) (e_tup o (a_cons o (e_non o) (a_cons o (e_non o) (a_nil o)))) (by show 5 + 2 ≤ 1000; decide)) un1) (a_nil o))) ⟨cost, boundOf bs (kyOf r none), rfl, rfl⟩) fun v H2 w2 r2 => k v H2 (w1.trans w2) ?_
    unfold certB
    rw [if_neg (by rw [c]; exact Bool.false_ne_true)]
    exact r2
end
end SR

namespace SR
open PySem PySem.Spec PyProof.Rows L2
/-- the script -/
def Scr (K : PySem.W.Frag) (H : Hp) (a : Addr) (zs : List Int) : Prop := SqL K H a (zs.map V.int)
theorem Scr.keep {K : PySem.W.Frag} {H H' : Hp} {a : Addr} {zs : List Int} (k : Kp No H H') (h : Scr K H a zs) : Scr K H' a zs := by
  rcases h with (h | ⟨o, h⟩) | h
  · exact .inl (.inl (k.lst (fun z => z.elim) h))
  · exact .inl (.inr ⟨o, k.frz _ _ _ h⟩)
  · exact .inr h
/-- an item of a list known -/
theorem e_ixQ {C : Wd} (o : C.Ok) {H : Hp} {σ : L2.St} {ta tb : TE} {a : Addr} {xs : List V} {i : Nat} {v : V} (ha : Ee C ta σ H (.ref a)) (hb : Ed C tb σ H (.int (i : Int))) (hx : ∀ H', C.W H H' → SqL C.K H' a xs) (hi : xs[i]? = some v) : Ee C (tOp (rIx C.K) ta tb) σ H v := fun H1 w Q q =>
  ha H1 w _ fun x H2 w2 e => hb H2 (o.trans w w2) _ fun y H3 w3 r => by
    subst e
    exact .inl ⟨a, xs, _, v, rfl, r.intI, hx H3 (o.trans (o.trans w w2) w3), atI_nat hi, q v H3 (o.trans w2 w3) rfl⟩
theorem e_lenQ {C : Wd} (o : C.Ok) {H : Hp} {σ : L2.St} {ta : TE} {a : Addr} {xs : List V} (ha : Ee C ta σ H (.ref a)) (hx : ∀ H', C.W H H' → SqL C.K H' a xs) : Ed C (tCB (rLen C.K) (tCons ta tNil)) σ H (.int xs.length) := fun H1 w Q q =>
  ha H1 w _ fun x H2 w2 e => by
    subst e
    exact ⟨_, _, rfl, .inl ⟨xs, hx H2 (o.trans w w2), rfl⟩, q _ H2 w2 (.int _)⟩
section
variable {P : Program} {w : World} {K : PySem.W.Frag} {mg : Str → Option Value} {base : Heap}
abbrev N__law_cell : List Str := ["_law_script", "_law_k"]
abbrev s__law_cell : Stmt := top 49
theorem sc__law_cell : FnScope ["_law_script", "_law_k"] ["_law_script", "_law_k"] (defScope s__law_cell) := ⟨rfl, rfl, rfl, by decide +kernel, rfl, by decide +kernel, by decide +kernel⟩
def spCell (K : PySem.W.Frag) : Sp := fun vs H Q _ => ∃ (L : Addr → Prop) (a : Addr) (zs : List Int) (k : Nat), vs = [.ref a, .int k] ∧ (∀ a, L a → H a ≠ none) ∧ Scr K H a zs ∧ ∀ z H', Kp No H H' → Q (.int z) H'
theorem ok__law_cell (F : DefA K mg "_law_cell" s__law_cell) (B : Blt mg) : C8.Cal P w K mg base 1 "_law_cell" (spCell K) [] := by
  refine cal_by F sc__law_cell rfl rfl rfl (fun _ _ _ _ _ _ us hl => match us, hl with | [_, _], _ => rfl) (fun vs H Q E ⟨_, _, _, _, e, _⟩ => by rw [e]; rfl) fun f cdv A outer s H vs Q E hr h => ?_
  obtain ⟨L, a, zs, n, rfl, hL, hs, k⟩ := h
  have o := w0 K L
  refine ⟨_, (pss_c (ps_if (pt_cmpR op_lt (pv 1) (pe_callB call_len (by rfl) B.len PySem.boot_len (pa_cons (pv 0) pa_nil)) (nomark _)) (pss_one (ps_ret (pe_ix ix_seq (pv 0) (pv 1) (fun _ _ => rfl)))) pss_nil)
  (pss_one (ps_ret pe_int))), ?_⟩
  have S : Sl (W0 K L) H (start N__law_cell [.ref a, .int n]) [.va (.ref a), .da (.int n)] := .cons (s := .va _) rfl (.cons ⟨_, rfl, .int _⟩ .nil)
  refine s_if o (t_test o (e_cmp o (e_var o S rfl) (e_lenQ o (e_val o S rfl) fun H' w' => Scr.keep w' hs))) (fun c H1 w1 => ?_) (fun c H1 w1 => ?_)
  · have hlt : n < zs.length := by have := of_decide_eq_true c; rw [List.length_map] at this; omega
    have S1 := S.mono o w1
    refine s_ret o (e_ixQ o (i := n) (v := .int zs[n]) (e_val o S1 rfl) (e_var o S1 rfl) (fun H' w' => Scr.keep (w1.trans w') hs) (by rw [List.getElem?_map, List.getElem?_eq_getElem hlt]; rfl)) fun v H2 w2 e => ?_
    rw [e]
    exact k _ H2 (w1.trans w2)
  · exact k 0 H1 w1
theorem e_callCell {C : Wd} (o : C.Ok) {H : Hp} {σ : L2.St} {ta tk : TE} {a : Addr} {zs : List Int} {k : Nat} (hL : ∀ a, C.L a → H a ≠ none) (ha : Ee C ta σ H (.ref a)) (hk : Ed C tk σ H (.int k)) (hs : ∀ H', C.W H H' → Scr C.K H' a zs) : EvP C (tCall (spCell C.K) [] E0 (tCons ta (tCons tk tNil))) σ H fun v _ => ∃ z : Int, v = .int z := fun H1 w1 Q q =>
  ha H1 w1 _ fun v1 H2 w2 e => hk H2 (o.trans w1 w2) _ fun v2 H3 w3 r => by
    subst e
    rw [r.intI]
    exact ⟨C.L, a, zs, k, rfl, o.un (o.trans (o.trans w1 w2) w3) hL, hs _ (o.trans (o.trans w1 w2) w3), fun z H' k' => q _ H' (o.trans (o.trans w2 w3) (o.of0 k')) ⟨z, rfl⟩⟩
theorem e_pow {C : Wd} (o : C.Ok) {H : Hp} {σ : L2.St} {ta tb : TE} {i j : Int} (ha : Ed C ta σ H (.int i)) (hb : Ed C tb σ H (.int j)) (hc : CPow i j) : Ed C (tOp (rI CPow fun i j => .int (i ^ j.toNat)) ta tb) σ H (.int (i ^ j.toNat)) :=
  e_op o ha hb fun x y H1 _ p p' Q q => ⟨i, j, p.intI, p'.intI, hc, q _ H1 (o.refl _) (.int _)⟩
abbrev N__law_digits : List Str := ["_law_script", "_law_first", "_law_last", "_law_digits_here", "_law_k", "_law_cell_here", "_law_turn", "_law_seed"]
abbrev s__law_digits : Stmt := top 50
theorem sc__law_digits : FnScope ["_law_script", "_law_first", "_law_last", "_law_digits_here", "_law_k", "_law_cell_here", "_law_turn", "_law_seed"] ["_law_script", "_law_first", "_law_last"] (defScope s__law_digits) := ⟨rfl, rfl, rfl, by decide +kernel, rfl, by decide +kernel, by decide +kernel⟩
def spDigits (K : PySem.W.Frag) : Sp := fun vs H Q _ => ∃ (L : Addr → Prop) (a : Addr) (zs : List Int) (i j : Nat), vs = [.ref a, .int i, .int j] ∧ i ≤ 1000 ∧ j ≤ 1000 ∧ (∀ a, L a → H a ≠ none) ∧ Scr K H a zs ∧ ∀ (p : Addr) (ds : List Int) (H' : Hp), Kp No H H' → H p = none → H' p = some (.lst (ds.map V.int)) → Q (.ref p) H'
theorem ok__law_digits (F : DefA K mg "_law_digits" s__law_digits) (B : Blt mg) (c__law_cell : C8.Cal P w K mg base 1 "_law_cell" (spCell K) []) : C8.Cal P w K mg base 2 "_law_digits" (spDigits K) [] := by
  refine cal_by F sc__law_digits rfl rfl rfl (fun _ _ _ _ _ _ us hl => match us, hl with | [_, _, _], _ => rfl) (fun vs H Q E ⟨_, _, _, _, _, e, _⟩ => by rw [e]; rfl) fun f cdv A outer s H vs Q E hr h => ?_
  obtain ⟨L, a, zs, n, m, rfl, hn, hm, hL, hs, k⟩ := h
  have o := w0 K L
  refine ⟨_, (pss_c (ps_set (i := 3) sc__law_digits.nd rfl (Or.inl rfl) (pe_lst pa_nil))
  (pss_c (ps_for PassesOwn.never rfl (pi_range2 (by rfl) B.range (pa_cons (pv 1) (pa_cons (pv 2) pa_nil))) (pg_name (i := 4) sc__law_digits.nd rfl (Or.inl rfl)) (pss_c (ps_set (i := 5) sc__law_digits.nd rfl (Or.inl rfl) (C8.pe_c c__law_cell hr (by omega) rfl (pa_cons (pv 0) (pa_cons (pv 4) pa_nil))))
  (pss_c (ps_if (pt_cmpR op_lt (pv 5) pe_int (nomark _)) (pss_one (ps_set (i := 5) sc__law_digits.nd rfl (Or.inl rfl) (pe_op op_sub pe_int (pe_op op_mul pe_int (pv 5))))) pss_nil)
  (pss_one (ps_if (pt_cmpR op_ge (pv 5) (pe_op op_pow pe_int pe_int) (nomark _)) (pss_one (ps_for PassesOwn.never rfl (pi_range1 (by rfl) B.range (pa_cons pe_int pa_nil)) (pg_name (i := 6) sc__law_digits.nd rfl (Or.inl rfl)) (pss_one (ps_if (pt_cmpR op_gt (pv 5) pe_int (nomark _)) (pss_c (ps_expr (pe_bm PySem.F.plainAttrs_list PySem.F.slot_list_append PySem.F.type_list_append mt_append (pv 3) (pa_cons (pe_op op_mod (pe_callTy call_int1 (by rfl) B.int (by decide +kernel) (pa_cons (pv 5) pa_nil)) pe_int) pa_nil)))
  (pss_one (ps_set (i := 5) sc__law_digits.nd rfl (Or.inl rfl) (pe_op op_fdiv (pv 5) pe_int)))) pss_nil)))) (pss_c (ps_set (i := 7) sc__law_digits.nd rfl (Or.inl rfl) (pe_op op_mod (pe_callTy call_int1 (by rfl) B.int (by decide +kernel) (pa_cons (pe_op op_add (pe_op op_add (pe_op op_mul (pv 5) pe_int) (pe_op op_mul (pv 4) pe_int)) pe_int) pa_nil)) pe_int))
  (pss_one (ps_for PassesOwn.never rfl (pi_range1 (by rfl) B.range (pa_cons pe_int pa_nil)) (pg_name (i := 6) sc__law_digits.nd rfl (Or.inl rfl)) (pss_c (ps_set (i := 7) sc__law_digits.nd rfl (Or.inl rfl) (pe_op op_mod (pe_callTy call_int1 (by rfl) B.int (by decide +kernel) (pa_cons (pe_op op_add (pe_op op_add (pe_op op_mul (pv 7) pe_int) (pe_op op_mul pe_int (pv 6))) pe_int) pa_nil)) pe_int))
  (pss_one (ps_expr (pe_bm PySem.F.plainAttrs_list PySem.F.slot_list_append PySem.F.type_list_append mt_append (pv 3) (pa_cons (pe_op op_mod (pe_callTy call_int1 (by rfl) B.int (by decide +kernel) (pa_cons (pe_op op_fdiv (pv 7) pe_int) pa_nil)) pe_int) pa_nil)))))))))))))
  (pss_one (ps_ret (pv 3))))), ?_⟩
  have S : Sl (W0 K L) H (start N__law_digits [.ref a, .int n, .int m]) [.va (.ref a), .da (.int n), .da (.int m), .un, .un, .un, .un, .un] := .cons (s := .va _) rfl (.cons ⟨_, rfl, .int _⟩ (.cons ⟨_, rfl, .int _⟩ (Sl.ofD (vs := []) (ds := []) 5 .nil)))
  refine s_new (i := 3) S fun q hq S1 => ?_
  have o1 := w0 K (Lp L q)
  have un1 : ∀ a, Lp L q a → upd H q (.lst []) a ≠ none := own_un hL _
  have hq1 : upd H q (.lst []) q = some (.lst []) := upd_same
  have kend : ∀ {H'}, Kp (· = q) (upd H q (.lst [])) H' → Kp No H H' := fun {H'} k' => (Kp.refl No H).trans ((Kp.new hq).loc hq k')
  generalize upd H q (.lst []) = H1 at S1 un1 hq1 kend ⊢
  have hM : ∀ a, a = q → Lp L q a := fun a e => .inr e
  -- one more number
  have app : ∀ {N : Nat} {σ : L2.St} {H2 : Hp} {ρ : List Ds} {ds : List Int} {te : TE} {z : Int} {rt bk ct} {nx : L2.St → Hp → Prop}, Kp (· = q) H1 H2 → Sl (W0 K (Lp L q)) H2 σ ρ → ρ[3]? = some (.va (.ref q)) → H2 q = some (.lst (ds.map V.int)) → ds.length ≤ N → N ≤ 1000000 → Ed (W0 K (Lp L q)) te σ H2 (.int z) →
      (∀ (H3 : Hp) (ds' : List Int), Kp (· = q) H1 H3 → Sl (W0 K (Lp L q)) H3 σ ρ → H3 q = some (.lst (ds'.map V.int)) → ds'.length ≤ N + 1 → nx σ H3) → tDrop (tBM K "list" rAppend (tVar 3) (tCons te tNil)) ⟨nx, rt, bk, ct⟩ σ H2 := fun {N σ H2 ρ ds te z rt bk ct nx} k2 S2 h3 hq2 hl hN he k' => by
    refine s_app S2 h3 hq2 (lt_size (by rw [List.length_map]; omega)) he fun v H3 w3 r3 hq3 => ?_
    have k3 : Kp (· = q) H3 (upd H3 q (.lst (ds.map V.int ++ [v]))) := (Kp.refl _ _).app hq3
    refine k' _ (ds ++ [z]) (k2.trans ((w3.mono fun _ z => z.elim).trans k3)) ((S2.mono o1 w3).step hM k3) ?_ (by rw [List.length_append]; simp; omega)
    rw [upd_same, r3.intI, List.map_append]
    rfl
  refine s_for2 o1 (a := n) (b := m) (a_cons o1 (e_var o1 S1 rfl) (a_cons o1 (e_var o1 S1 rfl) (a_nil o1))) (by omega) (by omega) (by omega) (by omega)
    (fun i σ' H' => Kp (· = q) H1 H' ∧ ∃ (b4 b5 b6 b7 : Ds) (ds : List Int), Sl (W0 K (Lp L q)) H' σ' [.va (.ref a), .da (.int n), .da (.int m), .va (.ref q), b4, b5, b6, b7] ∧ H' q = some (.lst (ds.map V.int)) ∧ ds.length ≤ 60 * i)
    (fun H' w' => ⟨w'.mono fun _ z => z.elim, .un, .un, .un, .un, [], S1.mono o1 w', w'.lst (fun z => z.elim) hq1, Nat.le_refl _⟩)
    (fun i σ2 H2 hi ⟨k2, b4, b5, b6, b7, ds, S2, hq2, hl2⟩ => ?_) (fun σ2 H2 ⟨k2, b4, b5, b6, b7, ds, S2, hq2, hl2⟩ => ?_)
  · have hi' : i ≤ 1000 := by omega
    have S3 := (S2.putD (i := 4) (.int _) : Sl (W0 K (Lp L q)) H2 (σ2.set 4 (some (.int ((n : Int) + i)))) [.va (.ref a), .da (.int n), .da (.int m), .va (.ref q), .da (.int ((n : Int) + i)), b5, b6, b7])
    have hs2 : ∀ H', Kp No H2 H' → Scr K H' a zs := fun H' w' => Scr.keep ((kend k2).trans (Kp.trans (Kp.refl No H2) w')) hs
    refine s_set (i := 5) o1 (e_callCell (k := n + i) o1 (k2.un un1) (e_val o1 S3 rfl) (by rw [show ((n + i : Nat) : Int) = (n : Int) + i by omega]; exact e_var o1 S3 rfl) hs2) fun v H4 w4 hz => ?_
    obtain ⟨z, rfl⟩ := hz
    have S4 := (S3.mono o1 w4).putD (i := 5) (.int z)
    have k4 := k2.trans (w4.mono fun _ z => z.elim)
    have hq4 : H4 q = some (.lst (ds.map V.int)) := w4.lst (fun z => z.elim) hq2
    refine s_ifSet o1 (i := 5) (P := fun v H' => Dw (W0 K (Lp L q)) H' v (.int (1 - 2 * z))) (t_test o1 (e_cmp o1 (e_var o1 S4 rfl) (e_int o1))) (fun c H5 w5 => e_sub o1 (e_int o1) (e_mul o1 (e_int o1) (e_var o1 (S4.mono o1 w5) rfl) (.inl ⟨by decide, by decide⟩))) fun σ5 H5 w5 hz => ?_
    have k5 := k4.trans (w5.mono fun _ z => z.elim)
    have hq5 : H5 q = some (.lst (ds.map V.int)) := w5.lst (fun z => z.elim) hq4
    obtain ⟨y, S5⟩ : ∃ y : Int, Sl (W0 K (Lp L q)) H5 σ5 [.va (.ref a), .da (.int n), .da (.int m), .va (.ref q), .da (.int ((n : Int) + i)), .da (.int y), b6, b7] := by
      rcases hz with ⟨_, v, rv, rfl⟩ | ⟨_, rfl⟩
      · exact ⟨_, (S4.mono o1 w5).putD (i := 5) rv⟩
      · exact ⟨z, S4.mono o1 w5⟩
    refine s_if o1 (t_test o1 (e_cmp o1 (e_var o1 S5 rfl) (e_pow o1 (i := 10) (j := 18) (e_int o1) (e_int o1) ⟨by decide, by decide, by decide⟩))) (fun c H6 w6 => ?_) (fun c H6 w6 => ?_)
    · have S6 := S5.mono o1 w6
      refine s_for1 o1 (n := 60) (a_cons o1 (e_int o1) (a_nil o1)) (by decide) (by decide)
        (fun j σ' H' => Kp (· = q) H1 H' ∧ ∃ (y : Int) (b6 b7 : Ds) (ds' : List Int), Sl (W0 K (Lp L q)) H' σ' [.va (.ref a), .da (.int n), .da (.int m), .va (.ref q), .da (.int ((n : Int) + i)), .da (.int y), b6, b7] ∧ H' q = some (.lst (ds'.map V.int)) ∧ ds'.length ≤ 60 * i + j)
        (fun H' w' => ⟨k5.trans ((w6.trans w').mono fun _ z => z.elim), y, _, _, ds, S6.mono o1 w', (w6.trans w').lst (fun z => z.elim) hq5, hl2⟩)
        (fun j σ7 H7 hj ⟨k7, y7, b6, b7, ds7, S7, hq7, hl7⟩ => ?_) (fun σ7 H7 ⟨k7, y7, b6, b7, ds7, S7, hq7, hl7⟩ => ⟨k7, _, _, _, _, ds7, S7, hq7, hl7⟩)
      have hj' : j < 60 := hj
      have S8 := S7.putD (i := 6) (.int (j : Int))
      refine s_if o1 (t_test o1 (e_cmp o1 (e_var o1 S8 rfl) (e_int o1))) (fun c H9 w9 => ?_) (fun c H9 w9 => ?_)
      · have S9 := S8.mono o1 w9
        refine app (N := 60 * i + j) (k7.trans (w9.mono fun _ z => z.elim)) S9 rfl (w9.lst (fun z => z.elim) hq7) hl7 (by omega) (e_mod o1 (e_intI o1 (e_var o1 S9 rfl)) (e_int o1) (by decide)) fun H10 ds10 k10 S10 hq10 hl10 => ?_
        refine s_set (i := 5) o1 (e_fdiv o1 (e_var o1 S10 rfl) (e_int o1) ⟨by decide, by decide⟩) fun v H11 w11 r11 => ?_
        exact ⟨k10.trans (w11.mono fun _ z => z.elim), _, _, _, ds10, (S10.mono o1 w11).putD (i := 5) r11, w11.lst (fun z => z.elim) hq10, hl10⟩
      · exact ⟨k7.trans (w9.mono fun _ z => z.elim), _, _, _, ds7, S8.mono o1 w9, w9.lst (fun z => z.elim) hq7, by omega⟩
    · have S6 := S5.mono o1 w6
      refine s_set (i := 7) o1 (e_mod o1 (e_intI o1 (e_add o1 (e_add o1 (e_mul o1 (e_var o1 S6 rfl) (e_int o1) (.inr ⟨by decide, by decide⟩)) (e_mul o1 (e_var o1 S6 rfl) (e_int o1) (.inr ⟨by decide, by decide⟩))) (e_int o1))) (e_int o1) (by decide)) fun v H7 w7 r7 => ?_
      have S7 := (S6.mono o1 w7).putD (i := 7) r7
      have w57 := w6.trans w7
      generalize (_ : Int) % 2147483647 = sd at S7
      refine s_for1 o1 (n := 12) (a_cons o1 (e_int o1) (a_nil o1)) (by decide) (by decide)
        (fun j σ' H' => Kp (· = q) H1 H' ∧ ∃ (sd : Int) (b6 : Ds) (ds' : List Int), Sl (W0 K (Lp L q)) H' σ' [.va (.ref a), .da (.int n), .da (.int m), .va (.ref q), .da (.int ((n : Int) + i)), .da (.int y), b6, .da (.int sd)] ∧ H' q = some (.lst (ds'.map V.int)) ∧ ds'.length ≤ 60 * i + j)
        (fun H' w' => ⟨k5.trans ((w57.trans w').mono fun _ z => z.elim), sd, _, ds, S7.mono o1 w', (w57.trans w').lst (fun z => z.elim) hq5, hl2⟩)
        (fun j σ8 H8 hj ⟨k8, sd8, b6, ds8, S8, hq8, hl8⟩ => ?_) (fun σ8 H8 ⟨k8, sd8, b6, ds8, S8, hq8, hl8⟩ => ⟨k8, _, _, _, _, ds8, S8, hq8, by have : (12 : Int).toNat = 12 := rfl; omega⟩)
      have hj' : j < 12 := hj
      have S9 := S8.putD (i := 6) (.int (j : Int))
      refine s_set (i := 7) o1 (e_mod o1 (e_intI o1 (e_add o1 (e_add o1 (e_mul o1 (e_var o1 S9 rfl) (e_int o1) (.inr ⟨by decide, by decide⟩)) (e_mul o1 (e_int o1) (e_var o1 S9 rfl) (.inl ⟨by decide, by decide⟩))) (e_int o1))) (e_int o1) (by decide)) fun v H10 w10 r10 => ?_
      have S10 := (S9.mono o1 w10).putD (i := 7) r10
      generalize (_ : Int) % 2147483647 = sd10 at S10
      refine app (N := 60 * i + j) (k8.trans (w10.mono fun _ z => z.elim)) S10 rfl (w10.lst (fun z => z.elim) hq8) hl8 (by omega) (e_mod o1 (e_intI o1 (e_fdiv o1 (e_var o1 S10 rfl) (e_int o1) ⟨by decide, by decide⟩)) (e_int o1) (by decide)) fun H11 ds11 k11 S11 hq11 hl11 => ?_
      exact ⟨k11, _, _, ds11, S11, hq11, hl11⟩
  · refine s_ret o1 (e_val o1 S2 rfl) fun v H3 w3 e => ?_
    rw [e]
    exact k q ds H3 (kend (k2.trans (w3.mono fun _ z => z.elim))) hq (w3.lst (fun z => z.elim) hq2)
end
end SR

namespace SR
open PySem PySem.Spec PyProof.Rows L2
/-- the box at b, its numbers at a -/
def BoxAt (H : Hp) (b a : Addr) (zs : List Int) : Prop := ∃ n : Nat, H b = some (.lst [.ref a, .int n]) ∧ H a = some (.lst (zs.map V.int))
theorem BoxAt.ne {H : Hp} {b a : Addr} {zs : List Int} (h : BoxAt H b a zs) : a ≠ b := fun e => by
  obtain ⟨n, h1, h2⟩ := h
  rw [e, h1] at h2
  have := HO.lst.inj (Option.some.inj h2)
  cases zs with
  | nil => cases this
  | cons z zs => cases this
theorem BoxAt.keep {H H' : Hp} {b a : Addr} {zs : List Int} {M : Addr → Prop} (k : Kp M H H') (h : BoxAt H b a zs) (hb : ¬ M b) (ha : ¬ M a) : BoxAt H' b a zs := by
  obtain ⟨n, h1, h2⟩ := h
  exact ⟨n, k.lst hb h1, k.lst ha h2⟩
theorem BoxAt.new {H : Hp} {b a p : Addr} {zs : List Int} {u : HO} (h : BoxAt H b a zs) (hp : H p = none) : BoxAt (upd H p u) b a zs := h.keep (M := No) (Kp.new hp) (fun z => z.elim) (fun z => z.elim)
/-- the world in which the box is drawn from -/
abbrev Wb (K : PySem.W.Frag) (L : Addr → Prop) (b a : Addr) (zs : List Int) : Wd := ⟨K, L, fun H H' => Kp (· = b) H H' ∧ (BoxAt H b a zs → BoxAt H' b a zs)⟩
theorem wb (K : PySem.W.Frag) {L : Addr → Prop} {b a : Addr} {zs : List Int} (hb : L b) : (Wb K L b a zs).Ok :=
  ⟨fun H => ⟨Kp.refl _ H, id⟩, fun x y => ⟨x.1.trans y.1, fun h => y.2 (x.2 h)⟩, fun x => x.1.mono fun c e => e ▸ hb, fun k => ⟨k.mono fun _ z => z.elim, fun h => h.keep k (fun z => z.elim) (fun z => z.elim)⟩⟩
/-- states from world to world -/
theorem Sl.cast {C C' : Wd} {H : Hp} {σ : L2.St} {ρ : List Ds} (S : Sl C H σ ρ) (hK : C.K = C'.K) (hL : C.L = C'.L) : Sl C' H σ ρ := S.to fun v d h => by
  unfold Dw at *
  rw [← hK, ← hL]
  exact h
section
variable {P : Program} {w : World} {K : PySem.W.Frag} {mg : Str → Option Value} {base : Heap}
abbrev N__law_draw : List Str := ["_law_box", "_law_many", "_law_at"]
abbrev s__law_draw : Stmt := top 51
theorem sc__law_draw : FnScope ["_law_box", "_law_many", "_law_at"] ["_law_box", "_law_many"] (defScope s__law_draw) := ⟨rfl, rfl, rfl, by decide +kernel, rfl, by decide +kernel, by decide +kernel⟩
def spDraw (K : PySem.W.Frag) : Sp := fun vs H Q _ => ∃ (b a : Addr) (zs : List Int) (m : Int), vs = [.ref b, .int m] ∧ 0 < m ∧ BoxAt H b a zs ∧ ∀ (d : Int) (H' : Hp), 0 ≤ d → d < m → Kp (· = b) H H' → BoxAt H' b a zs → Q (.int d) H'
theorem ok__law_draw (F : DefA K mg "_law_draw" s__law_draw) (B : Blt mg) : C8.Cal P w K mg base 1 "_law_draw" (spDraw K) [] := by
  refine cal_by F sc__law_draw rfl rfl rfl (fun _ _ _ _ _ _ us hl => match us, hl with | [_, _], _ => rfl) (fun vs H Q E ⟨_, _, _, _, e, _⟩ => by rw [e]; rfl) fun f cdv A outer s H vs Q E hr h => ?_
  obtain ⟨b, a, zs, m, rfl, hm, hbx, k⟩ := h
  have hab := hbx.ne
  obtain ⟨n, hb, ha⟩ := hbx
  have o := w0 K (· = b)
  refine ⟨_, (pss_c (ps_set (i := 2) sc__law_draw.nd rfl (Or.inl rfl) (pe_ix ix_seq (pv 0) pe_int (fun _ _ => rfl)))
  (pss_c (ps_asg (pe_op op_add (pv 2) pe_int) (pg_sub (pv 0) pe_int set_list))
  (pss_c (ps_if (pt_cmpR op_lt (pv 2) (pe_callB call_len (by rfl) B.len PySem.boot_len (pa_cons (pe_ix ix_seq (pv 0) pe_int (fun _ _ => rfl)) pa_nil)) (nomark _)) (pss_one (ps_ret (pe_op op_mod (pe_callTy call_int1 (by rfl) B.int (by decide +kernel) (pa_cons (pe_ix ix_seq (pe_ix ix_seq (pv 0) pe_int (fun _ _ => rfl)) (pv 2) (fun _ _ => rfl)) pa_nil)) (pv 1)))) pss_nil)
  (pss_one (ps_ret (pe_op op_mod (pe_callTy call_int1 (by rfl) B.int (by decide +kernel) (pa_cons (pe_op op_add (pe_op op_mul (pv 2) pe_int) pe_int) pa_nil)) (pv 1))))))), ?_⟩
  have S : Sl (W0 K (· = b)) H (start N__law_draw [.ref b, .int m]) [.va (.ref b), .da (.int m), .un] := .cons (s := .va _) rfl (.cons ⟨_, rfl, .int _⟩ (Sl.ofD (vs := []) (ds := []) 1 .nil))
  refine s_set o (e_ixQ o (i := 1) (xs := [.ref a, .int n]) (v := .int n) (e_val o S rfl) (e_int o) (fun H' w' => SqL.of (w'.lst (fun z => z.elim) hb)) rfl) fun v1 H1 w1 e => ?_
  subst e
  have S1 := (S.mono o w1).putD (i := 2) (.int (n : Int))
  have hb1 : H1 b = some (.lst [.ref a, .int n]) := w1.lst (fun z => z.elim) hb
  have ha1 : H1 a = some (.lst (zs.map V.int)) := w1.lst (fun z => z.elim) ha
  refine s_asg o (e_add o (i := n) (j := 1) (e_var o S1 rfl) (e_int o)) fun v2 H2 w2 r2 => ?_
  have S2 := S1.mono o w2
  refine g_setL (K := K) (L := (· = b)) (j := 1) (p := b) (xs := [.ref a, .int n]) (v := v2) (e_val o S2 rfl) (fun H' w' => e_int o) (fun H' w' => w'.lst (fun z => z.elim) (w2.lst (fun z => z.elim) hb1)) (by show 1 < 2; decide) fun H3 w3 hb3 => ?_
  rw [r2.intI]
  have k3 : Kp (· = b) H3 (upd H3 b (.lst [.ref a, .int (n + 1)])) := (Kp.refl _ _).app hb3
  have k03 : Kp (· = b) H (upd H3 b (.lst [.ref a, .int (n + 1)])) := (((w1.trans w2).trans w3).mono fun _ z => z.elim).trans k3
  have S3 : Sl (W0 K (· = b)) (upd H3 b (.lst [.ref a, .int (n + 1)])) _ _ := (S2.mono o w3).step (fun a e => e) k3
  have ha3 : upd H3 b (.lst [.ref a, .int (n + 1)]) a = some (.lst (zs.map V.int)) := by
    rw [upd_ne hab]
    exact (w2.trans w3).lst (fun z => z.elim) ha1
  have hb4 : upd H3 b (.lst [.ref a, .int (n + 1)]) b = some (.lst [.ref a, .int (n + 1)]) := upd_same
  have dn : [V.ref a, V.int n].set 1 (.int (n + 1)) = [V.ref a, V.int (n + 1)] := rfl
  rw [dn]
  generalize upd H3 b (.lst [.ref a, .int (n + 1)]) = H4 at k03 S3 ha3 hb4 ⊢
  have fin : ∀ {d : Int} {H' : Hp}, Kp No H4 H' → Q (.int (d % m)) H' := fun {d H'} w' => k _ _ (Int.emod_nonneg _ (by omega)) (Int.emod_lt_of_pos _ hm) (k03.trans (w'.mono fun _ z => z.elim)) ⟨n + 1, by rw [show ((n + 1 : Nat) : Int) = (n : Int) + 1 by omega]; exact w'.lst (fun z => z.elim) hb4, w'.lst (fun z => z.elim) ha3⟩
  have e0 : ∀ {H'}, Kp No H4 H' → Ee (W0 K (· = b)) (tOp (rIx K) (tVar 0) (tC (.int 0))) (((L2.start N__law_draw [.ref b, .int m]).set 2 (some (.int n)))) H' (.ref a) := fun {H'} w' => e_ixQ o (i := 0) (xs := [.ref a, .int (n + 1)]) (v := .ref a) (e_val o (S3.mono o w') rfl) (e_int o) (fun H'' w'' => SqL.of ((Kp.trans w' w'').lst (fun z => z.elim) hb4)) rfl
  refine s_if o (t_test o (e_cmp o (i := n) (e_var o S3 rfl) (e_lenQ o (xs := zs.map V.int) (e0 (Kp.refl _ _)) fun H' w' => SqL.of (w'.lst (fun z => z.elim) ha3)))) (fun c H5 w5 => ?_) (fun c H5 w5 => ?_)
  · have hlt : n < zs.length := by have := of_decide_eq_true c; rw [List.length_map] at this; omega
    have S5 := S3.mono o w5
    refine s_ret o (e_mod o (i := zs[n]) (j := m) (e_intI o (e_of o (v := .int zs[n]) (e_ixQ o (i := n) (xs := zs.map V.int) (v := .int zs[n]) (e0 w5) (e_var o S5 rfl) (fun H' w' => SqL.of ((Kp.trans w5 w').lst (fun z => z.elim) ha3)) (by rw [List.getElem?_map, List.getElem?_eq_getElem hlt]; rfl)) (.int _))) (e_var o S5 rfl) hm) fun v H6 w6 r6 => ?_
    rw [r6.intI]
    exact fin (Kp.trans w5 w6)
  · have S5 := S3.mono o w5
    unfold tNext
    dsimp only
    refine s_ret o (e_mod o (j := m) (e_intI o (e_add o (i := (n : Int) * 7) (j := 3) (e_mul o (i := n) (j := 7) (e_var o S5 rfl) (e_int o) (.inr ⟨by decide, by decide⟩)) (e_int o))) (e_var o S5 rfl) hm) fun v H6 w6 r6 => ?_
    rw [r6.intI]
    exact fin (Kp.trans w5 w6)
/-- a number drawn -/
def dInt (m : Int) (v : V) : Prop := ∃ d : Int, v = .int d ∧ 0 ≤ d ∧ d < m
theorem e_draw {L : Addr → Prop} {b a : Addr} {zs : List Int} {H : Hp} {σ : L2.St} {ρ : List Ds} {i : Nat} {te : TE} {m : Int} (hb : L b) (bx : BoxAt H b a zs) (S : Sl (Wb K L b a zs) H σ ρ) (hi : ρ[i]? = some (.va (.ref b))) (h : Ed (Wb K L b a zs) te σ H (.int m)) (hm : 0 < m) :
    EvP (Wb K L b a zs) (tCall (spDraw K) [] E0 (tCons (tVar i) (tCons te tNil))) σ H fun v _ => dInt m v := fun H1 w1 Q q =>
  ⟨_, S.va hi, h H1 w1 _ fun v H2 w2 r => by
    rw [r.intI]
    exact ⟨b, a, zs, m, rfl, hm, w2.2 (w1.2 bx), fun d H' h0 h1 k' b' => q _ H' ⟨w2.1.trans k', fun _ => b'⟩ ⟨d, rfl, h0, h1⟩⟩⟩
end
end SR

/-! Wk: values of which only a predicate is known; comprehensions that draw. -/
namespace SR
open PySem PySem.Spec PyProof.Rows L2
/-- some described value of Z -/
abbrev EZ (C : Wd) (te : TE) (σ : L2.St) (H : Hp) (Z : PyData → Prop) : Prop := EvP C te σ H fun v H' => ∃ d, Z d ∧ Dw C H' v d
abbrev AZ (C : Wd) (ta : TA) (σ : L2.St) (H : Hp) (Z : List PyData → Prop) : Prop := EaP C ta σ H fun vs H' => ∃ ds, Z ds ∧ Dws C H' vs ds
abbrev TZ (C : Wd) (tt : TT) (σ : L2.St) (H : Hp) : Prop := EtP C tt σ H fun _ => True
/-- ints -/
def zI (P : Int → Prop) (d : PyData) : Prop := ∃ i, d = .int i ∧ P i
def zB (d : PyData) : Prop := ∃ b, d = .bool b
/-- texts of one length -/
def zS (P : Str → Prop) (d : PyData) : Prop := ∃ s, d = .str s ∧ P s
def zCons (Z : PyData → Prop) (Zs : List PyData → Prop) (ds : List PyData) : Prop := ∃ d r, ds = d :: r ∧ Z d ∧ Zs r
def zNil (ds : List PyData) : Prop := ds = []
section
variable {C : Wd} (o : C.Ok) {H : Hp} {σ : L2.St} {te ta tb : TE} {tx : TA} {tt : TT} {d : PyData} {Z Z' : PyData → Prop} {Zs : List PyData → Prop} {P P' R : Int → Prop}
include o
omit o in
theorem z_of (h : Ed C te σ H d) (z : Z d) : EZ C te σ H Z := fun H1 w Q q => h H1 w _ fun v H2 w2 r => q v H2 w2 ⟨d, z, r⟩
omit o in
theorem z_eq (h : Ed C te σ H d) : EZ C te σ H (fun e => e = d) := z_of h rfl
omit o in
theorem z_imp (h : EZ C te σ H Z) (i : ∀ d, Z d → Z' d) : EZ C te σ H Z' := fun H1 w Q q => h H1 w _ fun v H2 w2 ⟨d, z, r⟩ => q v H2 w2 ⟨d, i d z, r⟩
omit o in
theorem z_int {i : Int} (h : Ed C te σ H (.int i)) (p : P i) : EZ C te σ H (zI P) := z_of h ⟨i, rfl, p⟩
omit o in
theorem zI_v {v : V} {K : PySem.W.Frag} {L : Addr → Prop} (h : ∃ d, zI P d ∧ DT K L H v d) : ∃ i, v = .int i ∧ P i := by
  obtain ⟨d, ⟨i, rfl, p⟩, r⟩ := h
  exact ⟨i, r.intI, p⟩
theorem z_op0 {f : Int → Int → Int} (ha : EZ C ta σ H (zI P)) (hb : EZ C tb σ H (zI P')) (hq : ∀ i j, P i → P' j → R (f i j)) : EZ C (tOp (rI0 fun i j => .int (f i j)) ta tb) σ H (zI R) := fun H1 w Q q =>
  ha H1 w _ fun x H2 w2 hz => hb H2 (o.trans w w2) _ fun y H3 w3 hy => by
    obtain ⟨i, rfl, p⟩ := zI_v hz
    obtain ⟨j, rfl, p'⟩ := zI_v hy
    exact ⟨i, j, rfl, rfl, q _ H3 (o.trans w2 w3) ⟨_, ⟨_, rfl, hq i j p p'⟩, .int _⟩⟩
theorem z_opc {c : Int → Int → Prop} {f : Int → Int → Int} (ha : EZ C ta σ H (zI P)) (hb : EZ C tb σ H (zI P')) (hc : ∀ i j, P i → P' j → c i j) (hq : ∀ i j, P i → P' j → R (f i j)) : EZ C (tOp (rI c fun i j => .int (f i j)) ta tb) σ H (zI R) := fun H1 w Q q =>
  ha H1 w _ fun x H2 w2 hz => hb H2 (o.trans w w2) _ fun y H3 w3 hy => by
    obtain ⟨i, rfl, p⟩ := zI_v hz
    obtain ⟨j, rfl, p'⟩ := zI_v hy
    exact ⟨i, j, rfl, rfl, hc i j p p', q _ H3 (o.trans w2 w3) ⟨_, ⟨_, rfl, hq i j p p'⟩, .int _⟩⟩
theorem z_cmp {f : Int → Int → Bool} (ha : EZ C ta σ H (zI P)) (hb : EZ C tb σ H (zI P')) : EZ C (tOp (rI0 fun i j => .bl (f i j)) ta tb) σ H zB := fun H1 w Q q =>
  ha H1 w _ fun x H2 w2 hz => hb H2 (o.trans w w2) _ fun y H3 w3 hy => by
    obtain ⟨i, rfl, p⟩ := zI_v hz
    obtain ⟨j, rfl, p'⟩ := zI_v hy
    exact ⟨i, j, rfl, rfl, q _ H3 (o.trans w2 w3) ⟨_, ⟨_, rfl⟩, .bl _⟩⟩
theorem z_eqI (ha : EZ C ta σ H (zI P)) (hb : EZ C tb σ H (zI P')) : EZ C (tOp (rQ C.K) ta tb) σ H zB := fun H1 w Q q =>
  ha H1 w _ fun x H2 w2 hz => hb H2 (o.trans w w2) _ fun y H3 w3 hy => by
    obtain ⟨i, rfl, p⟩ := zI_v hz
    obtain ⟨j, rfl, p'⟩ := zI_v hy
    exact .inl ⟨rfl, q _ H3 (o.trans w2 w3) ⟨_, ⟨_, rfl⟩, .bl _⟩⟩
theorem z_intI (ha : EZ C ta σ H (zI P)) : EZ C (tCB rInt1 (tCons ta tNil)) σ H (zI P) := fun H1 w Q q =>
  ha H1 w _ fun x H2 w2 hz => by
    obtain ⟨d, ⟨i, rfl, p⟩, r⟩ := hz
    have := e_intI (C := C) (σ := σ) (H := H2) o (i := i) (ta := tC x) (fun H3 w3 Q q => q x H3 (o.refl _) (by rw [r.intI]; exact .int _)) H2 (o.refl _) Q fun v H3 w3 r3 => q v H3 (o.trans w2 w3) ⟨_, ⟨i, rfl, p⟩, r3⟩
    exact this
omit o in
theorem t_zB (h : EZ C te σ H zB) : TZ C (tTest te) σ H := fun H1 w Q q => h H1 w _ fun x H2 w2 ⟨d, ⟨b, e⟩, r⟩ => by
  subst e
  exact ⟨b, r.blI, q b H2 w2 trivial⟩
omit o in
theorem t_zB' (h : EZ C te σ H zB) : TZ C (tB te) σ H := fun H1 w Q q => h H1 w _ fun x H2 w2 ⟨d, ⟨b, e⟩, r⟩ => by
  subst e
  exact ⟨b, r.blI, q b H2 w2 trivial⟩
theorem t_zand {b : Bool} {tu : TT} (h1 : Et C tt σ H b) (h2 : b = true → TZ C tu σ H) : EtP C (tAnd tt tu) σ H (fun c => c = true → b = true) := fun H1 w Q q => h1 H1 w _ fun c H2 w2 e => by
  subst e
  cases c with
  | true => exact h2 rfl H2 (o.trans w w2) _ fun b H3 w3 _ => q b H3 (o.trans w2 w3) fun _ => rfl
  | false => exact q false H2 w2 fun z => z
/-- if, the test of any value -/
theorem s_ifZ {t1 t2 : TS} {D : Ends} {T : Bool → Prop} (h : EtP C tt σ H T) (q1 : T true → ∀ H', C.W H H' → t1 D σ H') (q2 : T false → ∀ H', C.W H H' → t2 D σ H') : tIfS tt t1 t2 D σ H := h H (o.refl _) _ fun c H' w e => by
  cases c with
  | true => exact q1 e H' w
  | false => exact q2 e H' w
theorem z_if {T : Bool → Prop} (h : EtP C tt σ H T) (h1 : T true → EZ C ta σ H Z) (h2 : T false → EZ C tb σ H Z) : EZ C (tIf tt ta tb) σ H Z := fun H1 w Q q => h H1 w _ fun c H2 w2 e => by
  cases c with
  | true =>
    rw [if_pos rfl]
    exact h1 e H2 (o.trans w w2) _ fun v H3 w3 r => q v H3 (o.trans w2 w3) r
  | false =>
    rw [if_neg Bool.false_ne_true]
    exact h2 e H2 (o.trans w w2) _ fun v H3 w3 r => q v H3 (o.trans w2 w3) r
theorem az_nil : AZ C tNil σ H zNil := fun H1 w Q q => q [] H1 (o.refl _) ⟨[], rfl, .nil⟩
theorem az_cons (h : EZ C te σ H Z) (r : AZ C tx σ H Zs) : AZ C (tCons te tx) σ H (zCons Z Zs) := fun H1 w Q q =>
  h H1 w _ fun v H2 w2 ⟨d, z, p⟩ => r H2 (o.trans w w2) _ fun vs H3 w3 ⟨ds, zs, ps⟩ => q _ H3 (o.trans w2 w3) ⟨_, ⟨d, ds, rfl, z, zs⟩, .cons (DT.mono o w3 p) ps⟩
omit o in
theorem az_of {ds : List PyData} (h : Ea C tx σ H ds) : AZ C tx σ H (fun es => es = ds) := fun H1 w Q q => h H1 w _ fun vs H2 w2 r => q vs H2 w2 ⟨ds, rfl, r⟩
theorem z_tup (h : AZ C tx σ H Zs) (hl : ∀ ds, Zs ds → ds.length ≤ 1000) : EZ C (tTup tx) σ H (fun d => ∃ ds, d = .tuple ds ∧ Zs ds) := fun H1 w Q q =>
  h H1 w _ fun vs H2 w2 ⟨ds, z, p⟩ => ⟨by rw [p.length]; exact Nat.le_trans (hl ds z) (by decide), fun a ha => q _ _ (o.trans w2 (o.new ha)) ⟨_, ⟨ds, rfl, z⟩, .tup upd_same (DTs.mono o (o.new ha) p)⟩⟩
/-- an item of a list, tuple or text, drawn -/
theorem z_ixL {ds : List PyData} (ha : Ed C ta σ H (.list ds)) (hb : EZ C tb σ H (zI fun i => 0 ≤ i ∧ i < ds.length)) (hz : ∀ d ∈ ds, Z d) : EZ C (tOp (rIx C.K) ta tb) σ H Z := fun H1 w Q q =>
  ha H1 w _ fun x H2 w2 r => hb H2 (o.trans w w2) _ fun y H3 w3 hy => by
    obtain ⟨i, rfl, h0, h1⟩ := zI_v hy
    obtain ⟨a, xs, rfl, n, e, rx⟩ := r.lstI
    have hlt : i.toNat < ds.length := by omega
    obtain ⟨v, hv, rv⟩ := rx.get (i := i.toNat) (d := ds[i.toNat]) (List.getElem?_eq_getElem hlt)
    exact .inl ⟨a, xs, i, v, rfl, rfl, SqL.of (o.lst w3 n e), by have := atI_nat hv; rwa [Int.toNat_of_nonneg h0] at this, q v H3 (o.trans w2 w3) ⟨_, hz _ (List.getElem_mem hlt), DT.mono o w3 rv⟩⟩
theorem z_ixT {ds : List PyData} (ha : Ed C ta σ H (.tuple ds)) (hb : EZ C tb σ H (zI fun i => 0 ≤ i ∧ i < ds.length)) (hz : ∀ d ∈ ds, Z d) : EZ C (tOp (rIx C.K) ta tb) σ H Z := fun H1 w Q q =>
  ha H1 w _ fun x H2 w2 r => hb H2 (o.trans w w2) _ fun y H3 w3 hy => by
    obtain ⟨i, rfl, h0, h1⟩ := zI_v hy
    obtain ⟨a, xs, rfl, e, rx⟩ := r.tupI
    have hlt : i.toNat < ds.length := by omega
    obtain ⟨v, hv, rv⟩ := rx.get (i := i.toNat) (d := ds[i.toNat]) (List.getElem?_eq_getElem hlt)
    exact .inr (.inl ⟨a, xs, i, v, rfl, rfl, o.sqT w3 e, by have := atI_nat hv; rwa [Int.toNat_of_nonneg h0] at this, q v H3 (o.trans w2 w3) ⟨_, hz _ (List.getElem_mem hlt), DT.mono o w3 rv⟩⟩)
theorem z_ixS {z : Str} (ha : Ed C ta σ H (.str z)) (hb : EZ C tb σ H (zI fun i => 0 ≤ i ∧ i < z.length)) (hz : z.length ≤ 1000) : EZ C (tOp (rIx C.K) ta tb) σ H (zS fun s => s.length = 1) := fun H1 w Q q =>
  ha H1 w _ fun x H2 w2 r => hb H2 (o.trans w w2) _ fun y H3 w3 hy => by
    obtain ⟨i, rfl, h0, h1⟩ := zI_v hy
    rw [r.strI]
    have hlt : i.toNat < z.cps.toList.length := by
      rw [Array.length_toList]
      show i.toNat < z.length
      omega
    have := atI_nat (List.getElem?_eq_getElem hlt)
    rw [Int.toNat_of_nonneg h0] at this
    exact .inr (.inr ⟨z, i, _, rfl, rfl, Nat.le_trans hz (by decide), this, q _ H3 (o.trans w2 w3) ⟨_, ⟨_, rfl, rfl⟩, .str _⟩⟩)
/-- a plain def called with arguments of a predicate -/
theorem z_call {R : List PyData → PyData → Prop} (hL : ∀ a, C.L a → H a ≠ none) (h : AZ C tx σ H Zs) (r : ∀ ds, Zs ds → ∃ d, R ds d ∧ Z d) : EZ C (tCall (spD C.K R) [] E0 tx) σ H Z := fun H1 w Q q =>
  h H1 w _ fun vs H2 w2 ⟨ds, z, p⟩ => by
    obtain ⟨d, rd, zd⟩ := r ds z
    refine ⟨C.L, ds, d, o.un (o.trans w w2) hL, by rw [List.append_nil]; exact p, rd, fun v H' k p' => q v H' (o.trans w2 (o.of0 k)) ⟨d, zd, p'⟩⟩
end
/-! ### texts joined -/
theorem glued_len : ∀ (ys : List Str) (acc : Array Nat), (ys.foldl (fun acc p => acc ++ (Str.empty).cps ++ p.cps) acc).size = acc.size + (ys.map (·.length)).sum
  | [], acc => rfl
  | y :: ys, acc => by
    rw [List.foldl_cons, glued_len ys, List.map_cons, List.sum_cons, Array.size_append, Array.size_append]
    show acc.size + 0 + y.length + _ = _
    omega
theorem join_len (sep : Str) (hs : sep = Str.empty) (ys : List Str) : (Txt.join sep ys).length = (ys.map (·.length)).sum := by
  subst hs
  cases ys with
  | nil => rfl
  | cons y ys =>
    show (ys.foldl (fun acc p => acc ++ (Str.empty).cps ++ p.cps) y.cps).size = _
    rw [glued_len, List.map_cons, List.sum_cons]
    rfl
abbrev rJn (K : PySem.W.Frag) : V → List V → Hp → VK → Prop := fun x xs H Q => ∃ a p, ∃ ys : List Str, x = .str a ∧ xs = [.ref p] ∧ (SqL K H p (ys.map V.str) ∨ SqT K H p (ys.map V.str)) ∧ (ys.map (·.length)).sum + ys.length * a.length ≤ 16777216 ∧ Q (.str (Txt.join a ys)) H
def zL (n : Nat) (Z : PyData → Prop) (d : PyData) : Prop := ∃ ds, d = .list ds ∧ ds.length = n ∧ ∀ e ∈ ds, Z e
theorem strs_of {K : PySem.W.Frag} {L : Addr → Prop} {H : Hp} : ∀ {ds : List PyData} {vs : List V}, DTs K L H vs ds → (∀ e ∈ ds, zS (fun s => s.length = 1) e) → ∃ ys : List Str, vs = ys.map V.str ∧ (ys.map (·.length)).sum = ds.length ∧ ys.length = ds.length
  | [], _, h, _ => by cases h; exact ⟨[], rfl, rfl, rfl⟩
  | d :: ds, _, h, hz => by
    cases h with
    | cons a b =>
      obtain ⟨s, rfl, hs⟩ := hz d List.mem_cons_self
      obtain ⟨ys, e1, e2, e3⟩ := strs_of b fun e he => hz e (List.mem_cons_of_mem _ he)
      exact ⟨s :: ys, by rw [e1, a.strI]; rfl, by rw [List.map_cons, List.sum_cons, e2, hs, List.length_cons]; omega, by rw [List.length_cons, List.length_cons, e3]⟩
theorem z_join {C : Wd} (o : C.Ok) {H : Hp} {σ : L2.St} {te : TE} {n : Nat} (h : EZ C te σ H (zL n (zS fun s => s.length = 1))) (hn : n ≤ 1000000) : EZ C (tM1 (rJn C.K) (tC (.str "")) te) σ H (zS fun s => s.length = n) := fun H1 w Q q =>
  ⟨⟨_, rfl⟩, h H1 w _ fun v H2 w2 ⟨d, ⟨ds, e, hl, hz⟩, r⟩ => by
    subst e
    obtain ⟨a, xs, rfl, _, e, rx⟩ := r.lstI
    obtain ⟨ys, rfl, h1, h2⟩ := strs_of rx hz
    refine ⟨"", a, ys, rfl, rfl, .inl (SqL.of e), ?_, q _ H2 w2 ⟨_, ⟨_, rfl, ?_⟩, .str _⟩⟩
    · rw [h1, show (Str.ofString "").length = 0 from rfl]
      omega
    · show (Txt.join (Str.ofString "") ys).length = n
      rw [join_len (Str.ofString "") rfl, h1, hl]⟩
/-! ### comprehensions that draw -/
section
variable {K : PySem.W.Frag} {L : Addr → Prop} {b a : Addr} {zs : List Int} {H : Hp} {σ : L2.St} {tu : TE} {tx : TA} {j : Nat} {vs : List Nat} {Z : PyData → Prop}
theorem z_lcR {n : Int} (hb : L b) (hL : ∀ a, L a → H a ≠ none) (bx : BoxAt H b a zs) (h : AZ (Wb K L b a zs) tx σ H (zCons (fun d => d = .int n) zNil)) (hn : n ≤ 1000000) (h0 : -1000000 ≤ n) (hw : ∀ v : V, wipe ((wipe σ vs).set j (some v)) vs = wipe σ vs)
    (hs : ∀ (D : Addr) (H' : Hp), (∀ c, Lp L D c → H' c ≠ none) → BoxAt H' b a zs → (∀ ρ, Sl (Wb K L b a zs) H σ ρ → Sl (Wb K (Lp L D) b a zs) H' (wipe σ vs) (wipeD ρ vs)) → ∀ i : Nat, i < n.toNat → EZ (Wb K (Lp L D) b a zs) tu ((wipe σ vs).set j (some (.int i))) H' Z) :
    EZ (Wb K L b a zs) (tLc (iRng1 tx) (gName j) tYes tu vs) σ H (zL n.toNat Z) := fun H0 w0' Q q =>
  h H0 w0' _ fun v H1 w1 ⟨ds, ⟨d, r0, e0, e1, e2⟩, rd⟩ => by
    have o := wb K (a := a) (zs := zs) hb
    subst e0 e1 e2
    obtain ⟨v0, rfl, rv⟩ := rd.one
    rw [rv.intI]
    refine ⟨n, rfl, by omega, by omega, fun D hD => ?_⟩
    have k1 := o.trans w0' w1
    have bx1 : BoxAt H1 b a zs := k1.2 bx
    have hM : ∀ c, c = D → Lp L D c := fun c e => .inr e
    have hDL : ¬ L D := fun l => hL D l (k1.1.free hD)
    have hDb : D ≠ b := fun e => by obtain ⟨_, z, _⟩ := bx1; rw [e, z] at hD; cases hD
    have hDa : D ≠ a := fun e => by obtain ⟨_, _, z⟩ := bx1; rw [e, z] at hD; cases hD
    have oD : (Wb K (Lp L D) b a zs).Ok := wb K (.inl hb)
    -- D and the box are written
    refine ⟨fun i m H' => m = n.toNat - i ∧ i ≤ n.toNat ∧ Kp (fun c => c = D ∨ c = b) (upd H1 D (.lst [])) H' ∧ BoxAt H' b a zs ∧ ∃ acc ds, H' D = some (.lst acc) ∧ DTs K (Lp L D) H' acc ds ∧ ds.length = i ∧ ∀ e ∈ ds, Z e, ⟨_, rfl, Nat.zero_le _, Kp.refl _ _, bx1.new hD, [], [], upd_same, .nil, rfl, fun e he => by cases he⟩, ?_⟩
    rintro i m H2 ⟨rfl, hi, k2, bx2, acc, ds, hx, ra, hl, hz⟩
    have k12 : Kp (· = b) H1 H2 := (Kp.new (L := (· = b)) (o := .lst []) hD).hide k2 fun c e => e.elim (fun e => .inl (e ▸ hD)) .inr
    by_cases hlt : i < n.toNat
    · refine .inr ⟨hlt, fun H' => Kp (fun c => c = D ∨ c = b) (upd H1 D (.lst [])) H' ∧ BoxAt H' b a zs ∧ ∃ acc ds, H' D = some (.lst acc) ∧ DTs K (Lp L D) H' acc ds ∧ ds.length = i + 1 ∧ ∀ e ∈ ds, Z e, fun H' ⟨a1, a2⟩ => ⟨n.toNat - (i + 1), by omega, rfl, hlt, a1, a2⟩, fun x H' hy => ?_⟩
      obtain ⟨rfl, rfl⟩ := hy
      have un2 : ∀ c, Lp L D c → H' c ≠ none := k2.un (own_un (k1.1.un hL) _)
      have hM2 : ∀ c, (c = D ∨ c = b) → Lp L D c := fun c e => e.elim .inr fun e => .inl (e ▸ hb)
      have kS : ∀ ρ, Sl (Wb K L b a zs) H σ ρ → Sl (Wb K (Lp L D) b a zs) H' (wipe σ vs) (wipeD ρ vs) := fun ρ S =>
        ((((((S.mono o k1).cast (C' := W0 K L) rfl rfl).own hD (.lst [])).step hM2 k2).wipe vs).cast rfl rfl)
      rw [Int.zero_add]
      refine ⟨hw _, ?_⟩
      dsimp only [tYes]
      rw [if_pos rfl]
      refine hs D H' un2 bx2 kS i hlt H' (oD.refl _) _ fun y H4 w4 ⟨d, zd, ry⟩ => ?_
      have hx4 : H4 D = some (.lst acc) := w4.1.lst hDb hx
      have k5 : Kp (fun c => c = D ∨ c = b) H4 (upd H4 D (.lst (acc ++ [y]))) := (Kp.refl _ _).put (.inr (.inl rfl)) (by rw [hx4]; trivial)
      have hlen := ra.length
      obtain ⟨nn, g1, g2⟩ := w4.2 bx2
      refine ⟨acc, hx4, lt_size (by omega), (k2.trans (w4.1.mono fun _ z => .inr z)).trans k5, ⟨nn, by rw [upd_ne hDb.symm]; exact g1, by rw [upd_ne hDa.symm]; exact g2⟩, _, ds ++ [d], upd_same, ?_, by rw [List.length_append]; simp; omega, fun e he => ?_⟩
      · exact DTs.step hM2 k5 ((DTs.mono oD w4 ra).snoc ry)
      · rcases List.mem_append.mp he with h | h
        · exact hz e h
        · rw [List.mem_singleton.mp h]; exact zd
    · have hi' : i = n.toNat := by omega
      subst hi'
      exact .inl ⟨Nat.le_refl _, q _ H2 (o.trans w1 ⟨k12, fun _ => bx2⟩) ⟨_, ⟨ds, rfl, hl, hz⟩, .lst hDL hx (DTs.less (fun c z => .inl z) ra)⟩⟩
end
end SR

namespace SR
open PySem PySem.Spec PyProof.Rows L2
/-- a def whose first argument is the box -/
def spB (K : PySem.W.Frag) (R : List PyData → (PyData → Prop) → Prop) : Sp := fun vs H Q _ => ∃ (L : Addr → Prop) (b a : Addr) (zs : List Int) (vs' : List V) (ds : List PyData) (Z : PyData → Prop), vs = .ref b :: vs' ∧ (∀ c, L c → H c ≠ none) ∧ L b ∧ BoxAt H b a zs ∧ DTs K L H vs' ds ∧ R ds Z ∧
  ∀ v H' d, Z d → Kp (· = b) H H' → BoxAt H' b a zs → DT K L H' v d → Q v H'
theorem spB_len {K : PySem.W.Frag} {R : List PyData → (PyData → Prop) → Prop} {n : Nat} (h : ∀ ds Z, R ds Z → ds.length = n) (vs : List V) (H : Hp) (Q : VK) (E : XK) (q : spB K R vs H Q E) : vs.length = n + 1 := by
  obtain ⟨L, b, a, zs, vs', ds, Z, rfl, _, _, _, hd, r, _⟩ := q
  rw [List.length_cons, hd.length, h ds Z r]
theorem Sl.startB {C : Wd} {H : Hp} {N : List Str} {b : Addr} {vs : List V} {ds : List PyData} (h : Dws C H vs ds) : Sl C H (L2.start N (.ref b :: vs)) (.va (.ref b) :: (ds.map Ds.da ++ List.replicate (N.length - (ds.length + 1)) Ds.un)) := by
  unfold L2.start
  rw [List.length_cons, h.length]
  exact .cons (s := .va _) rfl (Sl.ofD _ h)
section
variable {K : PySem.W.Frag} {L : Addr → Prop} {b a : Addr} {zs : List Int} {H : Hp} {σ : L2.St} {ρ : List Ds} {te : TE} {tx : TA} {i : Nat} {Z : PyData → Prop} {Zs : List PyData → Prop}
theorem z_callB {R : List PyData → (PyData → Prop) → Prop} (hb : L b) (hL : ∀ c, L c → H c ≠ none) (bx : BoxAt H b a zs) (S : Sl (Wb K L b a zs) H σ ρ) (hi : ρ[i]? = some (.va (.ref b))) (h : AZ (Wb K L b a zs) tx σ H Zs) (r : ∀ ds, Zs ds → R ds Z) :
    EZ (Wb K L b a zs) (tCall (spB K R) [] E0 (tCons (tVar i) tx)) σ H Z := fun H1 w1 Q q =>
  ⟨_, S.va hi, h H1 w1 _ fun vs H2 w2 ⟨ds, z, p⟩ => by
    have o := wb K (a := a) (zs := zs) hb
    have w12 := o.trans w1 w2
    exact ⟨L, b, a, zs, vs, ds, Z, by rw [List.append_nil], o.un w12 hL, hb, w12.2 bx, p, r ds z, fun v H' d zd k' b' r' => q v H' ⟨w2.1.trans k', fun _ => b'⟩ ⟨d, zd, r'⟩⟩⟩
theorem z_draw {m : Int} (hb : L b) (bx : BoxAt H b a zs) (S : Sl (Wb K L b a zs) H σ ρ) (hi : ρ[i]? = some (.va (.ref b))) (h : EZ (Wb K L b a zs) te σ H (zI fun j => j = m)) (hm : 0 < m) :
    EZ (Wb K L b a zs) (tCall (spDraw K) [] E0 (tCons (tVar i) (tCons te tNil))) σ H (zI fun d => 0 ≤ d ∧ d < m) := fun H1 w1 Q q =>
  ⟨_, S.va hi, h H1 w1 _ fun v H2 w2 hz => by
    obtain ⟨j, rfl, rfl⟩ := zI_v hz
    exact ⟨b, a, zs, j, rfl, hm, w2.2 (w1.2 bx), fun d H' h0 h1 k' b' => q _ H' ⟨w2.1.trans k', fun _ => b'⟩ ⟨_, ⟨d, rfl, h0, h1⟩, .int _⟩⟩⟩
theorem z_drawI {m : Int} (hb : L b) (bx : BoxAt H b a zs) (S : Sl (Wb K L b a zs) H σ ρ) (hi : ρ[i]? = some (.va (.ref b))) (hm : 0 < m) :
    EZ (Wb K L b a zs) (tCall (spDraw K) [] E0 (tCons (tVar i) (tCons (tC (.int m)) tNil))) σ H (zI fun d => 0 ≤ d ∧ d < m) := z_draw hb bx S hi (z_int (e_int (wb K hb)) rfl) hm
/-- xs.append(e), one's own xs beside the box -/
theorem s_appB {nx bk ct : L2.St → Hp → Prop} {rt : VK} {P : V → Hp → Prop} {p : Addr} {xs : List V} (S : Sl (Wb K L b a zs) H σ ρ) (hi : ρ[i]? = some (.va (.ref p))) (hp : H p = some (.lst xs)) (hpb : p ≠ b) (hz : xs.length < sizeLine) (he : EvP (Wb K L b a zs) te σ H P)
    (q : ∀ v H', (Wb K L b a zs).W H H' → P v H' → H' p = some (.lst xs) → nx σ (upd H' p (.lst (xs ++ [v])))) : tDrop (tBM K "list" rAppend (tVar i) (tCons te tNil)) ⟨nx, rt, bk, ct⟩ σ H := by
  refine ⟨_, S.va hi, .inl ⟨rfl, _, SqL.of hp⟩, he H ⟨Kp.refl _ _, id⟩ _ fun v H' k r => ?_⟩
  have hp' : H' p = some (.lst xs) := k.1.lst hpb hp
  exact ⟨p, xs, v, rfl, rfl, hp', hz, q v H' k r hp'⟩
end
/-- range(n), n known by a predicate -/
abbrev tCa (vs : List V) : TA := fun _ H Q => Q vs H
theorem a_ca {C : Wd} (o : C.Ok) {H : Hp} {σ : L2.St} {vs : List V} {ds : List PyData} (h : Dws C H vs ds) : Ea C (tCa vs) σ H ds := fun H1 w Q q => q vs H1 (o.refl _) (DTs.mono o w h)
theorem s_for1Z {C : Wd} (o : C.Ok) {H : Hp} {σ : L2.St} {tx : TA} {g : TG} {tb : TS} {D : Ends} {Zs : List PyData → Prop} (h : AZ C tx σ H Zs) (q : ∀ vs ds H1, C.W H H1 → Zs ds → Dws C H1 vs ds → tFor (iRng1 (tCa vs)) g tb D σ H1) : tFor (iRng1 tx) g tb D σ H :=
  h H (o.refl _) _ fun vs H1 w ⟨ds, z, r⟩ => q vs ds H1 w z r
/-- tuple(xs) of a list tracked -/
theorem e_tupO {C : Wd} (o : C.Ok) {H : Hp} {σ : L2.St} {ta : TE} {p : Addr} {xs : List V} {ds : List PyData} (ha : Ee C ta σ H (.ref p)) (hx : ∀ H', C.W H H' → H' p = some (.lst xs)) (r : Dws C H xs ds) : Ed C (tCB (fun xs H Q => ∃ p ys, xs = [.ref p] ∧ ((SqL C.K H p ys ∧ ∀ l, H l = none → Q (.ref l) (upd H l (.tup ys))) ∨ (SqT C.K H p ys ∧ Q (.ref p) H))) (tCons ta tNil)) σ H (.tuple ds) := fun H1 w Q q =>
  ha H1 w _ fun x H2 w2 e => by
    subst e
    refine ⟨p, xs, rfl, .inl ⟨SqL.of (hx H2 (o.trans w w2)), fun l hl => q _ _ (o.trans w2 (o.new hl)) (.tup upd_same (DTs.mono o (o.trans (o.trans w w2) (o.new hl)) r))⟩⟩
theorem DTs.strs {K : PySem.W.Frag} {L : Addr → Prop} {H : Hp} : ∀ {ys : List Str}, DTs K L H (ys.map V.str) (ys.map PyData.str)
  | [] => .nil
  | _ :: _ => .cons (.str _) DTs.strs
/-- a shape as the law makes them -/
def LeafOk (p : Pt) : Prop := Leaf p ∧ 0 ≤ p.cost ∧ p.cost ≤ 3 ∧ (p.isPlain = false → 1 ≤ wide p.rows ∧ wide p.rows ≤ 3 ∧ p.rows.length ≤ 3)
section
variable {P : Program} {w : World} {K : PySem.W.Frag} {mg : Str → Option Value} {base : Heap}
abbrev rStrAdd : R2 := fun x y H Q => ∃ i j, x = .str i ∧ y = .str j ∧ i.length + j.length ≤ sizeLine ∧ Q (.str (i ++ j)) H
abbrev rStrI : List V → Hp → VK → Prop := fun xs H Q => ∃ i : Int, xs = [.int i] ∧ i.natAbs.log2 < 1920 ∧ Q (.str (toString i)) H
theorem log_ok : ∀ m : Nat, m ≤ 100 → (m : Int).natAbs.log2 < 1920 := by decide +kernel
theorem len_ok : ∀ m : Nat, m ≤ 100 → ((toString (m : Int) : Str)).length ≤ 10 := by decide +kernel
theorem e_nameI {C : Wd} (o : C.Ok) {H : Hp} {σ : L2.St} {te : TE} {x : Str} {n : Nat} (hx : x.length ≤ 10) (h : Ed C te σ H (.int n)) (hn : n ≤ 100) : Ed C (tOp rStrAdd (tC (.str x)) (tCB rStrI (tCons te tNil))) σ H (.str (x ++ (toString (n : Int) : Str))) :=
  have h2 : Ed C (tCB rStrI (tCons te tNil)) σ H (.str (toString (n : Int) : Str)) := e_cb o (a_cons o h (a_nil o)) fun vs H2 _ p Q q => by
    obtain ⟨v, rfl, p1⟩ := p.one
    exact ⟨n, by rw [p1.intI], log_ok n hn, q _ H2 (o.refl _) (.str _)⟩
  e_op o (e_str o) h2 fun x y H2 _ p p' Q q => ⟨_, _, p.strI, p'.strI, Nat.le_trans (Nat.add_le_add hx (len_ok n hn)) (by rw [sizeLine_eq]; decide), q _ H2 (o.refl _) (.str _)⟩
abbrev N__law_leaf : List Str := ["_law_box", "_law_k", "_law_wide", "_law_name", "_law_label", "_law_cost_here", "_law_width", "_law_rows", "_law_y", "_law_x"]
abbrev s__law_leaf : Stmt := top 53
theorem sc__law_leaf : FnScope ["_law_box", "_law_k", "_law_wide", "_law_name", "_law_label", "_law_cost_here", "_law_width", "_law_rows", "_law_y", "_law_x"] ["_law_box", "_law_k", "_law_wide"] (defScope s__law_leaf) := ⟨rfl, rfl, rfl, by decide +kernel, rfl, by decide +kernel, by decide +kernel⟩
def R_law_leaf (ds : List PyData) (Z : PyData → Prop) : Prop := ∃ k : Nat, k ≤ 100 ∧ ds = [.int k, .int 3] ∧ Z = fun d => ∃ p : Pt, LeafOk p ∧ d = p.d
theorem ok__law_leaf (F : DefA K mg "_law_leaf" s__law_leaf) (B : Blt mg) (c__law_draw : C8.Cal P w K mg base 1 "_law_draw" (spDraw K) []) : C8.Cal P w K mg base 2 "_law_leaf" (spB K R_law_leaf) [] := by
  refine cal_by F sc__law_leaf rfl rfl rfl (fun _ _ _ _ _ _ us hl => match us, hl with | [_, _, _], _ => rfl) (spB_len fun ds Z ⟨_, _, e, _⟩ => by rw [e]; rfl) fun f cdv A outer s H vs Q E hr h => ?_
  obtain ⟨L, b, a, zs, vs', ds, Z, rfl, hL, hb, bx, hd, ⟨n, hn, rfl, rfl⟩, k⟩ := h
  have o := wb K (a := a) (zs := zs) hb
  have hu4 : _ + 64 < cLine := hr.units
  have S := Sl.startB (C := Wb K L b a zs) (N := N__law_leaf) (b := b) hd
  refine ⟨_, (pss_c (ps_set (i := 3) sc__law_leaf.nd rfl (Or.inl rfl) (pe_op op_add_str pe_str (pe_callTy call_str_int (by rfl) B.str (by decide +kernel) (pa_cons (pv 1) pa_nil))))
  (pss_c (ps_set (i := 4) sc__law_leaf.nd rfl (Or.inl rfl) (pe_ix ix_seq (pe_lst (pa_cons pe_str (pa_cons pe_str (pa_cons pe_str pa_nil)))) (C8.pe_c c__law_draw hr (by omega) rfl (pa_cons (pv 0) (pa_cons pe_int pa_nil))) (fun _ _ => rfl)))
  (pss_c (ps_set (i := 5) sc__law_leaf.nd rfl (Or.inl rfl) (C8.pe_c c__law_draw hr (by omega) rfl (pa_cons (pv 0) (pa_cons pe_int pa_nil))))
  (pss_c (ps_if (pt_cmpR (op_Q hu4) (C8.pe_c c__law_draw hr (by omega) rfl (pa_cons (pv 0) (pa_cons pe_int pa_nil))) pe_int (nomark _)) (pss_one (ps_ret (pe_tup (pa_cons pe_str (pa_cons (pv 3) (pa_cons (pv 4) (pa_cons (pv 5) (pa_cons (pe_cmpR (op_Q hu4) (C8.pe_c c__law_draw hr (by omega) rfl (pa_cons (pv 0) (pa_cons pe_int pa_nil))) pe_int (nomark _)) pa_nil)))))))) pss_nil)
  (pss_c (ps_set (i := 6) sc__law_leaf.nd rfl (Or.inl rfl) (pe_op op_add pe_int (C8.pe_c c__law_draw hr (by omega) rfl (pa_cons (pv 0) (pa_cons (pv 2) pa_nil)))))
  (pss_c (ps_set (i := 7) sc__law_leaf.nd rfl (Or.inl rfl) (pe_lst pa_nil))
  (pss_c (ps_for PassesOwn.never rfl (pi_range1 (by rfl) B.range (pa_cons (pe_op op_add pe_int (C8.pe_c c__law_draw hr (by omega) rfl (pa_cons (pv 0) (pa_cons (pv 2) pa_nil)))) pa_nil)) (pg_name (i := 8) sc__law_leaf.nd rfl (Or.inl rfl)) (pss_one (ps_expr (pe_bm PySem.F.plainAttrs_list PySem.F.slot_list_append PySem.F.type_list_append mt_append (pv 7) (pa_cons (pe_join pe_str (pe_lc (own := [("_law_x", 9)]) rfl sc__law_leaf.nd (pi_range1 (by rfl) B.range (pa_cons (pv 6) pa_nil)) (blkOk_by (N := N__law_leaf) (sc := defScope s__law_leaf) (by decide +kernel)) (fun _ _ _ _ _ => (pg_name (i := 9) sc__law_leaf.nd rfl (Or.inl rfl))) (fun _ _ _ _ _ => pts_nil) (fun _ _ _ _ _ => (pe_ix (r := rIx K) ix_seq pe_str (C8.pe_c c__law_draw hr (by omega) rfl (pa_cons (pv 0) (pa_cons pe_int pa_nil))) (fun _ _ => rfl))))) pa_nil)))))
  (pss_one (ps_ret (pe_tup (pa_cons pe_str (pa_cons (pv 3) (pa_cons (pv 4) (pa_cons (pv 5) (pa_cons (pe_callTy call_tuple_of (by rfl) B.tuple (by decide +kernel) (pa_cons (pv 7) pa_nil)) pa_nil))))))))))))))), ?_⟩
  refine s_set o (e_nameI o (x := "p") (by decide) (e_var o S rfl) hn) fun v1 H1 w1 r1 => ?_
  have S1 := (S.mono o w1).putD (i := 3) r1
  have bx1 := w1.2 bx
  have un1 := o.un w1 hL
  refine s_set o (z_ixL o (Z := zS fun _ => True) (e_lst o un1 (a_cons o (e_str o) (a_cons o (e_str o) (a_cons o (e_str o) (a_nil o))))) (z_drawI hb bx1 S1 rfl (by decide)) (fun d hd => by
    simp only [List.mem_cons, List.not_mem_nil, or_false] at hd
    rcases hd with rfl | rfl | rfl <;> exact ⟨_, rfl, trivial⟩)) fun v2 H2 w2 hz => ?_
  obtain ⟨_, ⟨lb, rfl, _⟩, r2⟩ := hz
  have S2 := (S1.mono o w2).putD (i := 4) r2
  have bx2 := w2.2 bx1
  refine s_set o (z_drawI hb bx2 S2 rfl (by decide)) fun v3 H3 w3 hz => ?_
  obtain ⟨_, ⟨c, rfl, hc0, hc1⟩, r3⟩ := hz
  have S3 := (S2.mono o w3).putD (i := 5) r3
  have bx3 := w3.2 bx2
  have w03 := o.trans (o.trans w1 w2) w3
  refine s_ifZ o (t_zB (z_eqI o (z_drawI hb bx3 S3 rfl (by decide)) (z_int (P := fun _ => True) (e_int o) trivial))) (fun _ H4 w4 => ?_) (fun _ H4 w4 => ?_)
  · have S4 := S3.mono o w4
    have bx4 := w4.2 bx3
    refine s_ret o (z_tup o (az_cons o (z_eq (e_str o)) (az_cons o (z_eq (e_var o S4 rfl)) (az_cons o (z_eq (e_var o S4 rfl)) (az_cons o (z_eq (e_var o S4 rfl)) (az_cons o (z_eqI o (z_drawI hb bx4 S4 rfl (by decide)) (z_int (P := fun _ => True) (e_int o) trivial)) (az_nil o)))))) (fun ds hz => ?_)) fun v5 H5 w5 hz => ?_
    · obtain ⟨_, _, rfl, _, _, _, rfl, _, _, _, rfl, _, _, _, rfl, _, _, _, rfl, _, rfl⟩ := hz
      show 5 ≤ 1000
      decide
    · obtain ⟨_, ⟨_, rfl, _, _, rfl, rfl, _, _, rfl, rfl, _, _, rfl, rfl, _, _, rfl, rfl, _, _, rfl, ⟨bb, rfl⟩, rfl⟩, r5⟩ := hz
      have w05 := o.trans (o.trans w03 w4) w5
      exact k v5 H5 _ ⟨.plain _ lb c bb, ⟨⟨rfl, fun h => by cases h⟩, hc0, by show c ≤ 3; omega, fun h => by cases h⟩, rfl⟩ w05.1 (w05.2 bx) r5
  have S4 := S3.mono o w4
  have bx4 := w4.2 bx3
  unfold tNext
  dsimp only
  refine s_set o (z_op0 o (R := fun i => 1 ≤ i ∧ i ≤ 3) (z_int (P := fun i => i = 1) (e_int o) rfl) (z_draw hb bx4 S4 rfl (z_int (e_var o S4 rfl) rfl) (by decide)) (fun i j h1 h2 => by omega)) fun v5 H5 w5 hz => ?_
  obtain ⟨_, ⟨wd, rfl, hw0, hw1⟩, r5⟩ := hz
  have S5 := (S4.mono o w5).putD (i := 6) r5
  have w05 := o.trans (o.trans w03 w4) w5
  have bx5 := w05.2 bx
  refine s_new (L := L) (i := 7) (S5.cast (C' := W0 K L) rfl rfl) fun q hq S6 => ?_
  have hqb : q ≠ b := fun e => by obtain ⟨_, z, _⟩ := bx5; rw [e, z] at hq; cases hq
  have hqa : q ≠ a := fun e => by obtain ⟨_, _, z⟩ := bx5; rw [e, z] at hq; cases hq
  have oq : (Wb K (Lp L q) b a zs).Ok := wb K (.inl hb)
  have un6 : ∀ c, Lp L q c → upd H5 q (.lst []) c ≠ none := own_un (o.un w05 hL) _
  have hq6 : upd H5 q (.lst []) q = some (.lst []) := upd_same
  have bx6 := bx5.new hq (u := .lst [])
  have kend : ∀ {H'}, Kp (fun c => c = q ∨ c = b) (upd H5 q (.lst [])) H' → Kp (· = b) H H' := fun {H'} k' => w05.1.trans ((Kp.new (L := (· = b)) (o := .lst []) hq).hide k' fun c e => e.elim (fun e => .inl (e ▸ hq)) .inr)
  have hM2 : ∀ c, (c = q ∨ c = b) → Lp L q c := fun c e => e.elim .inr fun e => .inl (e ▸ hb)
  generalize upd H5 q (.lst []) = H6 at S6 un6 hq6 bx6 kend ⊢
  have S6 := S6.cast (C' := Wb K (Lp L q) b a zs) rfl rfl
  refine s_for1Z oq (az_cons oq (z_op0 oq (R := fun i => 1 ≤ i ∧ i ≤ 3) (z_int (P := fun i => i = 1) (e_int oq) rfl) (z_draw (.inl hb) bx6 S6 rfl (z_int (e_var oq S6 rfl) rfl) (by decide)) (fun i j h1 h2 => by omega)) (az_nil oq)) fun vs7 ds7 H7 w7 hz r7 => ?_
  obtain ⟨_, _, rfl, ⟨hh, rfl, hh0, hh1⟩, rfl⟩ := hz
  have S7 := S6.mono oq w7
  have bx7 := w7.2 bx6
  have hq7 : H7 q = some (.lst []) := w7.1.lst hqb hq6
  have k67 : Kp (fun c => c = q ∨ c = b) H6 H7 := w7.1.mono fun _ z => .inr z
  refine s_for1 oq (n := hh) (a_ca oq r7) (by omega) (by omega) (fun i σ' H' => Kp (fun c => c = q ∨ c = b) H6 H' ∧ BoxAt H' b a zs ∧ ∃ (b8 b9 : Ds) (rows : List Str), Sl (Wb K (Lp L q) b a zs) H' σ' [.va (.ref b), .da (.int n), .da (.int 3), .da (.str ("p" ++ (toString (n : Int) : Str))), .da (.str lb), .da (.int c), .da (.int wd), .va (.ref q), b8, b9] ∧ H' q = some (.lst (rows.map V.str)) ∧ rows.length = i ∧ ∀ r ∈ rows, r.length = wd.toNat)
    (fun H' w' => ⟨k67.trans (w'.1.mono fun _ z => .inr z), w'.2 bx7, .un, .un, [], S7.mono oq w', w'.1.lst hqb hq7, rfl, fun r h => by cases h⟩)
    (fun i σ8 H8 hi ⟨k8, bx8, b8, b9, rows, S8, hq8, hl8, hr8⟩ => ?_) (fun σ8 H8 ⟨k8, bx8, b8, b9, rows, S8, hq8, hl8, hr8⟩ => ?_)
  · have S9 := S8.putD (i := 8) (.int (i : Int))
    have un8 := k8.un un6
    refine s_appB (P := fun v H' => ∃ d, zS (fun s => s.length = wd.toNat) d ∧ Dw (Wb K (Lp L q) b a zs) H' v d) S9 rfl hq8 hqb (lt_size (by rw [List.length_map]; omega)) (z_join oq (z_lcR (n := wd) (.inl hb) un8 bx8 (az_cons oq (z_eq (e_var oq S9 rfl)) (az_nil oq)) (by omega) (by omega) (fun v => wipe_one _ _ _) fun D H' unD bxD kS j hj => ?_) (by omega)) fun v10 H10 w10 hz hq10 => ?_
    · have oD : (Wb K (Lp (Lp L q) D) b a zs).Ok := wb K (.inl (.inl hb))
      have SD := ((kS _ S9).putD (i := 9) (.int (j : Int)))
      exact z_ixS oD (e_str oD) (z_drawI (.inl (.inl hb)) bxD SD rfl (by decide)) (by decide)
    · obtain ⟨_, ⟨y, rfl, hy⟩, r10⟩ := hz
      obtain ⟨nn, g1, g2⟩ := w10.2 bx8
      have k11 : Kp (fun c => c = q ∨ c = b) H10 (upd H10 q (.lst (rows.map V.str ++ [v10]))) := (Kp.refl _ _).put (.inr (.inl rfl)) (by rw [hq10]; trivial)
      refine ⟨(k8.trans (w10.1.mono fun _ z => .inr z)).trans k11, ⟨nn, by rw [upd_ne hqb.symm]; exact g1, by rw [upd_ne hqa.symm]; exact g2⟩, _, _, rows ++ [y], (((S9.mono oq w10).cast (C' := W0 K (Lp L q)) rfl rfl).step hM2 k11).cast rfl rfl, ?_, by rw [List.length_append]; simp; omega, fun r hr => ?_⟩
      · rw [upd_same, r10.strI, List.map_append]
        rfl
      · rcases List.mem_append.mp hr with h | h
        · exact hr8 r h
        · rw [List.mem_singleton.mp h]; exact hy
  · have un8 := k8.un un6
    have im : Img rows := by
      cases rows with
      | nil => simp at hl8; omega
      | cons r0 rs =>
        have h0 := hr8 r0 List.mem_cons_self
        exact ⟨by simp, fun r hr => by rw [hr8 r hr]; exact h0.symm, by show r0.length ≤ 1000; omega, by omega⟩
    have hwd : wide rows = wd.toNat := by
      cases rows with
      | nil => simp at hl8; omega
      | cons r0 rs => exact hr8 r0 List.mem_cons_self
    have rows_d : DTs K (Lp L q) H8 (rows.map V.str) (rows.map .str) := DTs.strs
    refine s_ret oq (e_tup oq (a_cons oq (e_str oq) (a_cons oq (e_var oq S8 rfl) (a_cons oq (e_var oq S8 rfl) (a_cons oq (e_var oq S8 rfl) (a_cons oq (e_tupO oq (e_val oq S8 rfl) (fun H' w' => w'.1.lst hqb hq8) rows_d) (a_nil oq))))))) fun v9 H9 w9 r9 => ?_
    have k09 := kend (k8.trans (w9.1.mono fun _ z => .inr z))
    exact k v9 H9 _ ⟨.shape _ lb c rows, ⟨⟨rfl, fun _ => im⟩, hc0, by show c ≤ 3; omega, fun _ => by show 1 ≤ wide rows ∧ wide rows ≤ 3 ∧ rows.length ≤ 3; omega⟩, rfl⟩ k09 (w9.2 bx8) (DT.less (fun c z => .inl z) r9)
end
end SR

namespace SR
open PySem PySem.Spec PyProof.Rows L2
def PlcOk (n : Nat) (x : Plc) : Prop := 0 ≤ x.p ∧ x.p < (n : Int) ∧ 1 ≤ x.l ∧ x.l ≤ x.m ∧ x.m ≤ 4 ∧ 0 ≤ x.c ∧ x.c ≤ 2
mutual
def Ch.All (Q : Plc → Prop) : Ch → Prop
  | .place p l m c => Q ⟨p, l, m, c⟩
  | .seq cs => Ch.Alls Q cs
  | .alt cs => Ch.Alls Q cs
  | .any c => c.All Q
  | .some c => c.All Q
  | .maybe c => c.All Q
def Ch.Alls (Q : Plc → Prop) : List Ch → Prop
  | [] => True
  | c :: cs => c.All Q ∧ Ch.Alls Q cs
end
/-- a choice as the law makes them -/
structure ChOk (n dep cnt : Nat) (c : Ch) : Prop where
  all : c.All (PlcOk n)
  dep : c.dep ≤ dep
  cnt : c.cnt ≤ cnt
theorem ChOk.up {n dep cnt dep' cnt' : Nat} {c : Ch} (h : ChOk n dep cnt c) (h1 : dep ≤ dep') (h2 : cnt ≤ cnt') : ChOk n dep' cnt' c := ⟨h.all, Nat.le_trans h.dep h1, Nat.le_trans h.cnt h2⟩
def PsOk (ps : List Pt) : Prop := 1 ≤ ps.length ∧ ps.length ≤ 6 ∧ ∀ p ∈ ps, p.isStrip = true ∨ LeafOk p
def ptl (ps : List Pt) : PyData := .list (ps.map Pt.d)
def dirS (a : Bool) : Str := if a then "across" else "down"
section
variable {P : Program} {w : World} {K : PySem.W.Frag} {mg : Str → Option Value} {base : Heap}
theorem z_number {L : Addr → Prop} {b a : Addr} {zs : List Int} {H : Hp} {σ : L2.St} {ρ : List Ds} {i j : Nat} {m : Int} {ps : List Pt} (hb : L b) (bx : BoxAt H b a zs) (S : Sl (Wb K L b a zs) H σ ρ) (hi : ρ[i]? = some (.va (.ref b))) (hj : ρ[j]? = some (.da (ptl ps))) (h1 : 1 ≤ ps.length) (hm : 0 < m) :
    EZ (Wb K L b a zs) (tOp (rI (fun _ j => 0 < j) fun i j => .int (i % j)) (tCB rInt1 (tCons (tCall (spDraw K) [] E0 (tCons (tVar i) (tCons (tC (.int m)) tNil))) tNil)) (tCB (rLen K) (tCons (tVar j) tNil))) σ H (zI fun n => 0 ≤ n ∧ n < (ps.length : Int)) := by
  have o := wb K (a := a) (zs := zs) hb
  refine z_opc o (P' := fun j => j = (ps.length : Int)) (z_intI o (z_drawI hb bx S hi hm)) (z_int (e_lenL o (e_var o S hj)) (by rw [List.length_map])) (fun i j _ h => by omega) fun i j _ h => ?_
  subst h
  exact ⟨Int.emod_nonneg _ (by omega), Int.emod_lt_of_pos _ (by omega)⟩
abbrev N__law_place : List Str := ["_law_box", "_law_parts_here", "_law_direction", "_law_number", "_law_part", "_law_cost_here", "_law_size", "_law_least"]
abbrev s__law_place : Stmt := top 54
theorem sc__law_place : FnScope ["_law_box", "_law_parts_here", "_law_direction", "_law_number", "_law_part", "_law_cost_here", "_law_size", "_law_least"] ["_law_box", "_law_parts_here", "_law_direction"] (defScope s__law_place) := ⟨rfl, rfl, rfl, by decide +kernel, rfl, by decide +kernel, by decide +kernel⟩
def R_law_place (ds : List PyData) (Z : PyData → Prop) : Prop := ∃ (ps : List Pt) (ac : Bool), PsOk ps ∧ ds = [ptl ps, .str (dirS ac)] ∧ Z = fun d => ∃ c : Ch, ChOk ps.length 0 1 c ∧ d = c.d
theorem ok__law_place (F : DefA K mg "_law_place" s__law_place) (B : Blt mg) (c__law_draw : C8.Cal P w K mg base 1 "_law_draw" (spDraw K) []) : C8.Cal P w K mg base 2 "_law_place" (spB K R_law_place) [] := by
  refine cal_by F sc__law_place rfl rfl rfl (fun _ _ _ _ _ _ us hl => match us, hl with | [_, _, _], _ => rfl) (spB_len fun ds Z ⟨_, _, _, e, _⟩ => by rw [e]; rfl) fun f cdv A outer s H vs Q E hr h => ?_
  obtain ⟨L, b, a, zs, vs', ds, Z, rfl, hL, hb, bx, hd, ⟨ps, ac, pk, rfl, rfl⟩, k⟩ := h
  obtain ⟨hp1, hp6, hpk⟩ := pk
  have o := wb K (a := a) (zs := zs) hb
  have hu4 : _ + 64 < cLine := hr.units
  have S := Sl.startB (C := Wb K L b a zs) (N := N__law_place) (b := b) hd
  refine ⟨_, (pss_c (ps_set (i := 3) sc__law_place.nd rfl (Or.inl rfl) (pe_op op_mod (pe_callTy call_int1 (by rfl) B.int (by decide +kernel) (pa_cons (C8.pe_c c__law_draw hr (by omega) rfl (pa_cons (pv 0) (pa_cons pe_int pa_nil))) pa_nil)) (pe_callB call_len (by rfl) B.len PySem.boot_len (pa_cons (pv 1) pa_nil))))
  (pss_c (ps_set (i := 4) sc__law_place.nd rfl (Or.inl rfl) (pe_ix ix_seq (pv 1) (pv 3) (fun _ _ => rfl)))
  (pss_c (ps_set (i := 5) sc__law_place.nd rfl (Or.inl rfl) (C8.pe_c c__law_draw hr (by omega) rfl (pa_cons (pv 0) (pa_cons pe_int pa_nil))))
  (pss_c (ps_if (PW.pt (pw_and (pt_cmpR (op_Q hu4) (pe_ix ix_seq (pv 4) pe_int (fun _ _ => rfl)) pe_str (nomark _)) (pw_and1 (pt_cmpR op_gt (C8.pe_c c__law_draw hr (by omega) rfl (pa_cons (pv 0) (pa_cons pe_int pa_nil))) pe_int (nomark _))))) (pss_c (ps_set (i := 6) sc__law_place.nd rfl (Or.inl rfl) (pe_callB call_len (by rfl) B.len PySem.boot_len (pa_cons (pe_ix ix_seq (pv 4) pe_int (fun _ _ => rfl)) pa_nil)))
  (pss_c (ps_if (pt_cmpR (op_Q hu4) (pv 2) pe_str (nomark _)) (pss_one (ps_set (i := 6) sc__law_place.nd rfl (Or.inl rfl) (pe_callB call_len (by rfl) B.len PySem.boot_len (pa_cons (pe_ix ix_seq (pe_ix ix_seq (pv 4) pe_int (fun _ _ => rfl)) pe_int (fun _ _ => rfl)) pa_nil)))) pss_nil)
  (pss_one (ps_ret (pe_tup (pa_cons pe_str (pa_cons (pv 3) (pa_cons (pv 6) (pa_cons (pv 6) (pa_cons (pv 5) pa_nil)))))))))) pss_nil)
  (pss_c (ps_set (i := 7) sc__law_place.nd rfl (Or.inl rfl) (pe_op op_add pe_int (C8.pe_c c__law_draw hr (by omega) rfl (pa_cons (pv 0) (pa_cons pe_int pa_nil)))))
  (pss_one (ps_ret (pe_tup (pa_cons pe_str (pa_cons (pv 3) (pa_cons (pv 7) (pa_cons (pe_op op_add (pv 7) (C8.pe_c c__law_draw hr (by omega) rfl (pa_cons (pv 0) (pa_cons pe_int pa_nil)))) (pa_cons (pv 5) pa_nil))))))))))))), ?_⟩
  refine s_set o (z_number hb bx S rfl rfl hp1 (by decide)) fun v1 H1 w1 hz => ?_
  obtain ⟨_, ⟨n, rfl, hn0, hn1⟩, r1⟩ := hz
  have S1 := (S.mono o w1).putD (i := 3) r1
  have bx1 := w1.2 bx
  obtain ⟨p, hp⟩ : ∃ p, ps[n.toNat]? = some p := ⟨ps[n.toNat]'(by omega), List.getElem?_eq_getElem _⟩
  have hpm := List.mem_of_getElem? hp
  refine s_set o (e_ixLz o (ds := ps.map Pt.d) (d := p.d) (e_var o S1 rfl) (e_var o S1 rfl) hn0 (by rw [List.getElem?_map, hp]; rfl)) fun v2 H2 w2 r2 => ?_
  have S2 := (S1.mono o w2).putD (i := 4) r2
  have bx2 := w2.2 bx1
  refine s_set o (z_drawI hb bx2 S2 rfl (by decide)) fun v3 H3 w3 hz => ?_
  obtain ⟨_, ⟨c, rfl, hc0, hc1⟩, r3⟩ := hz
  have S3 := (S2.mono o w3).putD (i := 5) r3
  have bx3 := w3.2 bx2
  have w03 := o.trans (o.trans w1 w2) w3
  obtain ⟨pr, hpr⟩ := p.d0
  have e0 : ∀ {σ' : L2.St} {H' : Hp} {te : TE}, Ed (Wb K L b a zs) te σ' H' p.d → Ed (Wb K L b a zs) (tOp (rQ K) (tOp (rIx K) te (tC (.int 0))) (tC (.str "shape"))) σ' H' (.bool (!p.isStrip && !p.isPlain)) := fun h => by
    have := e_eqS o (i := p.kind) (j := "shape") (e_ixT o (i := 0) (ds := .str p.kind :: pr) (d := .str p.kind) (by rw [← hpr]; exact h) (e_int o) rfl) (e_str o)
    rw [p.kind_shape] at this
    exact this
  have fin : ∀ {v H'} {l m : Int}, (Wb K L b a zs).W H3 H' → 1 ≤ l → l ≤ m → m ≤ 4 → Dw (Wb K L b a zs) H' v (.tuple [.str "place", .int n, .int l, .int m, .int c]) → Q v H' := fun {v H' l m} w' h1 h2 h3 r =>
    k v H' _ ⟨.place n l m c, ⟨⟨hn0, hn1, h1, h2, h3, hc0, by show c ≤ 2; omega⟩, Nat.le_refl _, Nat.le_refl _⟩, rfl⟩ (o.trans w03 w').1 ((o.trans w03 w').2 bx) r
  refine s_ifZ o (t_zand o (t_test o (e0 (e_var o S3 rfl))) fun _ => t_zB (z_cmp o (z_drawI hb bx3 S3 rfl (by decide)) (z_int (P := fun _ => True) (e_int o) trivial))) (fun hc H4 w4 => ?_) (fun _ H4 w4 => ?_)
  · have hsh := hc rfl
    have S4 := S3.mono o w4
    obtain ⟨hns, hnp⟩ : p.isStrip = false ∧ p.isPlain = false := by simpa using hsh
    obtain ⟨lf, _, _, lr⟩ := (hpk p hpm).resolve_left (by rw [hns]; exact Bool.false_ne_true)
    obtain ⟨l1, l2, l3⟩ := lr hnp
    have im := lf.im hnp
    obtain ⟨nn, lb, cc, rows, rfl⟩ : ∃ nn lb cc rows, p = .shape nn lb cc rows := by
      cases p with
      | plain => cases hnp
      | strip => cases hns
      | shape nn lb cc rows => exact ⟨nn, lb, cc, rows, rfl⟩
    have h0 : 1 ≤ rows.length := by
      cases rows with
      | nil => exact absurd rfl im.ne
      | cons => simp
    refine s_set o (e_lenT o (ds := rows.map .str) (e_ixT o (i := 4) (e_var o S4 rfl) (e_int o) rfl)) fun v5 H5 w5 r5 => ?_
    rw [List.length_map] at r5
    have S5 := (S4.mono o w5).putD (i := 6) r5
    have w35 := o.trans w4 w5
    obtain ⟨r0, rs, e0'⟩ : ∃ r0 rs, rows = r0 :: rs := by
      cases rows with
      | nil => exact absurd rfl im.ne
      | cons a b => exact ⟨a, b, rfl⟩
    have hw : r0.length = wide rows := im.len r0 (by rw [e0']; exact List.mem_cons_self)
    refine s_ifSet o (i := 6) (P := fun v H' => Dw (Wb K L b a zs) H' v (.int (wide rows : Nat))) (t_test o (e_eqS o (e_var o S5 rfl) (e_str o))) (fun c H6 w6 => ?_) fun σ6 H6 w6 hz => ?_
    · have := e_lenS o (z := r0) (e_ixT o (i := 0) (ds := rows.map .str) (d := .str r0) (e_ixT o (i := 4) (ds := [.str "shape", .str nn, .str lb, .int cc, .tuple (rows.map .str)]) (e_var (i := 4) o (S5.mono o w6) rfl) (e_int o) rfl) (e_int o) (by rw [e0']; rfl)) (by rw [hw]; exact im.wd)
      rw [hw] at this
      exact this
    · obtain ⟨y, hy1, hy2, S6⟩ : ∃ y : Int, 1 ≤ y ∧ y ≤ 4 ∧ Sl (Wb K L b a zs) H6 σ6 [.va (.ref b), .da (ptl ps), .da (.str (dirS ac)), .da (.int n), .da (Pt.shape nn lb cc rows).d, .da (.int c), .da (.int y), .un] := by
        have l1' : 1 ≤ wide rows := l1
        have l2' : wide rows ≤ 3 := l2
        have l3' : rows.length ≤ 3 := l3
        rcases hz with ⟨_, v, rv, rfl⟩ | ⟨_, rfl⟩
        · exact ⟨_, by omega, by omega, (S5.mono o w6).putD (i := 6) rv⟩
        · exact ⟨_, by omega, by omega, S5.mono o w6⟩
      refine s_ret o (e_tup o (a_cons o (e_str o) (a_cons o (e_var o S6 rfl) (a_cons o (e_var o S6 rfl) (a_cons o (e_var o S6 rfl) (a_cons o (e_var o S6 rfl) (a_nil o))))))) fun v7 H7 w7 r7 => ?_
      exact fin (o.trans (o.trans w35 w6) w7) hy1 (Int.le_refl _) hy2 r7
  · have S4 := S3.mono o w4
    have bx4 := w4.2 bx3
    unfold tNext
    dsimp only
    refine s_set o (z_op0 o (R := fun i => 1 ≤ i ∧ i ≤ 2) (z_int (P := fun i => i = 1) (e_int o) rfl) (z_drawI hb bx4 S4 rfl (by decide)) (fun i j h1 h2 => by omega)) fun v5 H5 w5 hz => ?_
    obtain ⟨_, ⟨l, rfl, hl0, hl1⟩, r5⟩ := hz
    have S5 := (S4.mono o w5).putD (i := 7) r5
    have bx5 := w5.2 bx4
    refine s_ret o (z_tup o (az_cons o (z_eq (e_str o)) (az_cons o (z_eq (e_var o S5 rfl)) (az_cons o (z_eq (e_var o S5 rfl)) (az_cons o (z_op0 o (R := fun i => l ≤ i ∧ i ≤ 4) (z_int (P := fun i => i = l) (e_var o S5 rfl) rfl) (z_drawI hb bx5 S5 rfl (by decide)) (fun i j h1 h2 => by omega)) (az_cons o (z_eq (e_var o S5 rfl)) (az_nil o)))))) (fun ds hz => ?_)) fun v6 H6 w6 hz => ?_
    · obtain ⟨_, _, rfl, _, _, _, rfl, _, _, _, rfl, _, _, _, rfl, _, _, _, rfl, _, rfl⟩ := hz
      show 5 ≤ 1000
      decide
    · obtain ⟨_, ⟨_, rfl, _, _, rfl, rfl, _, _, rfl, rfl, _, _, rfl, rfl, _, _, rfl, ⟨m, rfl, hm0, hm1⟩, _, _, rfl, rfl, rfl⟩, r6⟩ := hz
      exact fin (o.trans (o.trans w4 w5) w6) hl0 hm0 hm1 r6
end
end SR

namespace SR
open PySem PySem.Spec PyProof.Rows L2
def zT (n : Nat) (Z : PyData → Prop) (d : PyData) : Prop := ∃ ds, d = .tuple ds ∧ ds.length = n ∧ ∀ e ∈ ds, Z e
abbrev rTupOf (K : PySem.W.Frag) : List V → Hp → VK → Prop := fun xs H Q => ∃ p ys, xs = [.ref p] ∧ ((SqL K H p ys ∧ ∀ l, H l = none → Q (.ref l) (upd H l (.tup ys))) ∨ (SqT K H p ys ∧ Q (.ref p) H))
theorem z_tupL {C : Wd} (o : C.Ok) {H : Hp} {σ : L2.St} {te : TE} {n : Nat} {Z : PyData → Prop} (h : EZ C te σ H (zL n Z)) : EZ C (tCB (rTupOf C.K) (tCons te tNil)) σ H (zT n Z) := fun H1 w Q q =>
  h H1 w _ fun v H2 w2 ⟨d, ⟨ds, e, hl, hz⟩, r⟩ => by
    subst e
    obtain ⟨a, xs, rfl, _, e, rx⟩ := r.lstI
    exact ⟨a, xs, rfl, .inl ⟨SqL.of e, fun l hl' => q _ _ (o.trans w2 (o.new hl')) ⟨_, ⟨ds, rfl, hl, hz⟩, .tup upd_same (DTs.mono o (o.new hl') rx)⟩⟩⟩
theorem chs_of {n dep cnt : Nat} : ∀ {ds : List PyData}, (∀ e ∈ ds, ∃ c : Ch, ChOk n dep cnt c ∧ e = c.d) → ∃ cs : List Ch, ds = Ch.ds cs ∧ Ch.Alls (PlcOk n) cs ∧ Ch.deps cs ≤ dep ∧ Ch.cnts cs ≤ ds.length * cnt
  | [], _ => ⟨[], rfl, trivial, Nat.zero_le _, Nat.zero_le _⟩
  | d :: ds, h => by
    obtain ⟨c, hc, rfl⟩ := h d List.mem_cons_self
    obtain ⟨cs, e1, e2, e3, e4⟩ := chs_of fun e he => h e (List.mem_cons_of_mem _ he)
    refine ⟨c :: cs, by rw [e1]; rfl, ⟨hc.all, e2⟩, Nat.max_le.mpr ⟨hc.dep, e3⟩, ?_⟩
    show c.cnt + Ch.cnts cs ≤ (ds.length + 1) * cnt
    have := hc.cnt
    rw [Nat.add_mul, Nat.one_mul]
    omega
section
variable {P : Program} {w : World} {K : PySem.W.Frag} {mg : Str → Option Value} {base : Heap}
abbrev N__law_choice : List Str := ["_law_box", "_law_parts_here", "_law_direction", "_law_depth", "_law_kind", "_law_items", "_law_k"]
abbrev s__law_choice : Stmt := top 55
theorem sc__law_choice : FnScope ["_law_box", "_law_parts_here", "_law_direction", "_law_depth", "_law_kind", "_law_items", "_law_k"] ["_law_box", "_law_parts_here", "_law_direction", "_law_depth"] (defScope s__law_choice) := ⟨rfl, rfl, rfl, by decide +kernel, rfl, by decide +kernel, by decide +kernel⟩
def R_law_choice (n : Nat) (ds : List PyData) (Z : PyData → Prop) : Prop := ∃ (ps : List Pt) (ac : Bool) (d : Nat), d < n ∧ PsOk ps ∧ ds = [ptl ps, .str (dirS ac), .int d] ∧ Z = fun e => ∃ c : Ch, ChOk ps.length d (2 ^ d) c ∧ e = c.d
theorem choice_len (n : Nat) (vs : List V) (H : Hp) (Q : VK) (E : XK) (q : spB K (R_law_choice n) vs H Q E) : vs.length = 4 := spB_len (n := 3) (fun ds Z ⟨_, _, _, _, _, e, _⟩ => by rw [e]; rfl) vs H Q E q
theorem ok__law_choice_step {n lv : Nat} (F : DefA K mg "_law_choice" s__law_choice) (B : Blt mg) (hlv : 2 ≤ lv) (c__law_draw : C8.Cal P w K mg base 1 "_law_draw" (spDraw K) []) (c__law_place : C8.Cal P w K mg base 2 "_law_place" (spB K R_law_place) []) (c__law_choice : C8.Cal P w K mg base lv "_law_choice" (spB K (R_law_choice n)) []) : C8.Cal P w K mg base (lv + 1) "_law_choice" (spB K (R_law_choice (n + 1))) [] := by
  refine cal_by F sc__law_choice rfl rfl rfl (fun _ _ _ _ _ _ us hl => match us, hl with | [_, _, _, _], _ => rfl) (choice_len (n + 1)) fun f cdv A outer s H vs Q E hr h => ?_
  obtain ⟨L, b, a, zs, vs', ds, Z, rfl, hL, hb, bx, hd, ⟨ps, ac, d, hdn, pk, rfl, rfl⟩, k⟩ := h
  have o := wb K (a := a) (zs := zs) hb
  have hu4 : _ + 64 < cLine := hr.units
  have S := Sl.startB (C := Wb K L b a zs) (N := N__law_choice) (b := b) hd
  refine ⟨_, (pss_c (ps_set (i := 4) sc__law_choice.nd rfl (Or.inl rfl) (C8.pe_c c__law_draw hr (by omega) rfl (pa_cons (pv 0) (pa_cons pe_int pa_nil))))
  (pss_c (ps_if (PW.pt (pw_or (pt_cmpR (op_Q hu4) (pv 3) pe_int (nomark _)) (pw_or1 (pt_cmpR op_lt (pv 4) pe_int (nomark _))))) (pss_one (ps_ret (C8.pe_c c__law_place hr (by omega) rfl (pa_cons (pv 0) (pa_cons (pv 1) (pa_cons (pv 2) pa_nil)))))) pss_nil)
  (pss_c (ps_if (pt_cmpR op_lt (pv 4) pe_int (nomark _)) (pss_c (ps_set (i := 5) sc__law_choice.nd rfl (Or.inl rfl) (pe_callTy call_tuple_of (by rfl) B.tuple (by decide +kernel) (pa_cons (pe_lc (own := [("_law_k", 6)]) rfl sc__law_choice.nd (pi_range1 (by rfl) B.range (pa_cons pe_int pa_nil)) (blkOk_by (N := N__law_choice) (sc := defScope s__law_choice) (by decide +kernel)) (fun _ _ _ _ _ => (pg_name (i := 6) sc__law_choice.nd rfl (Or.inl rfl))) (fun _ _ _ _ _ => pts_nil) (fun _ _ _ _ _ => (C8.pe_c c__law_choice hr (by omega) rfl (pa_cons (pv 0) (pa_cons (pv 1) (pa_cons (pv 2) (pa_cons (pe_op op_sub (pv 3) pe_int) pa_nil))))))) pa_nil)))
  (pss_one (ps_ret (pe_tup (pa_cons (pe_ix ix_seq (pe_lst (pa_cons pe_str (pa_cons pe_str pa_nil))) (pe_op op_mod (pe_callTy call_int1 (by rfl) B.int (by decide +kernel) (pa_cons (pv 4) pa_nil)) pe_int) (fun _ _ => rfl)) (pa_cons (pv 5) pa_nil)))))) pss_nil)
  (pss_one (ps_ret (pe_tup (pa_cons (pe_ix ix_seq (pe_lst (pa_cons pe_str (pa_cons pe_str (pa_cons pe_str pa_nil)))) (C8.pe_c c__law_draw hr (by omega) rfl (pa_cons (pv 0) (pa_cons pe_int pa_nil))) (fun _ _ => rfl)) (pa_cons (C8.pe_c c__law_choice hr (by omega) rfl (pa_cons (pv 0) (pa_cons (pv 1) (pa_cons (pv 2) (pa_cons (pe_op op_sub (pv 3) pe_int) pa_nil))))) pa_nil)))))))), ?_⟩
  refine s_set o (z_drawI hb bx S rfl (by decide)) fun v1 H1 w1 hz => ?_
  obtain ⟨_, ⟨kd, rfl, hk0, hk1⟩, r1⟩ := hz
  have S1 := (S.mono o w1).putD (i := 4) r1
  have bx1 := w1.2 bx
  refine s_if o (t_or o (t_test o (e_eqI o (e_var o S1 rfl) (e_int o))) fun _ => t_test o (e_cmp o (e_var o S1 rfl) (e_int o))) (fun c H2 w2 => ?_) (fun c H2 w2 => ?_)
  · have S2 := S1.mono o w2
    have w02 := o.trans w1 w2
    refine s_ret o (z_callB hb (o.un w02 hL) (w02.2 bx) S2 rfl (az_cons o (z_eq (e_var o S2 rfl)) (az_cons o (z_eq (e_var o S2 rfl)) (az_nil o))) (Z := fun d => ∃ c : Ch, ChOk ps.length 0 1 c ∧ d = c.d) (R := R_law_place) fun ds hz => ?_) fun v3 H3 w3 hz => ?_
    · obtain ⟨_, _, rfl, rfl, _, _, rfl, rfl, rfl⟩ := hz
      exact ⟨ps, ac, pk, rfl, rfl⟩
    · obtain ⟨_, ⟨c, hc, rfl⟩, r3⟩ := hz
      have w03 := o.trans w02 w3
      exact k v3 H3 _ ⟨c, hc.up (Nat.zero_le _) Nat.one_le_two_pow, rfl⟩ w03.1 (w03.2 bx) r3
  have S2 := S1.mono o w2
  have w02 := o.trans w1 w2
  have bx2 := w02.2 bx
  have un2 := o.un w02 hL
  have hd1 : 1 ≤ d := by
    simp only [Bool.or_eq_false_iff, decide_eq_false_iff_not] at c
    omega
  unfold tNext
  dsimp only
  -- one more of lesser depth
  have sub : ∀ {L' : Addr → Prop} {σ' : L2.St} {H' : Hp} {ρ : List Ds}, L' b → (∀ c, L' c → H' c ≠ none) → BoxAt H' b a zs → Sl (Wb K L' b a zs) H' σ' ρ → ρ[0]? = some (.va (.ref b)) → ρ[1]? = some (.da (ptl ps)) → ρ[2]? = some (.da (.str (dirS ac))) → ρ[3]? = some (.da (.int d)) →
      EZ (Wb K L' b a zs) (tCall (spB K (R_law_choice n)) [] E0 (tCons (tVar 0) (tCons (tVar 1) (tCons (tVar 2) (tCons (tOp (rI0 fun i j => .int (i - j)) (tVar 3) (tC (.int 1))) tNil))))) σ' H' fun e => ∃ c : Ch, ChOk ps.length (d - 1) (2 ^ (d - 1)) c ∧ e = c.d := fun {L' σ' H' ρ} hb' un' bx' S' h0 h1 h2 h3 => by
    have o' := wb K (a := a) (zs := zs) hb'
    refine z_callB hb' un' bx' S' h0 (az_cons o' (z_eq (e_var o' S' h1)) (az_cons o' (z_eq (e_var o' S' h2)) (az_cons o' (z_eq (e_sub o' (e_var o' S' h3) (e_int o'))) (az_nil o')))) fun ds hz => ?_
    obtain ⟨_, _, rfl, rfl, _, _, rfl, rfl, _, _, rfl, rfl, rfl⟩ := hz
    exact ⟨ps, ac, d - 1, by omega, pk, by rw [show ((d - 1 : Nat) : Int) = (d : Int) - 1 by omega], rfl⟩
  have hpow : 2 ^ d = 2 * 2 ^ (d - 1) := by
    obtain ⟨e, rfl⟩ : ∃ e, d = e + 1 := ⟨d - 1, by omega⟩
    rw [Nat.add_sub_cancel, Nat.pow_succ, Nat.mul_comm]
  refine s_if o (t_test o (e_cmp o (e_var o S2 rfl) (e_int o))) (fun c H3 w3 => ?_) (fun c H3 w3 => ?_)
  · have S3 := S2.mono o w3
    have w03 := o.trans w02 w3
    refine s_set o (z_tupL o (z_lcR (n := 2) (Z := fun e => ∃ c : Ch, ChOk ps.length (d - 1) (2 ^ (d - 1)) c ∧ e = c.d) hb (o.un w03 hL) (w03.2 bx) (az_cons o (z_eq (e_int o)) (az_nil o)) (by decide) (by decide) (fun v => wipe_one _ _ _) fun D H' unD bxD kS j hj => ?_)) fun v4 H4 w4 hz => ?_
    · have oD : (Wb K (Lp L D) b a zs).Ok := wb K (.inl hb)
      have SD := ((kS _ S3).putD (i := 6) (.int (j : Int)))
      exact sub (.inl hb) unD bxD SD rfl rfl rfl rfl
    · obtain ⟨_, ⟨es, rfl, hl4, hz4⟩, r4⟩ := hz
      have S4 := (S3.mono o w4).putD (i := 5) r4
      have w04 := o.trans w03 w4
      obtain ⟨cs, rfl, g1, g2, g3⟩ := chs_of hz4
      have hm0 : 0 ≤ kd % 2 := Int.emod_nonneg _ (by decide)
      have hm1 : kd % 2 < 2 := Int.emod_lt_of_pos _ (by decide)
      refine s_ret o (z_tup o (az_cons o (z_ixL o (Z := fun e => e = .str "sequence" ∨ e = .str "choice") (e_lst o (o.un w04 hL) (a_cons o (e_str o) (a_cons o (e_str o) (a_nil o)))) (z_int (e_mod o (e_intI o (e_var o S4 rfl)) (e_int o) (by decide)) ⟨hm0, hm1⟩) (fun e he => by
        simp only [List.mem_cons, List.not_mem_nil, or_false] at he
        exact he)) (az_cons o (z_eq (e_var o S4 rfl)) (az_nil o))) (fun ds hz => ?_)) fun v5 H5 w5 hz => ?_
      · obtain ⟨_, _, rfl, _, _, _, rfl, _, rfl⟩ := hz
        show 2 ≤ 1000
        decide
      · obtain ⟨_, ⟨_, rfl, _, _, rfl, hk, _, _, rfl, rfl, rfl⟩, r5⟩ := hz
        have w05 := o.trans w04 w5
        have hlen : (Ch.ds cs).length = 2 := hl4
        rw [hlen] at g3
        rcases hk with rfl | rfl
        · exact k v5 H5 _ ⟨.seq cs, ⟨g1, by show Ch.deps cs + 1 ≤ d; omega, by show Ch.cnts cs ≤ 2 ^ d; omega⟩, rfl⟩ w05.1 (w05.2 bx) r5
        · exact k v5 H5 _ ⟨.alt cs, ⟨g1, by show Ch.deps cs + 1 ≤ d; omega, by show Ch.cnts cs ≤ 2 ^ d; omega⟩, rfl⟩ w05.1 (w05.2 bx) r5
  · have S3 := S2.mono o w3
    have w03 := o.trans w02 w3
    have un3 := o.un w03 hL
    dsimp only
    refine s_ret o (z_tup o (az_cons o (z_ixL o (Z := fun e => e = .str "any" ∨ e = .str "some" ∨ e = .str "maybe") (e_lst o un3 (a_cons o (e_str o) (a_cons o (e_str o) (a_cons o (e_str o) (a_nil o))))) (z_drawI hb (w03.2 bx) S3 rfl (by decide)) (fun e he => by
      simp only [List.mem_cons, List.not_mem_nil, or_false] at he
      exact he)) (az_cons o (sub hb un3 (w03.2 bx) S3 rfl rfl rfl rfl) (az_nil o))) (fun ds hz => ?_)) fun v5 H5 w5 hz => ?_
    · obtain ⟨_, _, rfl, _, _, _, rfl, _, rfl⟩ := hz
      show 2 ≤ 1000
      decide
    · obtain ⟨_, ⟨_, rfl, _, _, rfl, hk, _, _, rfl, ⟨c, hc, rfl⟩, rfl⟩, r5⟩ := hz
      have w05 := o.trans w03 w5
      have h1 := hc.dep; have h2 := hc.cnt
      rcases hk with rfl | rfl | rfl
      · exact k v5 H5 _ ⟨.any c, ⟨hc.all, by show c.dep + 1 ≤ d; omega, by show c.cnt ≤ 2 ^ d; omega⟩, rfl⟩ w05.1 (w05.2 bx) r5
      · exact k v5 H5 _ ⟨.some c, ⟨hc.all, by show c.dep + 1 ≤ d; omega, by show c.cnt ≤ 2 ^ d; omega⟩, rfl⟩ w05.1 (w05.2 bx) r5
      · exact k v5 H5 _ ⟨.maybe c, ⟨hc.all, by show c.dep + 1 ≤ d; omega, by show c.cnt ≤ 2 ^ d; omega⟩, rfl⟩ w05.1 (w05.2 bx) r5
theorem ok__law_choice (F : DefA K mg "_law_choice" s__law_choice) (B : Blt mg) (c__law_draw : C8.Cal P w K mg base 1 "_law_draw" (spDraw K) []) (c__law_place : C8.Cal P w K mg base 2 "_law_place" (spB K R_law_place) []) : ∀ n, C8.Cal P w K mg base (n + 2) "_law_choice" (spB K (R_law_choice n)) []
  | 0 => by
    refine cal_by F sc__law_choice rfl rfl rfl (fun _ _ _ _ _ _ us hl => match us, hl with | [_, _, _, _], _ => rfl) (choice_len 0) fun f cdv A outer s H vs Q E hr h => ?_
    obtain ⟨L, b, a, zs, vs', ds, Z, rfl, hL, hb, bx, hd, ⟨ps, ac, d, hdn, _⟩, k⟩ := h
    exact absurd hdn (by omega)
  | n + 1 => ok__law_choice_step F B (by omega) c__law_draw c__law_place (ok__law_choice F B c__law_draw c__law_place n)
end
end SR

namespace SR
open PySem PySem.Spec PyProof.Rows L2
/-! ### data without lists -/
mutual
def nl : PyData → Bool
  | .none => true
  | .bool _ => true
  | .int _ => true
  | .str _ => true
  | .tuple ds => nls ds
  | _ => false
def nls : List PyData → Bool
  | [] => true
  | d :: ds => nl d && nls ds
end
mutual
theorem DT.nl {K : PySem.W.Frag} {L L' : Addr → Prop} {H : Hp} : ∀ {d : PyData} {v : V}, SR.nl d = true → DT K L H v d → DT K L' H v d
  | .none, _, _, h => by cases h; exact .non
  | .bool _, _, _, h => by cases h; exact .bl _
  | .int _, _, _, h => by cases h; exact .int _
  | .str _, _, _, h => by cases h; exact .str _
  | .tuple ds, _, n, h => by
    cases h with
    | tup e r => exact .tup e (DTs.nl (by simpa [SR.nl] using n) r)
  | .list _, _, n, _ => by simp [SR.nl] at n
  | .dict _, _, n, _ => by simp [SR.nl] at n
theorem DTs.nl {K : PySem.W.Frag} {L L' : Addr → Prop} {H : Hp} : ∀ {ds : List PyData} {vs : List V}, SR.nls ds = true → DTs K L H vs ds → DTs K L' H vs ds
  | [], _, _, h => by cases h; exact .nil
  | d :: ds, _, n, h => by
    cases h with
    | cons a b =>
      simp only [SR.nls, Bool.and_eq_true] at n
      exact .cons (DT.nl n.1 a) (DTs.nl n.2 b)
end
mutual
theorem ch_nl : ∀ c : Ch, nl c.d = true
  | .place p l m c => rfl
  | .seq cs => by simp [Ch.d, nl, nls, chs_nl cs]
  | .alt cs => by simp [Ch.d, nl, nls, chs_nl cs]
  | .any c => by simp [Ch.d, nl, nls, ch_nl c]
  | .some c => by simp [Ch.d, nl, nls, ch_nl c]
  | .maybe c => by simp [Ch.d, nl, nls, ch_nl c]
theorem chs_nl : ∀ cs : List Ch, nls (Ch.ds cs) = true
  | [] => rfl
  | c :: cs => by simp [Ch.ds, nls, ch_nl c, chs_nl cs]
end
theorem s_ifSetZ {C : Wd} (o : C.Ok) {H : Hp} {σ : L2.St} {tt : TT} {te : TE} {i : Nat} {T : Bool → Prop} {P : V → Hp → Prop} {nx bk ct : L2.St → Hp → Prop} {rt : VK} (h : EtP C tt σ H T) (he : ∀ H', C.W H H' → EvP C te σ H' P)
    (q : ∀ σ' H', C.W H H' → ((∃ v, P v H' ∧ σ' = σ.set i (some v)) ∨ σ' = σ) → nx σ' H') : tIfS tt (tAsg te (gName i)) tNext ⟨nx, rt, bk, ct⟩ σ H :=
  s_ifZ o h (fun _ H1 w1 => s_set o (he H1 w1) fun v H2 w2 p => q _ H2 (o.trans w1 w2) (.inl ⟨v, p, rfl⟩)) fun _ H1 w1 => q σ H1 w1 (.inr rfl)
/-- a strip at place i -/
def StripOk (i : Nat) (p : Pt) : Prop := ∃ ac nm j c, p = .strip ac nm j c ∧ ChOk i 3 4 c
def PartsTo (m : Nat) (ps : List Pt) : Prop := ∀ i p, ps[i]? = some p → (i < m → LeafOk p) ∧ (m ≤ i → StripOk i p)
theorem PartsTo.snoc {m : Nat} {ps : List Pt} {p : Pt} (h : PartsTo m ps) (hp : (ps.length < m → LeafOk p) ∧ (m ≤ ps.length → StripOk ps.length p)) : PartsTo m (ps ++ [p]) := fun i x hx => by
  rcases Nat.lt_trichotomy i ps.length with c | c | c
  · rw [List.getElem?_append_left c] at hx
    exact h i x hx
  · subst c
    rw [List.getElem?_append_right (Nat.le_refl _), Nat.sub_self] at hx
    cases hx
    exact hp
  · rw [List.getElem?_append_right (by omega)] at hx
    have : i - ps.length = (i - ps.length - 1) + 1 := by omega
    rw [this] at hx
    cases hx
theorem PartsTo.ok {m : Nat} {ps : List Pt} (h : PartsTo m ps) (h1 : 1 ≤ ps.length) (h6 : ps.length ≤ 6) : PsOk ps := ⟨h1, h6, fun p hp => by
  obtain ⟨i, hi, e⟩ := List.getElem_of_mem hp
  have hx : ps[i]? = some p := by rw [List.getElem?_eq_getElem hi, e]
  rcases Nat.lt_or_ge i m with c | c
  · exact .inr ((h i p hx).1 c)
  · obtain ⟨ac, nm, j, c, rfl, _⟩ := (h i p hx).2 c
    exact .inl rfl⟩
/-- a grammar as the law makes them -/
structure GoodPs (ps : List Pt) (m : Nat) : Prop where
  lo : 2 ≤ m
  hi : m ≤ 4
  l1 : m + 1 ≤ ps.length
  l2 : ps.length ≤ m + 2
  to : PartsTo m ps
section
variable {P : Program} {w : World} {K : PySem.W.Frag} {mg : Str → Option Value} {base : Heap}
abbrev N__law_parts : List Str := ["_law_box", "_law_wide", "_law_strips", "_law_parts_here", "_law_k", "_law_direction", "_law_choice_here"]
abbrev s__law_parts : Stmt := top 56
theorem sc__law_parts : FnScope ["_law_box", "_law_wide", "_law_strips", "_law_parts_here", "_law_k", "_law_direction", "_law_choice_here"] ["_law_box", "_law_wide", "_law_strips"] (defScope s__law_parts) := ⟨rfl, rfl, rfl, by decide +kernel, rfl, by decide +kernel, by decide +kernel⟩
def R_law_parts (ds : List PyData) (Z : PyData → Prop) : Prop := ∃ n : Nat, 1 ≤ n ∧ n ≤ 2 ∧ ds = [.int 3, .int n] ∧ Z = fun d => ∃ (ps : List Pt) (m : Nat), GoodPs ps m ∧ d = pts ps
theorem ok__law_parts (F : DefA K mg "_law_parts" s__law_parts) (B : Blt mg) (c__law_draw : C8.Cal P w K mg base 1 "_law_draw" (spDraw K) []) (c__law_leaf : C8.Cal P w K mg base 2 "_law_leaf" (spB K R_law_leaf) []) (c__law_choice : C8.Cal P w K mg base 5 "_law_choice" (spB K (R_law_choice 3)) []) : C8.Cal P w K mg base 6 "_law_parts" (spB K R_law_parts) [] := by
  refine cal_by F sc__law_parts rfl rfl rfl (fun _ _ _ _ _ _ us hl => match us, hl with | [_, _, _], _ => rfl) (spB_len fun ds Z ⟨_, _, _, e, _⟩ => by rw [e]; rfl) fun f cdv A outer s H vs Q E hr h => ?_
  obtain ⟨L, b, a, zs, vs', ds, Z, rfl, hL, hb, bx, hd, ⟨n, hn1, hn2, rfl, rfl⟩, k⟩ := h
  have o := wb K (a := a) (zs := zs) hb
  have hu4 : _ + 64 < cLine := hr.units
  have S := Sl.startB (C := Wb K L b a zs) (N := N__law_parts) (b := b) hd
  refine ⟨_, (pss_c (ps_set (i := 3) sc__law_parts.nd rfl (Or.inl rfl) (pe_lst pa_nil))
  (pss_c (ps_for PassesOwn.never rfl (pi_range1 (by rfl) B.range (pa_cons (pe_op op_add pe_int (C8.pe_c c__law_draw hr (by omega) rfl (pa_cons (pv 0) (pa_cons pe_int pa_nil)))) pa_nil)) (pg_name (i := 4) sc__law_parts.nd rfl (Or.inl rfl)) (pss_one (ps_expr (pe_bm PySem.F.plainAttrs_list PySem.F.slot_list_append PySem.F.type_list_append mt_append (pv 3) (pa_cons (C8.pe_c c__law_leaf hr (by omega) rfl (pa_cons (pv 0) (pa_cons (pv 4) (pa_cons (pv 1) pa_nil)))) pa_nil)))))
  (pss_c (ps_for PassesOwn.never rfl (pi_range1 (by rfl) B.range (pa_cons (pv 2) pa_nil)) (pg_name (i := 4) sc__law_parts.nd rfl (Or.inl rfl)) (pss_c (ps_set (i := 5) sc__law_parts.nd rfl (Or.inl rfl) (pe_ix ix_seq (pe_lst (pa_cons pe_str (pa_cons pe_str pa_nil))) (C8.pe_c c__law_draw hr (by omega) rfl (pa_cons (pv 0) (pa_cons pe_int pa_nil))) (fun _ _ => rfl)))
  (pss_c (ps_set (i := 6) sc__law_parts.nd rfl (Or.inl rfl) (pe_tup (pa_cons (pe_ix ix_seq (pe_lst (pa_cons pe_str (pa_cons pe_str (pa_cons pe_str pa_nil)))) (C8.pe_c c__law_draw hr (by omega) rfl (pa_cons (pv 0) (pa_cons pe_int pa_nil))) (fun _ _ => rfl)) (pa_cons (C8.pe_c c__law_choice hr (by omega) rfl (pa_cons (pv 0) (pa_cons (pv 3) (pa_cons (pv 5) (pa_cons pe_int pa_nil))))) pa_nil))))
  (pss_c (ps_if (pt_cmpR (op_Q hu4) (C8.pe_c c__law_draw hr (by omega) rfl (pa_cons (pv 0) (pa_cons pe_int pa_nil))) pe_int (nomark _)) (pss_one (ps_set (i := 6) sc__law_parts.nd rfl (Or.inl rfl) (pe_ix ix_seq (pv 6) pe_int (fun _ _ => rfl)))) pss_nil)
  (pss_one (ps_expr (pe_bm PySem.F.plainAttrs_list PySem.F.slot_list_append PySem.F.type_list_append mt_append (pv 3) (pa_cons (pe_tup (pa_cons (pv 5) (pa_cons (pe_op op_add_str pe_str (pe_callTy call_str_int (by rfl) B.str (by decide +kernel) (pa_cons (pv 4) pa_nil))) (pa_cons (pe_ix ix_seq (pe_lst (pa_cons pe_str (pa_cons pe_str (pa_cons pe_str pa_nil)))) (C8.pe_c c__law_draw hr (by omega) rfl (pa_cons (pv 0) (pa_cons pe_int pa_nil))) (fun _ _ => rfl)) (pa_cons (pv 6) pa_nil))))) pa_nil))))))))
  (pss_one (ps_ret (pe_callTy call_tuple_of (by rfl) B.tuple (by decide +kernel) (pa_cons (pv 3) pa_nil))))))), ?_⟩
  refine s_new (L := L) (i := 3) (S.cast (C' := W0 K L) rfl rfl) fun q hq S1 => ?_
  have hqb : q ≠ b := fun e => by obtain ⟨_, z, _⟩ := bx; rw [e, z] at hq; cases hq
  have hqa : q ≠ a := fun e => by obtain ⟨_, _, z⟩ := bx; rw [e, z] at hq; cases hq
  have hqL : ¬ L q := fun l => hL q l hq
  have oq : (Wb K (Lp L q) b a zs).Ok := wb K (.inl hb)
  have un1 : ∀ c, Lp L q c → upd H q (.lst []) c ≠ none := own_un hL _
  have hq1 : upd H q (.lst []) q = some (.lst []) := upd_same
  have bx1 := bx.new hq (u := .lst [])
  have kend : ∀ {H'}, Kp (fun c => c = q ∨ c = b) (upd H q (.lst [])) H' → Kp (· = b) H H' := fun {H'} k' => ((Kp.new (L := (· = b)) (o := .lst []) hq).hide k' fun c e => e.elim (fun e => .inl (e ▸ hq)) .inr)
  have hM2 : ∀ c, (c = q ∨ c = b) → Lp L q c := fun c e => e.elim .inr fun e => .inl (e ▸ hb)
  generalize upd H q (.lst []) = H1 at S1 un1 hq1 bx1 kend ⊢
  have S1 := S1.cast (C' := Wb K (Lp L q) b a zs) rfl rfl
  -- one more part
  have app : ∀ {σ : L2.St} {H2 : Hp} {ρ : List Ds} {xs : List V} {ps : List Pt} {te : TE} {Z : PyData → Prop} {rt bk ct} {nx : L2.St → Hp → Prop}, Kp (fun c => c = q ∨ c = b) H1 H2 → BoxAt H2 b a zs → Sl (Wb K (Lp L q) b a zs) H2 σ ρ → ρ[3]? = some (.va (.ref q)) → H2 q = some (.lst xs) → DTs K (Lp L q) H2 xs (ps.map Pt.d) → ps.length ≤ 1000 → EZ (Wb K (Lp L q) b a zs) te σ H2 (fun d => ∃ p : Pt, d = p.d ∧ Z p.d) →
      (∀ (H3 : Hp) (xs' : List V) (p : Pt), Kp (fun c => c = q ∨ c = b) H1 H3 → BoxAt H3 b a zs → Sl (Wb K (Lp L q) b a zs) H3 σ ρ → H3 q = some (.lst xs') → DTs K (Lp L q) H3 xs' ((ps ++ [p]).map Pt.d) → Z p.d → nx σ H3) → tDrop (tBM K "list" rAppend (tVar 3) (tCons te tNil)) ⟨nx, rt, bk, ct⟩ σ H2 := fun {σ H2 ρ xs ps te Z rt bk ct nx} k2 bx2 S2 h3 hq2 rx hl he k' => by
    refine s_appB S2 h3 hq2 hqb (lt_size (by rw [rx.length, List.length_map]; omega)) he fun v H3 w3 hz hq3 => ?_
    obtain ⟨_, ⟨p, rfl, zp⟩, r3⟩ := hz
    have k3 : Kp (fun c => c = q ∨ c = b) H3 (upd H3 q (.lst (xs ++ [v]))) := (Kp.refl _ _).put (.inr (.inl rfl)) (by rw [hq3]; trivial)
    obtain ⟨nn, g1, g2⟩ := w3.2 bx2
    refine k' _ _ p ((k2.trans (w3.1.mono fun _ z => .inr z)).trans k3) ⟨nn, by rw [upd_ne hqb.symm]; exact g1, by rw [upd_ne hqa.symm]; exact g2⟩ ((((S2.mono oq w3).cast (C' := W0 K (Lp L q)) rfl rfl).step hM2 k3).cast rfl rfl) upd_same ?_ zp
    rw [List.map_append]
    exact DTs.step hM2 k3 ((DTs.mono oq w3 rx).snoc r3)
  refine s_for1Z oq (az_cons oq (z_op0 oq (R := fun i => 2 ≤ i ∧ i ≤ 4) (z_int (P := fun i => i = 2) (e_int oq) rfl) (z_drawI (.inl hb) bx1 S1 rfl (by decide)) (fun i j h1 h2 => by omega)) (az_nil oq)) fun vs2 ds2 H2 w2 hz r2 => ?_
  obtain ⟨_, _, rfl, ⟨mi, rfl, hm0, hm1⟩, rfl⟩ := hz
  obtain ⟨m, rfl⟩ : ∃ m : Nat, mi = (m : Int) := ⟨mi.toNat, by omega⟩
  have S2 := S1.mono oq w2
  have bx2 := w2.2 bx1
  have hq2 : H2 q = some (.lst []) := w2.1.lst hqb hq1
  have k12 : Kp (fun c => c = q ∨ c = b) H1 H2 := w2.1.mono fun _ z => .inr z
  refine s_for1 oq (n := m) (a_ca oq r2) (by omega) (by omega) (fun i σ' H' => Kp (fun c => c = q ∨ c = b) H1 H' ∧ BoxAt H' b a zs ∧ ∃ (b4 b5 b6 : Ds) (xs : List V) (ps : List Pt), Sl (Wb K (Lp L q) b a zs) H' σ' [.va (.ref b), .da (.int 3), .da (.int n), .va (.ref q), b4, b5, b6] ∧ H' q = some (.lst xs) ∧ DTs K (Lp L q) H' xs (ps.map Pt.d) ∧ ps.length = i ∧ PartsTo m ps)
    (fun H' w' => ⟨k12.trans (w'.1.mono fun _ z => .inr z), w'.2 bx2, .un, .un, .un, [], [], S2.mono oq w', w'.1.lst hqb hq2, .nil, rfl, fun i p h => by cases h⟩)
    (fun i σ3 H3 hi ⟨k3, bx3, b4, b5, b6, xs, ps, S3, hq3, rx3, hl3, to3⟩ => ?_) (fun σ3 H3 ⟨k3, bx3, b4, b5, b6, xs, ps, S3, hq3, rx3, hl3, to3⟩ => ?_)
  · have S4 := S3.putD (i := 4) (.int (i : Int))
    have un3 := k3.un un1
    have hi' : i < m := hi
    refine app (Z := fun d => ∃ p : Pt, LeafOk p ∧ d = p.d) k3 bx3 S4 rfl hq3 rx3 (by omega) (z_imp (z_callB (.inl hb) un3 bx3 S4 rfl (az_cons oq (z_eq (e_var oq S4 rfl)) (az_cons oq (z_eq (e_var oq S4 rfl)) (az_nil oq))) (Z := fun d => ∃ p : Pt, LeafOk p ∧ d = p.d) (R := R_law_leaf) fun ds hz => ?_) fun d ⟨p, h1, h2⟩ => ⟨p, h2, p, h1, rfl⟩) fun H5 xs' p k5 bx5 S5 hq5 rx5 hz => ?_
    · obtain ⟨_, _, rfl, rfl, _, _, rfl, rfl, rfl⟩ := hz
      exact ⟨i, by omega, rfl, rfl⟩
    · obtain ⟨p', hp', e⟩ := hz
      refine ⟨k5, bx5, _, _, _, xs', ps ++ [p'], S5, hq5, ?_, by rw [List.length_append]; simp; omega, to3.snoc ⟨fun _ => hp', fun h => by omega⟩⟩
      rw [List.map_append] at rx5 ⊢
      show DTs K (Lp L q) H5 xs' (ps.map Pt.d ++ [p'.d])
      rw [← e]
      exact rx5
  · rw [show (m : Int).toNat = m from rfl] at hl3
    show tFor _ _ _ _ _ _
    refine s_for1 oq (n := n) (a_cons oq (e_var oq S3 rfl) (a_nil oq)) (by omega) (by omega) (fun i σ' H' => Kp (fun c => c = q ∨ c = b) H1 H' ∧ BoxAt H' b a zs ∧ ∃ (b4 b5 b6 : Ds) (xs : List V) (ps : List Pt), Sl (Wb K (Lp L q) b a zs) H' σ' [.va (.ref b), .da (.int 3), .da (.int n), .va (.ref q), b4, b5, b6] ∧ H' q = some (.lst xs) ∧ DTs K (Lp L q) H' xs (ps.map Pt.d) ∧ ps.length = m + i ∧ PartsTo m ps)
      (fun H' w' => ⟨k3.trans (w'.1.mono fun _ z => .inr z), w'.2 bx3, _, _, _, xs, ps, S3.mono oq w', w'.1.lst hqb hq3, DTs.mono oq w' rx3, hl3, to3⟩)
      (fun i σ4 H4 hi ⟨k4, bx4, b4, b5, b6, xs, ps, S4, hq4, rx4, hl4, to4⟩ => ?_) (fun σ4 H4 ⟨k4, bx4, b4, b5, b6, xs, ps, S4, hq4, rx4, hl4, to4⟩ => ?_)
    · have S5 := S4.putD (i := 4) (.int (i : Int))
      have un4 := k4.un un1
      have hi' : i < n := hi
      have pk : PsOk ps := to4.ok (by omega) (by omega)
      -- the direction
      refine s_set oq (z_ixL oq (Z := fun e => ∃ ac, e = .str (dirS ac)) (e_lst oq un4 (a_cons oq (e_str oq) (a_cons oq (e_str oq) (a_nil oq)))) (z_drawI (.inl hb) bx4 S5 rfl (by decide)) (fun e he => by
        simp only [List.mem_cons, List.not_mem_nil, or_false] at he
        rcases he with rfl | rfl
        · exact ⟨true, rfl⟩
        · exact ⟨false, rfl⟩)) fun v6 H6 w6 hz => ?_
      obtain ⟨_, ⟨ac, rfl⟩, r6⟩ := hz
      have S6 := (S5.mono oq w6).putD (i := 5) r6
      have bx6 := w6.2 bx4
      have hq6 : H6 q = some (.lst xs) := w6.1.lst hqb hq4
      have rx6 := DTs.mono oq w6 rx4
      have k6 : Kp (fun c => c = q ∨ c = b) H1 H6 := k4.trans (w6.1.mono fun _ z => .inr z)
      -- the choice: the list seen as what it holds
      have unL : ∀ c, L c → H6 c ≠ none := fun c l => k6.un un1 c (.inl l)
      have S6L : Sl (Wb K L b a zs) H6 _ _ := (((S6.cast (C' := W0 K (Lp L q)) rfl rfl).lessL (N := L) fun c l => .inl l).reda (i := 3) rfl (DT.lst hqL hq6 (DTs.less (fun c l => .inl l) rx6) : DT K L H6 (.ref q) (ptl ps))).cast rfl rfl
      refine s_set o (z_tup o (az_cons o (z_ixL o (Z := fun e => e = .str "any" ∨ e = .str "some") (e_lst o unL (a_cons o (e_str o) (a_cons o (e_str o) (a_cons o (e_str o) (a_nil o))))) (z_drawI hb bx6 S6L rfl (by decide)) (fun e he => by
        simp only [List.mem_cons, List.not_mem_nil, or_false] at he
        rcases he with rfl | rfl | rfl
        · exact .inl rfl
        · exact .inr rfl
        · exact .inl rfl)) (az_cons o (z_callB (i := 0) hb unL bx6 S6L rfl (az_cons o (z_eq (e_var o S6L rfl)) (az_cons o (z_eq (e_var o S6L rfl)) (az_cons o (z_eq (e_int o)) (az_nil o)))) (Z := fun e => ∃ c : Ch, ChOk ps.length 2 4 c ∧ e = c.d) (R := R_law_choice 3) fun ds hz => ?_) (az_nil o))) (fun ds hz => ?_)) fun v7 H7 w7 hz => ?_
      · obtain ⟨_, _, rfl, rfl, _, _, rfl, rfl, _, _, rfl, rfl, rfl⟩ := hz
        exact ⟨ps, ac, 2, by decide, pk, rfl, rfl⟩
      · obtain ⟨_, _, rfl, _, _, _, rfl, _, rfl⟩ := hz
        show 2 ≤ 1000
        decide
      obtain ⟨_, ⟨_, rfl, _, _, rfl, hk, _, _, rfl, ⟨c, hc, rfl⟩, rfl⟩, r7⟩ := hz
      have w7q : (Wb K (Lp L q) b a zs).W H6 H7 := w7
      have hnl : ∀ e : PyData, (e = .str "any" ∨ e = .str "some") → nl (.tuple [e, c.d]) = true := fun e he => by
        rcases he with rfl | rfl <;> simp [nl, nls, ch_nl c]
      obtain ⟨c2, hc2, r7'⟩ : ∃ c2 : Ch, ChOk ps.length 3 4 c2 ∧ ∃ e, c2.d = .tuple [e, c.d] ∧ DT K (Lp L q) H7 v7 c2.d := by
        have h1 := hc.dep; have h2 := hc.cnt
        rcases hk with rfl | rfl
        · exact ⟨.any c, ⟨hc.all, by show c.dep + 1 ≤ 3; omega, h2⟩, _, rfl, DT.nl (hnl _ (.inl rfl)) r7⟩
        · exact ⟨.some c, ⟨hc.all, by show c.dep + 1 ≤ 3; omega, h2⟩, _, rfl, DT.nl (hnl _ (.inr rfl)) r7⟩
      obtain ⟨e2, ee2, r7''⟩ := r7'
      have S7 := (S6.mono oq w7q).putD (i := 6) r7''
      have bx7 := w7.2 bx6
      have hq7 : H7 q = some (.lst xs) := w7.1.lst hqb hq6
      have rx7 := DTs.mono oq w7q rx6
      have k7 : Kp (fun c => c = q ∨ c = b) H1 H7 := k6.trans (w7.1.mono fun _ z => .inr z)
      refine s_ifSetZ oq (i := 6) (P := fun v H' => Dw (Wb K (Lp L q) b a zs) H' v c.d) (t_zB (z_eqI oq (z_drawI (.inl hb) bx7 S7 rfl (by decide)) (z_int (P := fun _ => True) (e_int oq) trivial))) (fun H8 w8 => e_ixT oq (i := 1) (ds := [e2, c.d]) (by rw [← ee2]; exact e_var (i := 6) oq (S7.mono oq w8) rfl) (e_int oq) rfl) fun σ8 H8 w8 hz => ?_
      obtain ⟨c3, hc3, S8⟩ : ∃ c3 : Ch, ChOk ps.length 3 4 c3 ∧ Sl (Wb K (Lp L q) b a zs) H8 σ8 [.va (.ref b), .da (.int 3), .da (.int n), .va (.ref q), .da (.int (i : Int)), .da (.str (dirS ac)), .da c3.d] := by
        rcases hz with ⟨v, rv, rfl⟩ | rfl
        · exact ⟨c, hc.up (by omega) (Nat.le_refl _), (S7.mono oq w8).putD (i := 6) rv⟩
        · exact ⟨c2, hc2, S7.mono oq w8⟩
      have k8 : Kp (fun c => c = q ∨ c = b) H1 H8 := k7.trans (w8.1.mono fun _ z => .inr z)
      have bx8 := w8.2 bx7
      have un8 := k8.un un1
      refine app (Z := fun d => ∃ p : Pt, StripOk ps.length p ∧ d = p.d) k8 bx8 S8 rfl (w8.1.lst hqb hq7) (DTs.mono oq w8 rx7) (by omega) (z_imp (z_tup oq (az_cons oq (z_eq (e_var oq S8 rfl)) (az_cons oq (z_eq (e_nameI oq (x := "s") (n := i) (by decide) (e_var oq S8 rfl) (by omega))) (az_cons oq (z_ixL oq (Z := zS fun _ => True) (e_lst oq un8 (a_cons oq (e_str oq) (a_cons oq (e_str oq) (a_cons oq (e_str oq) (a_nil oq))))) (z_drawI (.inl hb) bx8 S8 rfl (by decide)) (fun e he => by
        simp only [List.mem_cons, List.not_mem_nil, or_false] at he
        rcases he with rfl | rfl | rfl <;> exact ⟨_, rfl, trivial⟩)) (az_cons oq (z_eq (e_var oq S8 rfl)) (az_nil oq))))) (fun ds hz => ?_)) fun d hz => ?_) fun H9 xs' p k9 bx9 S9 hq9 rx9 hz => ?_
      · obtain ⟨_, _, rfl, _, _, _, rfl, _, _, _, rfl, _, _, _, rfl, _, rfl⟩ := hz
        show 4 ≤ 1000
        decide
      · obtain ⟨_, rfl, _, _, rfl, rfl, _, _, rfl, rfl, _, _, rfl, ⟨lb, rfl, _⟩, _, _, rfl, rfl, rfl⟩ := hz
        exact ⟨.strip ac _ lb c3, rfl, .strip ac _ lb c3, ⟨_, _, _, _, rfl, hc3⟩, rfl⟩
      · obtain ⟨p', hp', e⟩ := hz
        refine ⟨k9, bx9, _, _, _, xs', ps ++ [p'], S9, hq9, ?_, by rw [List.length_append]; simp; omega, to4.snoc ⟨fun h => by omega, fun _ => hp'⟩⟩
        rw [List.map_append] at rx9 ⊢
        show DTs K (Lp L q) H9 xs' (ps.map Pt.d ++ [p'.d])
        rw [← e]
        exact rx9
    · have hl4' : ps.length = m + n := hl4
      refine s_ret oq (e_tupO oq (ds := ps.map Pt.d) (e_val oq S4 rfl) (fun H' w' => w'.1.lst hqb hq4) rx4) fun v5 H5 w5 r5 => ?_
      exact k v5 H5 _ ⟨ps, m, ⟨by omega, by omega, by omega, by omega, to4⟩, rfl⟩ (kend (k4.trans (w5.1.mono fun _ z => .inr z))) (w5.2 bx4) (DT.less (fun c z => .inl z) r5)
end
end SR

/-! Cnt: how many readings, as plain Lean. -/
namespace SR
open PySem PySem.Spec PyProof.Rows L2
/-- by one move -/
def stepN (f : Rg → Nat) (g : Nat → Int → Nat) (p : Pt) (r : Rg) (F back : Nat) (s : Int) (m : Mv) : Nat :=
  if m.o = s then ((m.sizes back).map fun z => g (back - z.toNat) m.t * f (p.piece r ((F : Int) - back) m.p z)).sum else 0
def baseN (M : Mch) (back : Nat) (s : Int) : Nat := if decide (back = 0) && M.ends.getD s.toNat false then 1 else 0
def cntS (f : Rg → Nat) (p : Pt) (M : Mch) (r : Rg) (F : Nat) : Nat → Nat → Int → Nat
  | 0, _, _ => 0
  | n + 1, back, s => baseN M back s + (M.moves.map (stepN f (cntS f p M r F n) p r F back s)).sum
def spC (f : Rg → Nat) (p : Pt) (M : Mch) (r : Rg) (F back : Nat) (s : Int) : Nat := cntS f p M r F (back + 1) back s
theorem mem_sizes {m : Mv} {left z : Int} (h : z ∈ m.sizes left) : m.l ≤ z ∧ z ≤ m.m ∧ z ≤ left := by
  unfold Mv.sizes at h
  obtain ⟨k, hk, rfl⟩ := List.mem_map.mp h
  have := List.mem_range.mp hk
  omega
theorem stepN_congr {f f' : Rg → Nat} {g g' : Nat → Int → Nat} {p : Pt} {r : Rg} {F back : Nat} {s : Int} {m : Mv} (h1 : 1 ≤ m.l) (hg : ∀ z : Int, 1 ≤ z → z ≤ back → g (back - z.toNat) m.t = g' (back - z.toNat) m.t)
    (hf : ∀ (o z : Int), f (p.piece r o m.p z) = f' (p.piece r o m.p z)) : stepN f g p r F back s m = stepN f' g' p r F back s m := by
  unfold stepN
  split
  · congr 1
    refine List.map_congr_left fun z hz => ?_
    obtain ⟨a, b, c⟩ := mem_sizes hz
    rw [hg z (by omega) c, hf]
  · rfl
theorem cntS_fuel {f f' : Rg → Nat} {p : Pt} {M : Mch} {r : Rg} {F : Nat} (gm : Mvs M.moves) (hf : ∀ m ∈ M.moves, ∀ (o z : Int), f (p.piece r o m.p z) = f' (p.piece r o m.p z)) :
    ∀ (n n' back : Nat) (s : Int), back < n → back < n' → cntS f p M r F n back s = cntS f' p M r F n' back s
  | 0, _, _, _, h, _ => absurd h (by omega)
  | _ + 1, 0, _, _, _, h => absurd h (by omega)
  | n + 1, n' + 1, back, s, h, h' => by
    unfold cntS
    congr 2
    refine List.map_congr_left fun m hm => stepN_congr (gm.g m hm).1 (fun z h1 h2 => ?_) (hf m hm)
    exact cntS_fuel gm hf n n' _ _ (by omega) (by omega)
theorem spC_eq {f : Rg → Nat} {p : Pt} {M : Mch} {r : Rg} {F : Nat} (gm : Mvs M.moves) (back : Nat) (s : Int) : spC f p M r F back s = baseN M back s + (M.moves.map (stepN f (spC f p M r F) p r F back s)).sum := by
  unfold spC
  rw [cntS]
  congr 2
  refine List.map_congr_left fun m hm => stepN_congr (gm.g m hm).1 (fun z h1 h2 => ?_) fun _ _ => rfl
  exact cntS_fuel gm (fun _ _ _ _ => rfl) _ _ _ _ (by omega) (by omega)
def cntR (ps : List Pt) (ms : List (Option Mch)) : Nat → Rg → Nat
  | 0, _ => 0
  | n + 1, r => match ps[r.p.toNat]? with
    | none => 0
    | some p => match ms[r.p.toNat]? with
      | some (some M) => spC (cntR ps ms n) p M r (p.ext r).toNat (p.ext r).toNat 0
      | _ => if p.fits r then 1 else 0
def cN (ps : List Pt) (ms : List (Option Mch)) (r : Rg) : Nat := cntR ps ms (r.p.toNat + 1) r
theorem Gram.mch {ps : List Pt} {ms : List (Option Mch)} (G : Gram ps ms) {i : Nat} {p : Pt} {M : Mch} (hp : ps[i]? = some p) (hM : ms[i]? = some (some M)) : p.isStrip = true ∧ Mvs M.moves ∧ 1 ≤ M.ends.length ∧ M.ends.length ≤ 5 ∧ ∀ m ∈ M.moves, 0 ≤ m.p ∧ m.p < (i : Int) ∧ 0 ≤ m.o ∧ m.o < (M.ends.length : Int) ∧ m.t < (M.ends.length : Int) ∧ 0 ≤ m.c ∧ m.c ≤ 2 := by
  have hs : p.isStrip = true := by
    cases e : p.isStrip with
    | true => rfl
    | false =>
      have := (G.leaf _ p hp e).1
      rw [hM] at this
      cases this
  obtain ⟨M', hM', gm⟩ := G.strip _ p hp hs
  rw [hM] at hM'
  cases hM'
  exact ⟨hs, gm⟩
theorem piece_p (p : Pt) (r : Rg) (o n z : Int) : (p.piece r o n z).p = n := by
  unfold Pt.piece
  split <;> rfl
theorem cntR_fuel {ps : List Pt} {ms : List (Option Mch)} (G : Gram ps ms) : ∀ (n n' : Nat) (r : Rg), r.p.toNat < n → r.p.toNat < n' → cntR ps ms n r = cntR ps ms n' r
  | 0, _, _, h, _ => absurd h (by omega)
  | _ + 1, 0, _, _, h => absurd h (by omega)
  | n + 1, n' + 1, r, h, h' => by
    unfold cntR
    cases hp : ps[r.p.toNat]? with
    | none => rfl
    | some p =>
      cases hM : ms[r.p.toNat]? with
      | none => rfl
      | some oM =>
        cases oM with
        | none => rfl
        | some M =>
          obtain ⟨_, gm, _, _, gg⟩ := G.mch hp hM
          show spC _ _ _ _ _ _ _ = spC _ _ _ _ _ _ _
          unfold spC
          refine cntS_fuel gm (fun m hm o z => ?_) _ _ _ _ (by omega) (by omega)
          obtain ⟨q0, q1, _⟩ := gg m hm
          exact cntR_fuel G n n' _ (by rw [piece_p]; omega) (by rw [piece_p]; omega)
/-- the spots' numbers of a region -/
def spN' (ps : List Pt) (ms : List (Option Mch)) (p : Pt) (M : Mch) (r : Rg) (back : Nat) (s : Int) : Nat := spC (cN ps ms) p M r (p.ext r).toNat back s
theorem cN_strip {ps : List Pt} {ms : List (Option Mch)} (G : Gram ps ms) {r : Rg} {p : Pt} {M : Mch} (hp : ps[r.p.toNat]? = some p) (hM : ms[r.p.toNat]? = some (some M)) : cN ps ms r = spN' ps ms p M r (p.ext r).toNat 0 := by
  obtain ⟨_, gm, _, _, gg⟩ := G.mch hp hM
  unfold cN spN'
  rw [cntR, hp, hM]
  show spC _ _ _ _ _ _ _ = spC _ _ _ _ _ _ _
  unfold spC
  refine cntS_fuel gm (fun m hm o z => ?_) _ _ _ _ (by omega) (by omega)
  obtain ⟨q0, q1, _⟩ := gg m hm
  exact cntR_fuel G _ _ _ (by rw [piece_p]; omega) (by omega)
theorem cN_leaf {ps : List Pt} {ms : List (Option Mch)} (G : Gram ps ms) {r : Rg} {p : Pt} (hp : ps[r.p.toNat]? = some p) (hs : p.isStrip = false) : cN ps ms r = if p.fits r then 1 else 0 := by
  unfold cN
  rw [cntR, hp, (G.leaf _ p hp hs).1]
/-! ### bounds -/
theorem sum_le' {α : Type} (f : α → Nat) (n : Nat) : ∀ l : List α, (∀ x ∈ l, f x ≤ n) → (l.map f).sum ≤ l.length * n
  | [], _ => by simp
  | x :: l, h => by
    rw [List.map_cons, List.sum_cons, List.length_cons, Nat.add_mul, Nat.one_mul]
    have h1 := h x List.mem_cons_self
    have h2 := sum_le' f n l fun y hy => h y (List.mem_cons_of_mem _ hy)
    omega
theorem cntS_le {f : Rg → Nat} {e : Nat} {p : Pt} {M : Mch} {r : Rg} {F : Nat} (gm : Mvs M.moves) (hf : ∀ m ∈ M.moves, ∀ o z : Int, z ≤ 6 → f (p.piece r o m.p z) ≤ 2 ^ e) : ∀ (n back : Nat) (s : Int), back ≤ 6 → cntS f p M r F n back s ≤ 2 ^ ((e + 12) * back)
  | 0, _, _, _ => Nat.zero_le _
  | n + 1, back, s, h6 => by
    unfold cntS
    have hb : baseN M back s ≤ if back = 0 then 1 else 0 := by
      unfold baseN
      by_cases h : back = 0
      · rw [if_pos h]; split <;> omega
      · rw [if_neg h, decide_eq_false h, Bool.false_and, if_neg Bool.false_ne_true]
        exact Nat.le_refl _
    cases back with
    | zero =>
      rw [if_pos rfl] at hb
      have hz : (M.moves.map (stepN f (cntS f p M r F n) p r F 0 s)).sum ≤ M.moves.length * 0 := sum_le' _ _ _ fun m hm => by
        unfold stepN
        split
        · have : m.sizes (0 : Nat) = [] := by
            cases e : m.sizes (0 : Nat) with
            | nil => rfl
            | cons z l =>
              have := mem_sizes (e ▸ List.mem_cons_self : z ∈ m.sizes (0 : Nat))
              have := (gm.g m hm).1
              omega
          rw [this]
          exact Nat.le_refl _
        · exact Nat.le_refl _
      rw [Nat.mul_zero] at hz ⊢
      rw [Nat.pow_zero]
      omega
    | succ back =>
      rw [if_neg (by omega)] at hb
      have hs : (M.moves.map (stepN f (cntS f p M r F n) p r F (back + 1) s)).sum ≤ M.moves.length * (4 * (2 ^ ((e + 12) * back) * 2 ^ e)) := sum_le' _ _ _ fun m hm => by
        unfold stepN
        split
        · refine Nat.le_trans (sum_le' _ (2 ^ ((e + 12) * back) * 2 ^ e) _ fun z hz => ?_) (Nat.mul_le_mul_right _ (sizes_len (gm.g m hm).1 (gm.g m hm).2.2))
          obtain ⟨a, b, c⟩ := mem_sizes hz
          have h1 := (gm.g m hm).1
          refine Nat.mul_le_mul (Nat.le_trans (cntS_le gm hf n _ _ (by omega)) (Nat.pow_le_pow_right (by decide) (Nat.mul_le_mul_left _ (by omega)))) (hf m hm _ _ (by omega))
        · exact Nat.zero_le _
      have hn := gm.n
      have h3 : M.moves.length * (4 * (2 ^ ((e + 12) * back) * 2 ^ e)) ≤ 2 ^ 12 * (2 ^ ((e + 12) * back) * 2 ^ e) := by
        rw [← Nat.mul_assoc]
        exact Nat.mul_le_mul_right _ (by omega)
      have h4 : 2 ^ 12 * (2 ^ ((e + 12) * back) * 2 ^ e) = 2 ^ ((e + 12) * (back + 1)) := by
        rw [← Nat.pow_add, ← Nat.pow_add, Nat.mul_add, Nat.mul_one]
        congr 1
        omega
      omega
def expN : Nat → Nat
  | 0 => 0
  | n + 1 => (expN n + 12) * 6
def Sm (r : Rg) : Prop := r.w ≤ 6 ∧ r.h ≤ 6
theorem Sm.ext {r : Rg} (h : Sm r) (p : Pt) : p.ext r ≤ 6 := by
  obtain ⟨a, b⟩ := h
  unfold Pt.ext
  split <;> assumption
theorem Sm.piece {r : Rg} (h : Sm r) (p : Pt) (o q : Int) {z : Int} (hz : z ≤ 6) : Sm (p.piece r o q z) := by
  obtain ⟨a, b⟩ := h
  unfold Pt.piece
  split
  · exact ⟨hz, b⟩
  · exact ⟨a, hz⟩
theorem cntR_le {ps : List Pt} {ms : List (Option Mch)} (G : Gram ps ms) : ∀ (n : Nat) (r : Rg), Sm r → cntR ps ms n r ≤ 2 ^ expN n
  | 0, _, _ => Nat.zero_le _
  | n + 1, r, h => by
    unfold cntR
    have h1 : 1 ≤ 2 ^ expN (n + 1) := Nat.one_le_two_pow
    cases hp : ps[r.p.toNat]? with
    | none => exact Nat.zero_le _
    | some p =>
      cases hM : ms[r.p.toNat]? with
      | none =>
        show (if p.fits r then 1 else 0) ≤ _
        split <;> omega
      | some oM =>
        cases oM with
        | none =>
          show (if p.fits r then 1 else 0) ≤ _
          split <;> omega
        | some M =>
          obtain ⟨_, gm, _⟩ := G.mch hp hM
          have hx := h.ext p
          show spC _ _ _ _ _ _ _ ≤ _
          unfold spC
          exact Nat.le_trans (cntS_le gm (fun m _ o z hz => cntR_le G n _ (h.piece p o m.p hz)) _ _ _ (by omega)) (Nat.pow_le_pow_right (by decide) (Nat.mul_le_mul_left _ (by omega)))
theorem cN_le {ps : List Pt} {ms : List (Option Mch)} (G : Gram ps ms) {r : Rg} (h : Sm r) {n : Nat} (hn : r.p.toNat < n) : cN ps ms r ≤ 2 ^ expN n := by
  unfold cN
  rw [cntR_fuel G _ n r (by omega) hn]
  exact cntR_le G n r h
theorem expN5 : expN 5 = 111960 := rfl
theorem spN'_le {ps : List Pt} {ms : List (Option Mch)} (G : Gram ps ms) {r : Rg} (h : Sm r) {p : Pt} {M : Mch} (hp : ps[r.p.toNat]? = some p) (hM : ms[r.p.toNat]? = some (some M)) {back : Nat} {s : Int} (hb : back ≤ 6) : spN' ps ms p M r back s ≤ 2 ^ 671832 := by
  obtain ⟨_, gm, _, _, gg⟩ := G.mch hp hM
  have hl := (List.getElem?_eq_some_iff.mp hp).1
  have := G.few
  unfold spN' spC
  refine Nat.le_trans (cntS_le (e := 111960) gm (fun m hm o z hz => ?_) _ _ _ hb) (Nat.pow_le_pow_right (by decide) (by omega))
  obtain ⟨q0, q1, _⟩ := gg m hm
  rw [← expN5]
  exact cN_le G (h.piece p o m.p hz) (by rw [piece_p]; omega)
theorem log2_le {n k : Nat} (h : n ≤ 2 ^ k) : n.log2 ≤ k := by
  by_cases h0 : n = 0
  · subst h0; exact Nat.zero_le _
  · have : n.log2 < k + 1 := (Nat.log2_lt h0).mpr (Nat.lt_of_le_of_lt h (Nat.pow_lt_pow_right (by decide) (by omega)))
    omega
end SR

namespace SR
open PySem PySem.Spec PyProof.Rows L2
/-- what a region's dict holds -/
structure SpOk (ps : List Pt) (ms : List (Option Mch)) (r : Rg) (sk : List (List L2.Key × V)) : Prop where
  spot : ∀ p M, ps[r.p.toNat]? = some p → ms[r.p.toNat]? = some (some M) → ∀ (s : Int) (o : Nat), 0 ≤ s → s < M.ends.length → (o : Int) ≤ p.ext r → valV sk (iks [s, (o : Nat)]) = some (.int (spN' ps ms p M r ((p.ext r).toNat - o) s : Nat))
  zero : valV sk (iks [0, 0]) = some (.int (cN ps ms r : Nat))
def TabC (ps : List Pt) (ms : List (Option Mch)) (R0 : Rg) (L : Addr → Prop) (H : Hp) (t : Addr) : Prop := ∃ kvs, H t = some (.dT kvs) ∧ (kvs.map (·.1)).Nodup ∧ ∀ e ∈ kvs, ∃ r d sk, e.1 = iks r.ns ∧ e.2 = .ref d ∧ Ins ps R0 r ∧ ¬ L d ∧ H d = some (.dT sk) ∧ SpOk ps ms r sk
def HasR (H : Hp) (t : Addr) (r : Rg) : Prop := ∃ kvs v, H t = some (.dT kvs) ∧ valV kvs (iks r.ns) = some v
theorem TabC.keep {ps : List Pt} {ms : List (Option Mch)} {R0 : Rg} {L M : Addr → Prop} {H H' : Hp} {t : Addr} (h : TabC ps ms R0 L H t) (k : Kp M H H') (hM : ∀ c, M c → L c) (ht : ¬ M t) : TabC ps ms R0 L H' t := by
  obtain ⟨kvs, h1, h2, h3⟩ := h
  refine ⟨kvs, k.dT ht h1, h2, fun e he => ?_⟩
  obtain ⟨r, d, sk, a1, a2, a3, a4, a5, a6⟩ := h3 e he
  exact ⟨r, d, sk, a1, a2, a3, a4, k.dT (fun z => a4 (hM d z)) a5, a6⟩
theorem TabC.own {ps : List Pt} {ms : List (Option Mch)} {R0 : Rg} {L : Addr → Prop} {H : Hp} {t q : Addr} (h : TabC ps ms R0 L H t) (hq : H q = none) (u : HO) : TabC ps ms R0 (Lp L q) (upd H q u) t := by
  obtain ⟨kvs, h1, h2, h3⟩ := h
  refine ⟨kvs, by rw [upd_ne (ne_of_none h1 hq)]; exact h1, h2, fun e he => ?_⟩
  obtain ⟨r, d, sk, a1, a2, a3, a4, a5, a6⟩ := h3 e he
  have := ne_of_none a5 hq
  exact ⟨r, d, sk, a1, a2, a3, fun z => z.elim a4 this, by rw [upd_ne this]; exact a5, a6⟩
theorem TabC.less {ps : List Pt} {ms : List (Option Mch)} {R0 : Rg} {L N : Addr → Prop} {H : Hp} {t : Addr} (h : TabC ps ms R0 L H t) (hN : ∀ c, N c → L c) : TabC ps ms R0 N H t := by
  obtain ⟨kvs, h1, h2, h3⟩ := h
  refine ⟨kvs, h1, h2, fun e he => ?_⟩
  obtain ⟨r, d, sk, a1, a2, a3, a4, a5, a6⟩ := h3 e he
  exact ⟨r, d, sk, a1, a2, a3, fun z => a4 (hN d z), a5, a6⟩
theorem valV_mem {kvs : List (List L2.Key × V)} {k : List L2.Key} {v : V} (h : valV kvs k = some v) : (k, v) ∈ kvs := by
  unfold valV at h
  obtain ⟨e, he, rfl⟩ := Option.map_eq_some_iff.mp h
  have h1 := List.find?_some he
  have h2 := List.mem_of_find?_eq_some he
  have : e.1 = k := of_decide_eq_true h1
  rw [← this]
  exact h2
/-- what a region that is there has -/
theorem TabC.get {ps : List Pt} {ms : List (Option Mch)} {R0 : Rg} {L : Addr → Prop} {H : Hp} {t : Addr} (h : TabC ps ms R0 L H t) {r : Rg} (hr : HasR H t r) : ∃ kvs d sk, H t = some (.dT kvs) ∧ valV kvs (iks r.ns) = some (.ref d) ∧ ¬ L d ∧ H d = some (.dT sk) ∧ SpOk ps ms r sk := by
  obtain ⟨kvs, h1, h2, h3⟩ := h
  obtain ⟨kvs', v, g1, g2⟩ := hr
  rw [h1] at g1
  cases g1
  obtain ⟨r', d, sk, a1, a2, a3, a4, a5, a6⟩ := h3 _ (valV_mem g2)
  cases Rg.ns_inj (iks_inj a1)
  exact ⟨kvs, d, sk, h1, by rw [g2]; exact congrArg some a2, a4, a5, a6⟩
theorem TabC.len {ps : List Pt} {ms : List (Option Mch)} {R0 : Rg} {L : Addr → Prop} {H : Hp} {t : Addr} (G : Gram ps ms) (g : Page ps R0) (h : TabC ps ms R0 L H t) {kvs : List (List L2.Key × V)} (ht : H t = some (.dT kvs)) : kvs.length ≤ 6000 := by
  obtain ⟨kvs', h1, h2, h3⟩ := h
  rw [ht] at h1
  cases h1
  have := nodup_sub_len (kvs.map (·.1)) ((allIn ps R0).map fun r => iks r.ns) h2 fun k hk => by
    obtain ⟨e, he, rfl⟩ := List.mem_map.mp hk
    obtain ⟨r, d, sk, a1, a2, a3, _⟩ := h3 e he
    rw [a1]
    exact List.mem_map.mpr ⟨r, a3.all g, rfl⟩
  rw [List.length_map, List.length_map] at this
  exact Nat.le_trans this (allIn_len G R0)
theorem nodup_put {kvs : List (List L2.Key × V)} {k : List L2.Key} {v : V} (h : (kvs.map (·.1)).Nodup) : ((putK kvs k v).map (·.1)).Nodup := by
  unfold putK
  split
  · rw [List.map_map]
    have : ((·.1) ∘ fun kv : List L2.Key × V => if kv.1 = k then (kv.1, v) else kv) = (·.1) := by
      funext kv
      show (if kv.1 = k then (kv.1, v) else kv).1 = kv.1
      split <;> rfl
    rw [this]
    exact h
  · rename_i hn
    rw [List.map_append, List.nodup_append]
    refine ⟨h, by simp, fun a ha b hb e => hn ?_⟩
    subst e
    obtain ⟨e, he, rfl⟩ := List.mem_map.mp ha
    simp only [List.map_cons, List.map_nil, List.mem_singleton] at hb
    exact List.any_eq_true.mpr ⟨e, he, decide_eq_true hb⟩
theorem mem_put {kvs : List (List L2.Key × V)} {k : List L2.Key} {v : V} {e : List L2.Key × V} (h : e ∈ putK kvs k v) : e ∈ kvs ∨ e = (k, v) := by
  unfold putK at h
  split at h
  · obtain ⟨x, hx, rfl⟩ := List.mem_map.mp h
    by_cases c : x.1 = k
    · rw [if_pos c, c]; exact .inr rfl
    · rw [if_neg c]; exact .inl hx
  · rcases List.mem_append.mp h with h | h
    · exact .inl h
    · exact .inr (List.mem_singleton.mp h)
/-- a region is put in -/
theorem TabC.put {ps : List Pt} {ms : List (Option Mch)} {R0 : Rg} {L : Addr → Prop} {H : Hp} {t d : Addr} {kvs sk : List (List L2.Key × V)} {r : Rg} (h : TabC ps ms R0 L H t) (ht : H t = some (.dT kvs)) (hL : L t) (hi : Ins ps R0 r) (hd : H d = some (.dT sk)) (hdL : ¬ L d) (ok : SpOk ps ms r sk) :
    TabC ps ms R0 L (upd H t (.dT (putK kvs (iks r.ns) (.ref d)))) t ∧ (∀ r', HasR H t r' → HasR (upd H t (.dT (putK kvs (iks r.ns) (.ref d)))) t r') ∧ HasR (upd H t (.dT (putK kvs (iks r.ns) (.ref d)))) t r := by
  obtain ⟨kvs', h1, h2, h3⟩ := h
  rw [ht] at h1
  cases h1
  refine ⟨⟨_, upd_same, nodup_put h2, fun e he => ?_⟩, fun r' ⟨kvs', v, g1, g2⟩ => ⟨_, if iks r'.ns = iks r.ns then .ref d else v, upd_same, ?_⟩, ⟨_, _, upd_same, valV_put_same _ _ _⟩⟩
  · rcases mem_put he with he | rfl
    · obtain ⟨r1, d1, sk1, a1, a2, a3, a4, a5, a6⟩ := h3 e he
      exact ⟨r1, d1, sk1, a1, a2, a3, a4, by rw [upd_ne (show d1 ≠ t from fun z => a4 (by rw [z]; exact hL))]; exact a5, a6⟩
    · exact ⟨r, d, sk, rfl, rfl, hi, hdL, by rw [upd_ne (show d ≠ t from fun z => hdL (by rw [z]; exact hL))]; exact hd, ok⟩
  · rw [ht] at g1
    cases g1
    rw [valV_put]
    by_cases c : iks r'.ns = iks r.ns
    · rw [if_pos c, if_pos c]
    · rw [if_neg c, if_neg c, g2]
/-- the world in which the table grows -/
def TabW (ps : List Pt) (ms : List (Option Mch)) (R0 : Rg) (L : Addr → Prop) (t : Addr) (H H' : Hp) : Prop := TabC ps ms R0 L H t → TabC ps ms R0 L H' t ∧ ∀ r, HasR H t r → HasR H' t r
abbrev Wt (K : PySem.W.Frag) (L : Addr → Prop) (t : Addr) (ps : List Pt) (ms : List (Option Mch)) (R0 : Rg) : Wd := ⟨K, L, fun H H' => Kp (· = t) H H' ∧ TabW ps ms R0 L t H H'⟩
theorem HasR.keep {H H' : Hp} {t : Addr} {r : Rg} {M : Addr → Prop} (h : HasR H t r) (k : Kp M H H') (ht : ¬ M t) : HasR H' t r := let ⟨kvs, v, a, b⟩ := h; ⟨kvs, v, k.dT ht a, b⟩
theorem wt (K : PySem.W.Frag) {L : Addr → Prop} {t : Addr} {ps : List Pt} {ms : List (Option Mch)} {R0 : Rg} (ht : L t) : (Wt K L t ps ms R0).Ok :=
  ⟨fun H => ⟨Kp.refl _ H, fun h => ⟨h, fun _ h => h⟩⟩, fun x y => ⟨x.1.trans y.1, fun h => ⟨(y.2 (x.2 h).1).1, fun r hr => (y.2 (x.2 h).1).2 r ((x.2 h).2 r hr)⟩⟩, fun x => x.1.mono fun c e => e ▸ ht,
    fun k => ⟨k.mono fun _ z => z.elim, fun h => ⟨h.keep k (fun _ z => z.elim) (fun z => z.elim), fun r hr => hr.keep k (fun z => z.elim)⟩⟩⟩
theorem e_lift0 {C : Wd} (o : C.Ok) {te : TE} {σ : L2.St} {H : Hp} {P : V → Hp → Prop} (h : ∀ H1, C.W H H1 → EvP (W0 C.K C.L) te σ H1 P) : EvP C te σ H P := fun H1 w Q q => h H1 w H1 (Kp.refl _ _) Q fun v H2 k p => q v H2 (o.of0 k) p
/-- d[k] = e, where e writes too -/
theorem s_dputW {C : Wd} (o : C.Ok) {H : Hp} {σ : L2.St} {td ty tv : TE} {p : Addr} {ns : List Int} {nx bk ct : L2.St → Hp → Prop} {rt : VK} {P : V → Hp → Prop} (hv : EvP C tv σ H P) (hd : ∀ H', C.W H H' → Ee (W0 C.K C.L) td σ H' (.ref p)) (hk : ∀ H', C.W H H' → Ed (W0 C.K C.L) ty σ H' (.tuple (ns.map .int)))
    (hP : ∀ v H1 H2, Kp No H1 H2 → P v H1 → P v H2) (q : ∀ v H', C.W H H' → P v H' → ∃ kvs, H' p = some (.dT kvs) ∧ kvs.length < sizeLine ∧ nx σ (upd H' p (.dT (putK kvs (iks ns) v)))) : sDPut td ty tv ⟨nx, rt, bk, ct⟩ σ H :=
  hv H (o.refl _) _ fun v H1 w1 r1 => hd H1 w1 H1 (Kp.refl _ _) _ fun x H2 w2 e => hk H2 (o.trans w1 (o.of0 w2)) H2 (Kp.refl _ _) _ fun y H3 w3 r3 => by
    subst e
    obtain ⟨b, rfl, hb⟩ := r3.keyI
    obtain ⟨kvs, a1, a2, a3⟩ := q v H3 (o.trans w1 (o.of0 (Kp.trans w2 w3))) (hP _ _ _ (Kp.trans w2 w3) r1)
    exact ⟨p, _, rfl, DPut.t a1 hb a2, a3⟩
/-- {k: e}, a new dict tracked -/
theorem e_disp1 {K : PySem.W.Frag} {L : Addr → Prop} {H : Hp} {σ : L2.St} {tk tv : TE} {ns : List Int} {u : V} (hk : Ed (W0 K L) tk σ H (.tuple (ns.map .int))) (hv : Ee (W0 K L) tv σ H u) : EvP (W0 K L) (tDisp1 tk tv) σ H fun v H' => ∃ q, v = .ref q ∧ H q = none ∧ H' q = some (.dT [(iks ns, u)]) := fun H1 w Q q p hp =>
  hk _ (w.trans (Kp.new hp)) _ fun x H2 w2 r2 => hv H2 ((w.trans (Kp.new hp)).trans w2) _ fun y H3 w3 e => by
    subst e
    obtain ⟨b, rfl, hb⟩ := r2.keyI
    have h3 : H3 p = some (.dT []) := (w2.trans w3).dT (fun z => z.elim) upd_same
    have hb3 := w3.tup _ _ hb
    refine ⟨h3, _, b, rfl, hb3, q _ _ ?_ ⟨p, rfl, w.free hp, upd_same⟩⟩
    exact (Kp.new (L := No) (o := .dT []) hp).hide (((w2.trans w3).mono (M := (· = p)) fun _ z => z.elim).trans ((Kp.refl _ _).put (.inr rfl) (by rw [h3]; trivial))) fun c e => .inl (e ▸ hp)
theorem Ins.piece {ps : List Pt} {ms : List (Option Mch)} {R0 r : Rg} {p : Pt} {M : Mch} {m : Mv} (G : Gram ps ms) (h : Ins ps R0 r) (hp : ps[r.p.toNat]? = some p) (hM : ms[r.p.toNat]? = some (some M)) (hm : m ∈ M.moves) {o z : Int} (ho : 0 ≤ o) (hz : 1 ≤ z) (hz2 : o + z ≤ p.ext r) : Ins ps R0 (p.piece r o m.p z) := by
  obtain ⟨_, _, _, _, gg⟩ := G.mch hp hM
  obtain ⟨q0, q1, _⟩ := gg m hm
  have hl := (List.getElem?_eq_some_iff.mp hp).1
  have a0 := h.p0; have a2 := h.x0; have a3 := h.x1; have a4 := h.y0; have a5 := h.y1; have a6 := h.w0; have a7 := h.h0
  unfold Pt.ext at hz2
  unfold Pt.piece
  split
  · rename_i hc
    rw [if_pos hc] at hz2
    exact ⟨by show 0 ≤ m.p; omega, by show m.p < _; omega, by show R0.x ≤ r.x + o; omega, by show r.x + o + z ≤ _; omega, a4, a5, hz, a7⟩
  · rename_i hc
    rw [if_neg hc] at hz2
    exact ⟨by show 0 ≤ m.p; omega, by show m.p < _; omega, a2, a3, by show R0.y ≤ r.y + o; omega, by show r.y + o + z ≤ _; omega, a6, hz⟩
theorem Ins.sm {ps : List Pt} {R0 r : Rg} (g : Page ps R0) (h : Ins ps R0 r) : Sm r := by
  have := g.w; have := g.h; have a2 := h.x0; have a3 := h.x1; have a4 := h.y0; have a5 := h.y1
  exact ⟨by omega, by omega⟩
theorem Sl.arg0 {C : Wd} {H : Hp} {σ : L2.St} {ρ : List Ds} {i : Nat} {d : PyData} (S : Sl C H σ ρ) (h : ρ[i]? = some (.da d)) : ∃ v, σ[i]? = some (some v) ∧ Dw C H v d := S.da h
section
variable {P : Program} {w : World} {K : PySem.W.Frag} {mg : Str → Option Value} {base : Heap}
/-- what both are told -/
structure CtPre (K : PySem.W.Frag) (L : Addr → Prop) (H : Hp) (t : Addr) (ps : List Pt) (ms : List (Option Mch)) (R0 r : Rg) (v1 v2 v3 : V) (n : Nat) : Prop where
  un : ∀ c, L c → H c ≠ none
  lt : L t
  d1 : DT K L H v1 (pts ps)
  d2 : DT K L H v2 (mcs ms)
  d3 : DT K L H v3 r.d
  tab : TabC ps ms R0 L H t
  G : Gram ps ms
  g : Page ps R0
  ins : Ins ps R0 r
  n : r.p.toNat < n
def spCount (K : PySem.W.Frag) (n : Nat) : Sp := fun vs H Q _ => ∃ (L : Addr → Prop) (t : Addr) (ps : List Pt) (ms : List (Option Mch)) (R0 r : Rg) (v1 v2 v3 : V), vs = [v1, v2, v3, .ref t] ∧ CtPre K L H t ps ms R0 r v1 v2 v3 n ∧
  ∀ H', Kp (· = t) H H' → TabC ps ms R0 L H' t → (∀ r', HasR H t r' → HasR H' t r') → HasR H' t r → Q (.int (cN ps ms r : Nat)) H'
def spSpots (K : PySem.W.Frag) (n : Nat) : Sp := fun vs H Q _ => ∃ (L : Addr → Prop) (t : Addr) (ps : List Pt) (ms : List (Option Mch)) (R0 r : Rg) (v1 v2 v3 : V) (p : Pt) (M : Mch), vs = [v1, v2, v3, .ref t] ∧ CtPre K L H t ps ms R0 r v1 v2 v3 n ∧ ps[r.p.toNat]? = some p ∧ ms[r.p.toNat]? = some (some M) ∧
  ∀ q sk H', Kp (· = t) H H' → TabC ps ms R0 L H' t → (∀ r', HasR H t r' → HasR H' t r') → H q = none → H' q = some (.dT sk) → SpOk ps ms r sk → Q (.ref q) H'
abbrev N__law_count : List Str := ["_law_parts_here", "_law_ways", "_law_region_here", "_law_table"]
abbrev s__law_count : Stmt := top 62
theorem sc__law_count : FnScope ["_law_parts_here", "_law_ways", "_law_region_here", "_law_table"] ["_law_parts_here", "_law_ways", "_law_region_here", "_law_table"] (defScope s__law_count) := ⟨rfl, rfl, rfl, by decide +kernel, rfl, by decide +kernel, by decide +kernel⟩
theorem ok__law_count_step {n lv : Nat} (F : DefA K mg "_law_count" s__law_count) (B : Blt mg) (hlv : 1 ≤ lv) (c__law_strip : C8.Cal P w K mg base 1 "_law_strip" (spD K RisStrip) []) (c__law_fits : C8.Cal P w K mg base 1 "_law_fits" (spD K Rfits) []) (c__law_spots : C8.Cal P w K mg base lv "_law_spots" (spSpots K n) []) : C8.Cal P w K mg base (lv + 1) "_law_count" (spCount K n) [] := by
  refine cal_by F sc__law_count rfl rfl rfl (fun _ _ _ _ _ _ us hl => match us, hl with | [_, _, _, _], _ => rfl) (fun vs H Q E ⟨_, _, _, _, _, _, _, _, _, e, _⟩ => by rw [e]; rfl) fun f cdv A outer s H vs Q E hr h => ?_
  obtain ⟨L, t, ps, ms, R0, r, v1, v2, v3, rfl, cp, k⟩ := h
  have o0 := w0 K L
  have o : (Wt K L t ps ms R0).Ok := wt K cp.lt
  have hu := hu_of hr
  refine ⟨_, (pss_c (ps_if (pt_cmp (pc_dnotin hu (pv 2) (pv 3))) (pss_one (ps_if (pt_val (C8.pe_c c__law_strip hr (by omega) rfl (pa_cons (pe_ix ix_seq (pv 0) (pe_ix ix_seq (pv 2) pe_int (fun _ _ => rfl)) (fun _ _ => rfl)) pa_nil))) (pss_one (ps_dput hu (pv 3) (pv 2) (C8.pe_c c__law_spots hr (by omega) rfl (pa_cons (pv 0) (pa_cons (pv 1) (pa_cons (pv 2) (pa_cons (pv 3) pa_nil))))) rfl)) (pss_one (ps_dput hu (pv 3) (pv 2) (pe_disp1 hu (pe_tup (pa_cons pe_int (pa_cons pe_int pa_nil))) (pe_callTy call_int1 (by rfl) B.int (by decide +kernel) (pa_cons (C8.pe_c c__law_fits hr (by omega) rfl (pa_cons (pe_ix ix_seq (pv 0) (pe_ix ix_seq (pv 2) pe_int (fun _ _ => rfl)) (fun _ _ => rfl)) (pa_cons (pv 2) pa_nil))) pa_nil))) rfl)))) pss_nil)
  (pss_one (ps_ret (pe_dget hu (pe_dget hu (pv 3) (pv 2) (fun _ _ => rfl)) (pe_tup (pa_cons pe_int (pa_cons pe_int pa_nil))) (fun _ _ => rfl))))), ?_⟩
  have S : Sl (W0 K L) H (start N__law_count [v1, v2, v3, .ref t]) [.da (pts ps), .da (mcs ms), .da r.d, .va (.ref t)] := .cons ⟨_, rfl, cp.d1⟩ (.cons ⟨_, rfl, cp.d2⟩ (.cons ⟨_, rfl, cp.d3⟩ (.cons (s := .va _) rfl .nil)))
  have G := cp.G
  have hin := cp.ins
  obtain ⟨p, hp⟩ := hin.part
  have hpd : (ps.map Pt.d)[r.p.toNat]? = some p.d := by rw [List.getElem?_map, hp]; rfl
  obtain ⟨kvs0, ht0, _⟩ := cp.tab
  -- the end: the table has it
  have fin : ∀ {σ H1}, Sl (W0 K L) H1 σ [.da (pts ps), .da (mcs ms), .da r.d, .va (.ref t)] → Kp (· = t) H H1 → TabC ps ms R0 L H1 t → (∀ r', HasR H t r' → HasR H1 t r') → HasR H1 t r → ∀ {nx bk ct}, tRet (tDGet (tDGet (tVar 3) (tVar 2)) (tTup (tCons (tC (.int 0)) (tCons (tC (.int 0)) tNil)))) ⟨nx, Q, bk, ct⟩ σ H1 := fun {σ H1} S1 k1 tb1 hr1 hr {nx bk ct} => by
    obtain ⟨kvs, d, sk, a1, a2, a3, a4, a5⟩ := tb1.get hr
    refine s_ret o0 (e_dget o0 (ns := [0, 0]) (e_dget o0 (ns := r.ns) (e_val o0 S1 rfl) (e_var o0 S1 rfl) (fun H' w' => w'.dT (fun z => z.elim) a1) a2) (e_tup o0 (a_cons o0 (e_int o0) (a_cons o0 (e_int o0) (a_nil o0)))) (fun H' w' => w'.dT (fun z => z.elim) a4) a5.zero) fun v H2 w2 e => ?_
    rw [e]
    exact k H2 (k1.trans (w2.mono fun _ z => z.elim)) (tb1.keep w2 (fun _ z => z.elim) (fun z => z.elim)) (fun r' h => (hr1 r' h).keep w2 (fun z => z.elim)) (hr.keep w2 (fun z => z.elim))
  refine s_if o0 (t_test o0 (e_dnotin o0 (ns := r.ns) (e_val o0 S rfl) (e_var o0 S rfl) fun H' w' => w'.dT (fun z => z.elim) ht0)) (fun c H1 w1 => ?_) (fun c H1 w1 => ?_)
  · have S1 := S.mono o0 w1
    have tb1 : TabC ps ms R0 L H1 t := cp.tab.keep w1 (fun _ z => z.elim) (fun z => z.elim)
    have hr01 : ∀ r', HasR H t r' → HasR H1 t r' := fun r' h => h.keep w1 (fun z => z.elim)
    have un1 := w1.un cp.un
    -- after the put
    have putd : ∀ {σ H2 d sk}, Sl (W0 K L) H2 σ [.da (pts ps), .da (mcs ms), .da r.d, .va (.ref t)] → Kp (· = t) H H2 → TabC ps ms R0 L H2 t → (∀ r', HasR H t r' → HasR H2 t r') → H2 d = some (.dT sk) → ¬ L d → SpOk ps ms r sk → ∃ kvs, H2 t = some (.dT kvs) ∧ kvs.length < sizeLine ∧ ∀ {nx bk ct}, tRet (tDGet (tDGet (tVar 3) (tVar 2)) (tTup (tCons (tC (.int 0)) (tCons (tC (.int 0)) tNil)))) ⟨nx, Q, bk, ct⟩ σ (upd H2 t (.dT (putK kvs (iks r.ns) (.ref d)))) := fun {σ H2 d sk} S2 k2 tb2 hr2 hd2 hdl hok => by
      have tb2' := tb2
      obtain ⟨kvs, h1, _⟩ := tb2'
      have kp : Kp (· = t) H2 (upd H2 t (.dT (putK kvs (iks r.ns) (.ref d)))) := (Kp.refl _ _).put (.inr rfl) (by rw [h1]; trivial)
      obtain ⟨b1, b2, b3⟩ := tb2.put h1 cp.lt hin hd2 hdl hok
      exact ⟨kvs, h1, lt_size (by have := tb2.len G cp.g h1; omega), fun {nx bk ct} => fin (S2.step (M := (· = t)) (fun c (e : c = t) => e ▸ cp.lt) kp) (k2.trans kp) b1 (fun r' h => b2 r' (hr2 r' h)) b3⟩
    refine s_if o0 (t_B o0 (e_call o0 un1 (a_cons o0 (e_ixTz o0 (ds := ps.map Pt.d) (e_var o0 S1 rfl) (e_rg o0 (r := r) (e_var o0 S1 rfl) 0) hin.p0 hpd) (a_nil o0)) ⟨p, rfl, rfl⟩)) (fun cs H2 w2 => ?_) (fun cs H2 w2 => ?_)
    · obtain ⟨M, hM, _⟩ := G.strip _ p hp cs
      have S2 := S1.mono o0 w2
      have w02 := w1.trans w2
      have tb2 : TabC ps ms R0 L H2 t := tb1.keep w2 (fun _ z => z.elim) (fun z => z.elim)
      have St := S2.cast (C' := Wt K L t ps ms R0) rfl rfl
      have k02 : Kp (· = t) H H2 := w02.mono fun _ z => z.elim
      refine s_dputW o (p := t) (ns := r.ns) (P := fun v H' => ∃ d sk, v = .ref d ∧ H' d = some (.dT sk) ∧ ¬ L d ∧ SpOk ps ms r sk) (fun H3 w3 Q' q' => ?_) (fun H' w' => e_val o0 ((St.mono o w').cast (C' := W0 K L) rfl rfl) rfl) (fun H' w' => e_var o0 ((St.mono o w').cast (C' := W0 K L) rfl rfl) rfl) (fun v Ha Hb kk ⟨d, sk, a1, a2, a3, a4⟩ => ⟨d, sk, a1, kk.dT (fun z => z.elim) a2, a3, a4⟩) fun v H4 w4 ⟨d, sk, a1, a2, a3, a4⟩ => ?_
      · have S3 := (St.mono o w3)
        obtain ⟨x0, y0, s0⟩ := S3.arg0 (i := 0) rfl
        obtain ⟨x1, y1, s1⟩ := S3.arg0 (i := 1) rfl
        obtain ⟨x2, y2, s2⟩ := S3.arg0 (i := 2) rfl
        refine ⟨x0, y0, x1, y1, x2, y2, _, S3.va (i := 3) rfl, ?_⟩
        have t3 := w3.2 tb2
        refine ⟨L, t, ps, ms, R0, r, _, _, _, p, M, rfl, ⟨w3.1.un (w02.un cp.un), cp.lt, s0, s1, s2, t3.1, G, cp.g, hin, cp.n⟩, hp, hM, fun q sk H' k' tb' hr' hn hs' ok' => ?_⟩
        exact q' _ H' ⟨k', fun _ => ⟨tb', hr'⟩⟩ ⟨q, sk, rfl, hs', fun l => w3.1.un (w02.un cp.un) q l hn, ok'⟩
      · subst a1
        obtain ⟨kvs, b1, b2, b3⟩ := putd ((St.mono o w4).cast (C' := W0 K L) rfl rfl) (k02.trans w4.1) (w4.2 tb2).1 (fun r' h => (w4.2 tb2).2 r' ((hr01 r' h).keep w2 (fun z => z.elim))) a2 a3 a4
        exact ⟨kvs, b1, b2, b3⟩
    · obtain ⟨_, lf⟩ := G.leaf _ p hp cs
      have S2 := S1.mono o0 w2
      have w02 := w1.trans w2
      have hok : SpOk ps ms r [(iks [0, 0], .int (if p.fits r then 1 else 0))] := by
        refine ⟨fun p' M hp' hM => ?_, ?_⟩
        · have := (G.mch hp' hM).1
          rw [hp] at hp'
          cases hp'
          rw [cs] at this
          cases this
        · rw [valV_pos (p := (iks [0, 0], V.int (if p.fits r then 1 else 0))) (k := iks [0, 0]) rfl, cN_leaf G hp cs]
          cases p.fits r <;> rfl
      refine s_dputW o0 (p := t) (ns := r.ns) (P := fun v H' => ∃ d, v = .ref d ∧ H' d = some (.dT [(iks [0, 0], .int (if p.fits r then 1 else 0))]) ∧ ¬ L d) ((e_disp1 (ns := [0, 0]) (u := .int (if p.fits r then 1 else 0)) (e_tup o0 (a_cons o0 (e_int o0) (a_cons o0 (e_int o0) (a_nil o0)))) ((e_intB o0 (e_call o0 (w02.un cp.un) (a_cons o0 (e_ixTz o0 (ds := ps.map Pt.d) (e_var o0 S2 rfl) (e_rg o0 (r := r) (e_var o0 S2 rfl) 0) hin.p0 hpd) (a_cons o0 (e_var o0 S2 rfl) (a_nil o0))) ⟨p, r, lf, rfl, rfl⟩)).imp (fun v H' _ r => r.intI) o0)).imp (fun v H' w' ⟨d, a1, a2, a3⟩ => ⟨d, a1, a3, fun l => (w02.un cp.un) d l a2⟩) o0) (fun H' w' => e_val o0 (S2.mono o0 w') rfl) (fun H' w' => e_var o0 (S2.mono o0 w') rfl) (fun v Ha Hb kk ⟨d, a1, a2, a3⟩ => ⟨d, a1, kk.dT (fun z => z.elim) a2, a3⟩) fun v H4 w4 ⟨d, a1, a2, a3⟩ => ?_
      subst a1
      have w24 := w2.trans w4
      obtain ⟨kvs, b1, b2, b3⟩ := putd (S2.mono o0 w4) ((w02.trans w4).mono fun _ z => z.elim) (tb1.keep w24 (fun _ z => z.elim) (fun z => z.elim)) (fun r' h => (hr01 r' h).keep w24 (fun z => z.elim)) a2 a3 hok
      exact ⟨kvs, b1, b2, b3⟩
  · have S1 := S.mono o0 w1
    have hr : HasR H t r := by
      cases e : valV kvs0 (iks r.ns) with
      | none => rw [e] at c; cases c
      | some v => exact ⟨kvs0, v, ht0, e⟩
    exact fin S1 (w1.mono fun _ z => z.elim) (cp.tab.keep w1 (fun _ z => z.elim) (fun z => z.elim)) (fun r' h => h.keep w1 (fun z => z.elim)) (hr.keep w1 (fun z => z.elim))
end
end SR

namespace SR
open PySem PySem.Spec PyProof.Rows L2
section
variable {K : PySem.W.Frag} {L : Addr → Prop} {H : Hp} {σ : L2.St} {ρ : List Ds} {t : Addr} {ps : List Pt} {ms : List (Option Mch)} {R0 r : Rg} {t1 t2 t3 : TE} {i n : Nat}
/-- count(..) called -/
theorem e_callCt (hL : ∀ c, L c → H c ≠ none) (lt : L t) (tab : TabC ps ms R0 L H t) (G : Gram ps ms) (g : Page ps R0) (hin : Ins ps R0 r) (hn : r.p.toNat < n) (S : Sl (Wt K L t ps ms R0) H σ ρ) (hi : ρ[i]? = some (.va (.ref t))) (h1 : Ed (Wt K L t ps ms R0) t1 σ H (pts ps)) (h2 : Ed (Wt K L t ps ms R0) t2 σ H (mcs ms)) (h3 : Ed (Wt K L t ps ms R0) t3 σ H r.d) :
    EvP (Wt K L t ps ms R0) (tCall (spCount K n) [] E0 (tCons t1 (tCons t2 (tCons t3 (tCons (tVar i) tNil))))) σ H fun v H' => v = .int (cN ps ms r : Nat) ∧ HasR H' t r := fun H1 w1 Q q => by
  have o : (Wt K L t ps ms R0).Ok := wt K lt
  refine h1 H1 w1 _ fun v1 H2 w2 r1 => h2 H2 (o.trans w1 w2) _ fun v2 H3 w3 r2 => h3 H3 (o.trans (o.trans w1 w2) w3) _ fun v3 H4 w4 r3 => ?_
  have w14 := o.trans (o.trans (o.trans w1 w2) w3) w4
  refine ⟨_, S.va hi, L, t, ps, ms, R0, r, v1, v2, v3, rfl, ⟨o.un w14 hL, lt, DT.mono o (o.trans w3 w4) r1, DT.mono o w4 r2, r3, (w14.2 tab).1, G, g, hin, hn⟩, fun H' k' tb' hr' hh => q _ H' ⟨((w2.1.trans w3.1).trans w4.1).trans k', fun hx => ?_⟩ ⟨rfl, hh⟩⟩
  have y := (o.trans (o.trans w2 w3) w4).2 hx
  exact ⟨tb', fun r' h => hr' r' (y.2 r' h)⟩
end
theorem sum_take_succ {α : Type} (f : α → Nat) {l : List α} {i : Nat} {x : α} (h : l[i]? = some x) : ((l.take (i + 1)).map f).sum = ((l.take i).map f).sum + f x := by
  rw [take_snoc h, List.map_append, List.sum_append]
  simp
theorem sizes_get {m : Mv} {left : Int} {j : Nat} (h : (j : Int) < min m.m left + 1 - m.l) : (m.sizes left)[j]? = some (m.l + j) := by
  unfold Mv.sizes
  rw [List.getElem?_map, List.getElem?_range (by omega)]
  rfl
theorem sizes_length (m : Mv) (left : Int) : (m.sizes left).length = (min m.m left + 1 - m.l).toNat := by
  unfold Mv.sizes
  rw [List.length_map, List.length_range]
theorem e_mulW {C : Wd} (o : C.Ok) {H : Hp} {σ : L2.St} {ta tb : TE} {i j : Int} {P : Hp → Prop} (ha : Ed C ta σ H (.int i)) (hb : EvP C tb σ H fun v H' => v = .int j ∧ P H') (hc : CMulW i j) : EvP C (tOp (rI CMulW fun i j => .int (i * j)) ta tb) σ H fun v H' => v = .int (i * j) ∧ P H' := fun H1 w Q q =>
  ha H1 w _ fun x H2 w2 r => hb H2 (o.trans w w2) _ fun y H3 w3 ⟨e, p⟩ => ⟨i, j, r.intI, e, hc, q _ H3 (o.trans w2 w3) ⟨rfl, p⟩⟩
theorem e_addP {C : Wd} (o : C.Ok) {H : Hp} {σ : L2.St} {ta tb : TE} {i j : Int} {P : Hp → Prop} (ha : Ed C ta σ H (.int i)) (hb : EvP C tb σ H fun v H' => v = .int j ∧ P H') : EvP C (tOp (rI0 fun i j => .int (i + j)) ta tb) σ H fun v H' => v = .int (i + j) ∧ P H' := fun H1 w Q q =>
  ha H1 w _ fun x H2 w2 r => hb H2 (o.trans w w2) _ fun y H3 w3 ⟨e, p⟩ => ⟨i, j, r.intI, e, q _ H3 (o.trans w2 w3) ⟨rfl, p⟩⟩
section
variable {P : Program} {w : World} {K : PySem.W.Frag} {mg : Str → Option Value} {base : Heap}
/-- the state of the loops: one's own dict at q, the table at t -/
structure SC (K : PySem.W.Frag) (L : Addr → Prop) (q t : Addr) (ps : List Pt) (ms : List (Option Mch)) (R0 : Rg) (H1 H' : Hp) (σ : L2.St) (ρ : List Ds) (sk : List (List L2.Key × V)) : Prop where
  kp : Kp (fun c => c = q ∨ c = t) H1 H'
  tab : TabC ps ms R0 (Lp L q) H' t
  has : ∀ r', HasR H1 t r' → HasR H' t r'
  sl : Sl (W0 K (Lp L q)) H' σ ρ
  hq : H' q = some (.dT sk)
theorem SC.w0 {L : Addr → Prop} {q t : Addr} {ps : List Pt} {ms : List (Option Mch)} {R0 : Rg} {H1 H' H'' : Hp} {σ : L2.St} {ρ : List Ds} {sk : List (List L2.Key × V)} (s : SC K L q t ps ms R0 H1 H' σ ρ sk) (k : Kp No H' H'') : SC K L q t ps ms R0 H1 H'' σ ρ sk :=
  ⟨s.kp.trans (k.mono fun _ z => z.elim), s.tab.keep k (fun _ z => z.elim) (fun z => z.elim), fun r' h => (s.has r' h).keep k (fun z => z.elim), s.sl.mono (SR.w0 K _) k, k.dT (fun z => z.elim) s.hq⟩
theorem SC.wt {L : Addr → Prop} {q t : Addr} {ps : List Pt} {ms : List (Option Mch)} {R0 : Rg} {H1 H' H'' : Hp} {σ : L2.St} {ρ : List Ds} {sk : List (List L2.Key × V)} (s : SC K L q t ps ms R0 H1 H' σ ρ sk) (hqt : q ≠ t) (lt : L t) (k : (Wt K (Lp L q) t ps ms R0).W H' H'') : SC K L q t ps ms R0 H1 H'' σ ρ sk :=
  ⟨s.kp.trans (k.1.mono fun _ z => .inr z), (k.2 s.tab).1, fun r' h => (k.2 s.tab).2 r' (s.has r' h), ((s.sl.cast (C' := Wt K (Lp L q) t ps ms R0) rfl rfl).mono (SR.wt K (.inl lt)) k).cast rfl rfl, k.1.dT hqt s.hq⟩
theorem SC.set {L : Addr → Prop} {q t : Addr} {ps : List Pt} {ms : List (Option Mch)} {R0 : Rg} {H1 H' : Hp} {σ σ' : L2.St} {ρ ρ' : List Ds} {sk : List (List L2.Key × V)} (s : SC K L q t ps ms R0 H1 H' σ ρ sk) (S : Sl (W0 K (Lp L q)) H' σ' ρ') : SC K L q t ps ms R0 H1 H' σ' ρ' sk := ⟨s.kp, s.tab, s.has, S, s.hq⟩
abbrev N__law_spots : List Str := ["_law_parts_here", "_law_ways", "_law_region_here", "_law_table", "_law_ends", "_law_moves", "_law_part", "_law_far", "_law_spots_here", "_law_back", "_law_offset", "_law_state", "_law_many", "_law_move", "_law_size", "_law_later"]
abbrev s__law_spots : Stmt := top 61
theorem sc__law_spots : FnScope ["_law_parts_here", "_law_ways", "_law_region_here", "_law_table", "_law_ends", "_law_moves", "_law_part", "_law_far", "_law_spots_here", "_law_back", "_law_offset", "_law_state", "_law_many", "_law_move", "_law_size", "_law_later"] ["_law_parts_here", "_law_ways", "_law_region_here", "_law_table"] (defScope s__law_spots) := ⟨rfl, rfl, rfl, by decide +kernel, rfl, by decide +kernel, by decide +kernel⟩
theorem ok__law_spots_step {n lv : Nat} (F : DefA K mg "_law_spots" s__law_spots) (B : Blt mg) (hlv : 1 ≤ lv) (c__law_extent : C8.Cal P w K mg base 1 "_law_extent" (spD K Rextent) []) (c__law_piece : C8.Cal P w K mg base 1 "_law_piece" (spD K R_law_piece) []) (c__law_count : C8.Cal P w K mg base lv "_law_count" (spCount K n) []) : C8.Cal P w K mg base (lv + 1) "_law_spots" (spSpots K (n + 1)) [] := by
  refine cal_by F sc__law_spots rfl rfl rfl (fun _ _ _ _ _ _ us hl => match us, hl with | [_, _, _, _], _ => rfl) (fun vs H Q E ⟨_, _, _, _, _, _, _, _, _, _, _, e, _⟩ => by rw [e]; rfl) fun f cdv A outer s H vs Q E hr h => ?_
  obtain ⟨L, t, ps, ms, R0, r, v1, v2, v3, p, M, rfl, cp, hp, hM, k⟩ := h
  have o0 := w0 K L
  have hu := hu_of hr
  have hu4 : _ + 64 < cLine := hr.units
  refine ⟨_, (pss_c (ps_asg (pe_ix ix_seq (pv 1) (pe_ix ix_seq (pv 2) pe_int (fun _ _ => rfl)) (fun _ _ => rfl)) (pg_tup rfl (pgs_cons (pg_name (i := 4) sc__law_spots.nd rfl (Or.inl rfl)) (pgs_cons (pg_name (i := 5) sc__law_spots.nd rfl (Or.inl rfl)) pgs_nil))))
  (pss_c (ps_set (i := 6) sc__law_spots.nd rfl (Or.inl rfl) (pe_ix ix_seq (pv 0) (pe_ix ix_seq (pv 2) pe_int (fun _ _ => rfl)) (fun _ _ => rfl)))
  (pss_c (ps_set (i := 7) sc__law_spots.nd rfl (Or.inl rfl) (C8.pe_c c__law_extent hr (by omega) rfl (pa_cons (pv 6) (pa_cons (pv 2) pa_nil))))
  (pss_c (ps_set (i := 8) sc__law_spots.nd rfl (Or.inl rfl) pe_dnewT)
  (pss_c (ps_for PassesOwn.never rfl (pi_range1 (by rfl) B.range (pa_cons (pe_op op_add (pv 7) pe_int) pa_nil)) (pg_name (i := 9) sc__law_spots.nd rfl (Or.inl rfl)) (pss_c (ps_set (i := 10) sc__law_spots.nd rfl (Or.inl rfl) (pe_op op_sub (pv 7) (pv 9)))
  (pss_one (ps_for PassesOwn.never rfl (pi_range1 (by rfl) B.range (pa_cons (pe_callB call_len (by rfl) B.len PySem.boot_len (pa_cons (pv 4) pa_nil)) pa_nil)) (pg_name (i := 11) sc__law_spots.nd rfl (Or.inl rfl)) (pss_c (ps_set (i := 12) sc__law_spots.nd rfl (Or.inl rfl) (pe_callTy call_int1 (by rfl) B.int (by decide +kernel) (pa_cons (pe_and (pe_cmpR (op_Q hu4) (pv 9) pe_int (nomark _)) (pe_one (pe_ix ix_seq (pv 4) (pv 11) (fun _ _ => rfl)))) pa_nil)))
  (pss_c (ps_for PassesOwn.never rfl (pi_tup (pv 5)) (pg_name (i := 13) sc__law_spots.nd rfl (Or.inl rfl)) (pss_one (ps_if (pt_cmpR (op_Q hu4) (pe_ix ix_seq (pv 13) pe_int (fun _ _ => rfl)) (pv 11) (nomark _)) (pss_one (ps_for PassesOwn.never rfl (pi_range2 (by rfl) B.range (pa_cons (pe_ix ix_seq (pv 13) pe_int (fun _ _ => rfl)) (pa_cons (pe_op op_add (pe_callB (call_min2 rfl) (by rfl) B.min (by decide +kernel) (pa_cons (pe_ix ix_seq (pv 13) pe_int (fun _ _ => rfl)) (pa_cons (pv 9) pa_nil))) pe_int) pa_nil))) (pg_name (i := 14) sc__law_spots.nd rfl (Or.inl rfl)) (pss_c (ps_set (i := 15) sc__law_spots.nd rfl (Or.inl rfl) (pe_dget hu (pv 8) (pe_tup (pa_cons (pe_ix ix_seq (pv 13) pe_int (fun _ _ => rfl)) (pa_cons (pe_op op_add (pv 10) (pv 14)) pa_nil))) (fun _ _ => rfl)))
  (pss_one (ps_if (pt_cmpR op_gt (pv 15) pe_int (nomark _)) (pss_one (ps_set (i := 12) sc__law_spots.nd rfl (Or.inl rfl) (pe_op op_add (pv 12) (pe_op op_mulW (pv 15) (C8.pe_c c__law_count hr (by omega) rfl (pa_cons (pv 0) (pa_cons (pv 1) (pa_cons (C8.pe_c c__law_piece hr (by omega) rfl (pa_cons (pv 6) (pa_cons (pv 2) (pa_cons (pe_ix ix_seq (pv 13) pe_int (fun _ _ => rfl)) (pa_cons (pv 10) (pa_cons (pv 14) pa_nil)))))) (pa_cons (pv 3) pa_nil))))))))) pss_nil))))) pss_nil)))
  (pss_one (ps_dput hu (pv 8) (pe_tup (pa_cons (pv 11) (pa_cons (pv 10) pa_nil))) (pv 12) rfl))))))))
  (pss_one (ps_ret (pv 8)))))))), ?_⟩
  have S : Sl (W0 K L) H (start N__law_spots [v1, v2, v3, .ref t]) [.da (pts ps), .da (mcs ms), .da r.d, .va (.ref t), .un, .un, .un, .un, .un, .un, .un, .un, .un, .un, .un, .un] := .cons ⟨_, rfl, cp.d1⟩ (.cons ⟨_, rfl, cp.d2⟩ (.cons ⟨_, rfl, cp.d3⟩ (.cons (s := .va _) rfl (Sl.ofD (vs := []) (ds := []) 12 .nil))))
  have G := cp.G
  have g := cp.g
  have hin := cp.ins
  have hpd : (ps.map Pt.d)[r.p.toNat]? = some p.d := by rw [List.getElem?_map, hp]; rfl
  have hmd : (ms.map mchD)[r.p.toNat]? = some M.d := by rw [List.getElem?_map, hM]; rfl
  obtain ⟨hst, gm, g1, g5, gg⟩ := G.mch hp hM
  have hext := hin.ext g p
  obtain ⟨F', hF⟩ : ∃ F' : Nat, p.ext r = (F' : Int) := ⟨(p.ext r).toNat, by omega⟩
  have hF' : (p.ext r).toNat = F' := by omega
  have hm16 := hin.sm g
  refine s_asg o0 (e_ixTz o0 (ds := ms.map mchD) (d := M.d) (e_var o0 S rfl) (e_rg o0 (r := r) (e_var o0 S rfl) 0) hin.p0 hmd) fun v H1 w1 r1 => g_pair r1 fun x y rx ry => ?_
  have S1 := ((S.mono o0 w1).putD (i := 4) rx).putD (i := 5) ry
  refine s_set o0 (e_ixTz o0 (ds := ps.map Pt.d) (e_var o0 S1 rfl) (e_rg o0 (r := r) (e_var o0 S1 rfl) 0) hin.p0 hpd) fun v6 H2 w2 r2 => ?_
  have S2 := (S1.mono o0 w2).putD (i := 6) r2
  have w02 : Kp No H H2 := w1.trans w2
  refine s_set o0 (e_call o0 (w02.un cp.un) (a_cons o0 (e_var o0 S2 rfl) (a_cons o0 (e_var o0 S2 rfl) (a_nil o0))) ⟨p, r, rfl, rfl⟩) fun v7 H3 w3 r3 => ?_
  rw [hF] at r3
  have S3 := (S2.mono o0 w3).putD (i := 7) r3
  have w03 : Kp No H H3 := w02.trans w3
  have tb3 : TabC ps ms R0 L H3 t := cp.tab.keep w03 (fun _ z => z.elim) (fun z => z.elim)
  refine s_newD (i := 8) S3 fun q hq S4 => ?_
  have hqL : ¬ L q := fun l => (w03.un cp.un) q l hq
  have hqt : q ≠ t := fun e => hqL (e ▸ cp.lt)
  have o4 := w0 K (Lp L q)
  have un4 : ∀ c, Lp L q c → upd H3 q (.dT []) c ≠ none := own_un (w03.un cp.un) _
  have kend : ∀ {H'}, Kp (fun c => c = q ∨ c = t) (upd H3 q (.dT [])) H' → Kp (· = t) H H' := fun {H'} k' => (w03.mono (M := (· = t)) fun _ z => z.elim).trans ((Kp.new (L := (· = t)) (o := .dT []) hq).hide k' fun c e => e.elim (fun e => .inl (e ▸ hq)) .inr)
  have hM2 : ∀ c, (c = q ∨ c = t) → Lp L q c := fun c e => e.elim .inr fun e => .inl (e ▸ cp.lt)
  have has4 : ∀ r', HasR H t r' → HasR (upd H3 q (.dT [])) t r' := fun r' h => by
    obtain ⟨kvs, v, a1, a2⟩ := h.keep w03 (fun z => z.elim)
    exact ⟨kvs, v, by rw [upd_ne (ne_of_none a1 hq)]; exact a1, a2⟩
  have C4 : SC K L q t ps ms R0 (upd H3 q (.dT [])) (upd H3 q (.dT [])) _ _ [] := ⟨Kp.refl _ _, tb3.own hq _, fun r' h => h, S4, upd_same⟩
  have fq : H q = none := w03.free hq
  generalize upd H3 q (.dT []) = H4 at S4 un4 kend has4 C4 ⊢
  let Wq := Wt K (Lp L q) t ps ms R0
  have oW : Wq.Ok := wt K (.inl cp.lt)
  let Sg := spN' ps ms p M r
  -- done: all spots with less back, and some with as much
  let Dn : List (List L2.Key × V) → Nat → Nat → Prop := fun sk i j => (∀ (b : Nat) (s : Int), b < i → b ≤ F' → 0 ≤ s → s < M.ends.length → valV sk (iks [s, ((F' - b : Nat) : Int)]) = some (.int (Sg b s : Nat))) ∧ (∀ s : Int, i ≤ F' → 0 ≤ s → s < j → valV sk (iks [s, ((F' - i : Nat) : Int)]) = some (.int (Sg i s : Nat))) ∧ sk.length ≤ i * 5 + j
  let ρ0 : List Ds := [.da (pts ps), .da (mcs ms), .da r.d, .va (.ref t), .da (.tuple (M.ends.map .bool)), .da (mvs M.moves), .da p.d, .da (.int F'), .va (.ref q)]
  have hseq : ∀ (b : Nat) (s : Int), Sg b s = baseN M b s + (M.moves.map (stepN (cN ps ms) Sg p r F' b s)).sum := fun b s => by
    show spC _ _ _ _ _ _ _ = _
    rw [hF', spC_eq gm b s]
    show _ = baseN M b s + (M.moves.map (stepN (cN ps ms) (spC (cN ps ms) p M r (p.ext r).toNat) p r F' b s)).sum
    rw [hF']
  refine s_for1 o4 (n := (F' : Int) + 1) (a_cons o4 (e_add o4 (e_var o4 C4.sl rfl) (e_int o4)) (a_nil o4)) (by omega) (by omega)
    (fun i σ' H' => ∃ (b9 b10 b11 b12 b13 b14 b15 : Ds) (sk : List (List L2.Key × V)), SC K L q t ps ms R0 H4 H' σ' (ρ0 ++ [b9, b10, b11, b12, b13, b14, b15]) sk ∧ Dn sk i 0)
    (fun H' w' => ⟨.un, .un, .un, .un, .un, .un, .un, [], C4.w0 w', fun b s h => absurd h (by omega), fun s _ h0 h1 => absurd h1 (by omega), Nat.le_refl _⟩)
    (fun i σ5 H5 hi ⟨b9, b10, b11, b12, b13, b14, b15, sk, C5, dn5⟩ => ?_) (fun σ5 H5 ⟨b9, b10, b11, b12, b13, b14, b15, sk, C5, dn5⟩ => ?_)
  · have hi' : i ≤ F' := by omega
    have S5 := C5.sl.putD (i := 9) (.int (i : Int))
    refine s_set o4 (e_sub o4 (i := F') (j := i) (e_var o4 S5 rfl) (e_var o4 S5 rfl)) fun v6 H6 w6 r6 => ?_
    have C6 := (C5.w0 w6).set ((S5.mono o4 w6).putD (i := 10) r6)
    refine s_for1 o4 (n := (M.ends.length : Int)) (a_cons o4 (by have := e_lenT o4 (ds := M.ends.map .bool) (e_var o4 (i := 4) C6.sl rfl); rw [List.length_map] at this; exact this) (a_nil o4)) (by omega) (by omega)
      (fun j σ' H' => ∃ (b11 b12 b13 b14 b15 : Ds) (sk : List (List L2.Key × V)), SC K L q t ps ms R0 H4 H' σ' (ρ0 ++ [.da (.int (i : Int)), .da (.int ((F' : Int) - i)), b11, b12, b13, b14, b15]) sk ∧ Dn sk i j)
      (fun H' w' => ⟨_, _, _, _, _, sk, C6.w0 w', dn5⟩)
      (fun j σ7 H7 hj ⟨b11, b12, b13, b14, b15, sk, C7, dn7⟩ => ?_) (fun σ7 H7 ⟨b11, b12, b13, b14, b15, sk, C7, dn7⟩ => ?_)
    · have hj' : j < M.ends.length := by omega
      have S7 := C7.sl.putD (i := 11) (.int (j : Int))
      have hend : (M.ends.map PyData.bool)[j]? = some (.bool (M.ends.getD j false)) := by
        rw [List.getElem?_map, List.getD_eq_getElem?_getD, List.getElem?_eq_getElem hj']
        rfl
      refine s_set o4 (e_intB o4 (b := decide ((i : Int) = 0) && M.ends.getD j false) (e_and o4 (e_eqI o4 (e_var o4 S7 rfl) (e_int o4)) fun _ => e_ixT o4 (ds := M.ends.map .bool) (i := j) (e_var o4 S7 rfl) (e_var o4 S7 rfl) hend)) fun v8 H8 w8 r8 => ?_
      have eb : (if (decide ((i : Int) = 0) && M.ends.getD j false) = true then (1 : Int) else 0) = ((baseN M i (j : Nat) : Nat) : Int) := by
        unfold baseN
        have : decide ((i : Int) = 0) = decide (i = 0) := by
          rw [decide_eq_decide]
          omega
        rw [this, show ((j : Nat) : Int).toNat = j from rfl]
        split <;> rfl
      rw [eb] at r8
      have C8 := (C7.w0 w8).set ((S7.mono o4 w8).putD (i := 12) r8)
      refine s_forTN o4 (ds := M.moves.map Mv.d) (e_var o4 C8.sl rfl) (fun l σ' H' => ∃ (b13 b14 b15 : Ds), SC K L q t ps ms R0 H4 H' σ' (ρ0 ++ [.da (.int (i : Int)), .da (.int ((F' : Int) - i)), .da (.int (j : Int)), .da (.int ((baseN M i (j : Nat) + ((M.moves.take l).map (stepN (cN ps ms) Sg p r F' i (j : Nat))).sum : Nat) : Int)), b13, b14, b15]) sk) (M := fun c => c = q ∨ c = t) hM2
        (fun H' w' => ⟨_, _, _, C8.w0 w'⟩) (fun H9 w9 l d v σ10 H10 hl rd k910 ⟨b13, b14, b15, C10⟩ => ?_) (fun H9 w9 σ10 H10 k910 ⟨b13, b14, b15, C10⟩ => ?_)
      · rw [List.getElem?_map] at hl
        cases hmv : M.moves[l]? with
        | none => rw [hmv] at hl; cases hl
        | some m =>
          rw [hmv] at hl
          cases hl
          have hmm := List.mem_of_getElem? hmv
          obtain ⟨m1, m2, m3⟩ := gm.g m hmm
          obtain ⟨q0, q1, q2, q3, q4, _⟩ := gg m hmm
          have qt0 := (gm.t m hmm).1
          have S10 := C10.sl.putD (i := 13) rd
          rw [sum_take_succ _ hmv]
          generalize hacc : ((M.moves.take l).map (stepN (cN ps ms) Sg p r F' i (j : Nat))).sum = acc at S10 C10 ⊢
          refine s_if o4 (t_test o4 (e_eqI o4 (e_mv o4 (m := m) (e_var o4 S10 rfl) 0) (e_var o4 S10 rfl))) (fun c H11 w11 => ?_) (fun c H11 w11 => ?_)
          · have ho : m.o = (j : Int) := of_decide_eq_true c
            have C11 := (C10.set S10).w0 w11
            have est : stepN (cN ps ms) Sg p r F' i (j : Nat) m = ((m.sizes (i : Nat)).map fun z => Sg (i - z.toNat) m.t * cN ps ms (p.piece r ((F' : Int) - i) m.p z)).sum := by
              unfold stepN
              rw [if_pos ho]
            rw [est]
            refine s_for2 o4 (a := m.l) (b := min m.m (i : Int) + 1) (a_cons o4 (e_mv o4 (m := m) (e_var o4 C11.sl rfl) 3) (a_cons o4 (e_add o4 (e_min2 o4 (e_mv o4 (m := m) (e_var o4 C11.sl rfl) 4) (e_var o4 C11.sl rfl)) (e_int o4)) (a_nil o4))) (by omega) (by omega) (by omega) (by omega)
              (fun z σ' H' => ∃ (b14 b15 : Ds), SC K L q t ps ms R0 H4 H' σ' (ρ0 ++ [.da (.int (i : Int)), .da (.int ((F' : Int) - i)), .da (.int (j : Int)), .da (.int ((baseN M i (j : Nat) + (acc + (((m.sizes (i : Nat)).take z).map fun z => Sg (i - z.toNat) m.t * cN ps ms (p.piece r ((F' : Int) - i) m.p z)).sum) : Nat) : Int)), .da m.d, b14, b15]) sk ∧ Kp (fun c => c = q ∨ c = t) H9 H')
              (fun H' w' => ⟨_, _, C11.w0 w', k910.trans ((w11.trans w').mono fun _ z => z.elim)⟩) (fun z σ12 H12 hz ⟨b14, b15, C12, k912⟩ => ?_) (fun σ12 H12 ⟨b14, b15, C12, k912⟩ => ?_)
            · have S12 := C12.sl.putD (i := 14) (.int (m.l + (z : Int)))
              have hzl : m.l + (z : Int) ≤ i := by omega
              have hz1 : 1 ≤ m.l + (z : Int) := by omega
              obtain ⟨zn, hzn⟩ : ∃ zn : Nat, m.l + (z : Int) = (zn : Int) := ⟨(m.l + (z : Int)).toNat, by omega⟩
              have hsz := sizes_get (m := m) (left := (i : Nat)) (j := z) (by omega)
              rw [sum_take_succ _ hsz]
              generalize (((m.sizes (i : Nat)).take z).map fun z => Sg (i - z.toNat) m.t * cN ps ms (p.piece r ((F' : Int) - i) m.p z)).sum = acc2 at S12 C12 ⊢
              rw [hzn] at S12 hz1 hzl ⊢
              rw [show ((zn : Nat) : Int).toNat = zn from rfl]
              have hlat := dn7.1 (i - zn) m.t (by omega) (by omega) qt0 q4
              have hkey : ((F' - (i - zn) : Nat) : Int) = (F' : Int) - i + zn := by omega
              rw [hkey] at hlat
              refine s_set o4 (e_of o4 (v := .int (Sg (i - zn) m.t : Nat)) (e_dget o4 (ns := [m.t, (F' : Int) - i + zn]) (e_val o4 S12 rfl) (e_tup o4 (a_cons o4 (e_mv o4 (m := m) (e_var o4 S12 rfl) 1) (a_cons o4 (e_add o4 (e_var o4 S12 rfl) (e_var o4 S12 rfl)) (a_nil o4)))) (fun H' w' => w'.dT (fun z => z.elim) C12.hq) hlat) (.int _)) fun v13 H13 w13 r13 => ?_
              have C13 := (C12.w0 w13).set ((S12.mono o4 w13).putD (i := 15) r13)
              have k913 : Kp (fun c => c = q ∨ c = t) H9 H13 := k912.trans (w13.mono fun _ z => z.elim)
              refine s_if o4 (t_test o4 (e_cmp o4 (e_var o4 C13.sl rfl) (e_int o4))) (fun c2 H14 w14 => ?_) (fun c2 H14 w14 => ?_)
              · have C14 := C13.w0 w14
                have SW := C14.sl.cast (C' := Wq) rfl rfl
                have hip : Ins ps R0 (p.piece r ((F' : Int) - i) m.p zn) := hin.piece G hp hM hmm (by omega) hz1 (by omega)
                have un14 := C14.kp.un un4
                have hbig : CMulW ((Sg (i - zn) m.t : Nat) : Int) ((cN ps ms (p.piece r ((F' : Int) - i) m.p zn) : Nat) : Int) := by
                  have h1 := log2_le (spN'_le G hm16 hp hM (back := i - zn) (s := m.t) (by omega))
                  have h2 := cN_le G (hip.sm g) (n := 5) (by rw [piece_p]; have := (List.getElem?_eq_some_iff.mp hp).1; have := G.few; omega)
                  rw [expN5] at h2
                  have h3 := log2_le h2
                  show (((Sg (i - zn) m.t : Nat) : Int)).natAbs.log2 + (((cN ps ms (p.piece r ((F' : Int) - i) m.p zn) : Nat) : Int)).natAbs.log2 < 1000000
                  rw [Int.natAbs_natCast, Int.natAbs_natCast]
                  have h1' : (Sg (i - zn) m.t).log2 ≤ 671832 := h1
                  omega
                refine s_set oW (e_addP oW (e_var oW SW rfl) (e_mulW oW (e_var oW SW rfl) (e_callCt (n := n) un14 (.inl cp.lt) C14.tab G g hip (by rw [piece_p]; have := cp.n; omega) SW rfl (e_var oW SW rfl) (e_var oW SW rfl) (e_call oW un14 (a_cons oW (e_var oW SW rfl) (a_cons oW (e_var oW SW rfl) (a_cons oW (e_mv oW (m := m) (e_var oW SW rfl) 2) (a_cons oW (e_var oW SW rfl) (a_cons oW (e_var oW SW rfl) (a_nil oW)))))) ⟨p, r, (F' : Int) - i, m.p, zn, rfl, rfl⟩)) hbig)) fun v15 H15 w15 e15 => ?_
                have e15' := e15.1
                subst e15'
                have C15 := C14.wt hqt cp.lt w15
                refine ⟨_, _, C15.set (C15.sl.putD (i := 12) (d := .int ((baseN M i (j : Nat) + (acc + (acc2 + Sg (i - zn) m.t * cN ps ms (p.piece r ((F' : Int) - i) m.p zn))) : Nat) : Int)) ?_), (k913.trans (w14.mono fun _ z => z.elim)).trans (w15.1.mono fun _ z => .inr z)⟩
                have : ((baseN M i (j : Nat) + (acc + acc2) : Nat) : Int) + ((Sg (i - zn) m.t : Nat) : Int) * ((cN ps ms (p.piece r ((F' : Int) - i) m.p zn) : Nat) : Int) = ((baseN M i (j : Nat) + (acc + (acc2 + Sg (i - zn) m.t * cN ps ms (p.piece r ((F' : Int) - i) m.p zn))) : Nat) : Int) := by
                  rw [← Int.natCast_mul, ← Int.natCast_add]
                  congr 1
                  omega
                rw [this]
                exact .int _
              · have h0 : Sg (i - zn) m.t = 0 := by have := of_decide_eq_false c2; omega
                rw [h0, Nat.zero_mul, Nat.add_zero]
                exact ⟨_, _, C13.w0 w14, k913.trans (w14.mono fun _ z => z.elim)⟩
            · have hfull : (m.sizes (i : Nat)).take (min m.m (i : Int) + 1 - m.l).toNat = m.sizes (i : Nat) := by
                rw [← sizes_length, List.take_length]
              rw [hfull] at C12
              exact ⟨k912, _, _, _, C12⟩
          · have hno : ¬ m.o = (j : Int) := of_decide_eq_false c
            have est : stepN (cN ps ms) Sg p r F' i (j : Nat) m = 0 := by
              unfold stepN
              rw [if_neg hno]
            rw [est, Nat.add_zero]
            exact ⟨k910.trans (w11.mono fun _ z => z.elim), _, _, _, (C10.set S10).w0 w11⟩
      · rw [List.length_map, List.take_length, ← hseq] at C10
        refine s_dput (ns := [(j : Int), (F' : Int) - i]) (P := fun v _ => v = .int (Sg i (j : Nat) : Nat)) ((e_var o4 C10.sl rfl : Ed (W0 K (Lp L q)) _ _ _ (.int (Sg i (j : Nat) : Nat))).imp (fun v H' _ r => r.intI) o4) (fun H' w' => e_val o4 (C10.w0 w').sl rfl) (fun H' w' => e_tup o4 (a_cons o4 (e_var o4 (C10.w0 w').sl rfl) (a_cons o4 (e_var o4 (C10.w0 w').sl rfl) (a_nil o4)))) (fun v Ha Hb _ h => h) (fun H' w' => w'.dT (fun z => z.elim) C10.hq) (lt_size (by have := dn7.2.2; omega)) fun v11 H11 w11 e11 hq11 => ?_
        subst e11
        have C11 := C10.w0 w11
        have kp : Kp (· = q) H11 (upd H11 q (.dT (putK sk (iks [(j : Int), (F' : Int) - i]) (.int (Sg i (j : Nat) : Nat))))) := (Kp.refl _ _).put (.inr rfl) (by rw [hq11]; trivial)
        refine ⟨_, _, _, _, _, putK sk (iks [(j : Int), (F' : Int) - i]) (.int (Sg i (j : Nat) : Nat)), ⟨C11.kp.trans (kp.mono fun c e => .inl e), C11.tab.keep kp (fun c (e : c = q) => .inr e) (fun e : t = q => hqt e.symm), fun r' h => (C11.has r' h).keep kp (fun e : t = q => hqt e.symm), C11.sl.step (M := (· = q)) (fun c (e : c = q) => .inr e) kp, upd_same⟩, fun b s hb hbF h0 h1 => ?_, fun s hiF h0 h1 => ?_, ?_⟩
        · rw [valV_put_ne _ _ fun z => ?_]
          · exact dn7.1 b s hb hbF h0 h1
          · have := iks_inj z
            have h2 := (List.cons.inj (List.cons.inj this).2).1
            omega
        · by_cases hs : s = (j : Int)
          · subst hs
            rw [show ((F' - i : Nat) : Int) = (F' : Int) - i by omega]
            exact valV_put_same _ _ _
          · rw [valV_put_ne _ _ fun z => hs (List.cons.inj (iks_inj z)).1]
            exact dn7.2.1 s hiF h0 (by omega)
        · have := dn7.2.2
          have h2 := putK_len (kvs := sk) (k := iks [(j : Int), (F' : Int) - i]) (v := .int (Sg i (j : Nat) : Nat))
          omega
    · refine ⟨_, _, _, _, _, _, _, sk, C7, fun b s hb hbF h0 h1 => ?_, fun s _ h0 h1 => absurd h1 (by omega), ?_⟩
      · rcases Nat.lt_or_ge b i with c | c
        · exact dn7.1 b s c hbF h0 h1
        · have e : b = i := by omega
          subst e
          exact dn7.2.1 s hbF h0 (by omega)
      · have := dn7.2.2
        omega
  · have hn : ((F' : Int) + 1).toNat = F' + 1 := by omega
    rw [hn] at dn5
    refine s_ret o4 (e_val o4 C5.sl rfl) fun v6 H6 w6 e => ?_
    subst e
    have C6 := C5.w0 w6
    refine k q sk H6 (kend C6.kp) (C6.tab.less fun c z => .inl z) (fun r' h => C6.has r' (has4 r' h)) fq C6.hq ⟨fun p' M' hp' hM' s o h0 h1 h2 => ?_, ?_⟩
    · rw [hp] at hp'
      rw [hM] at hM'
      cases hp'
      cases hM'
      rw [hF]at h2
      have := dn5.1 (F' - o) s (by omega) (by omega) h0 h1
      rw [hF', show F' - (F' - o) = o by omega] at *
      exact this
    · have := dn5.1 F' 0 (by omega) (by omega) (by omega) (by omega)
      rw [Nat.sub_self] at this
      rw [cN_strip G hp hM, hF']
      exact this
end
end SR

namespace SR
open PySem PySem.Spec PyProof.Rows L2
section
variable {P : Program} {w : World} {K : PySem.W.Frag} {mg : Str → Option Value} {base : Heap}
theorem ok__law_count (F : DefA K mg "_law_count" s__law_count) (F2 : DefA K mg "_law_spots" s__law_spots) (B : Blt mg) (c__law_strip : C8.Cal P w K mg base 1 "_law_strip" (spD K RisStrip) []) (c__law_fits : C8.Cal P w K mg base 1 "_law_fits" (spD K Rfits) []) (c__law_extent : C8.Cal P w K mg base 1 "_law_extent" (spD K Rextent) []) (c__law_piece : C8.Cal P w K mg base 1 "_law_piece" (spD K R_law_piece) []) : ∀ n, C8.Cal P w K mg base (2 * n + 2) "_law_count" (spCount K n) []
  | 0 => by
    refine cal_by F sc__law_count rfl rfl rfl (fun _ _ _ _ _ _ us hl => match us, hl with | [_, _, _, _], _ => rfl) (fun vs H Q E ⟨_, _, _, _, _, _, _, _, _, e, _⟩ => by rw [e]; rfl) fun f cdv A outer s H vs Q E hr h => ?_
    obtain ⟨L, t, ps, ms, R0, r, v1, v2, v3, rfl, cp, k⟩ := h
    exact absurd cp.n (by omega)
  | n + 1 => ok__law_count_step F B (by omega) c__law_strip c__law_fits (ok__law_spots_step F2 B (by omega) c__law_extent c__law_piece (ok__law_count F F2 B c__law_strip c__law_fits c__law_extent c__law_piece n))
end
/-- a reading: its rows, each a move's number, a size, what is within -/
inductive Rd where
  | mk (l : List (Nat × Int × Rd))
def Rd.rows : Rd → List (Nat × Int × Rd)
  | .mk l => l
mutual
def Rd.d : Rd → PyData
  | .mk l => .tuple (Rd.ds l)
def Rd.ds : List (Nat × Int × Rd) → List PyData
  | [] => []
  | (n, z, r) :: l => .tuple [.int (n : Nat), .int z, r.d] :: Rd.ds l
end
theorem Rd.ds_map : ∀ l : List (Nat × Int × Rd), Rd.ds l = l.map fun x => .tuple [.int (x.1 : Nat), .int x.2.1, x.2.2.d]
  | [] => rfl
  | (n, z, r) :: l => by rw [Rd.ds, Rd.ds_map l, List.map_cons]
mutual
theorem rd_nl : ∀ r : Rd, nl r.d = true
  | .mk l => by rw [Rd.d, nl]; exact rds_nl l
theorem rds_nl : ∀ l : List (Nat × Int × Rd), nls (Rd.ds l) = true
  | [] => rfl
  | (n, z, r) :: l => by simp [Rd.ds, nl, nls, rd_nl r, rds_nl l]
end
mutual
/-- a reading of a region -/
inductive RdOk (ps : List Pt) (ms : List (Option Mch)) : Rg → Rd → Prop
  | leaf {r : Rg} {p : Pt} : ps[r.p.toNat]? = some p → p.isStrip = false → p.fits r = true → RdOk ps ms r (.mk [])
  | strip {r : Rg} {p : Pt} {M : Mch} {l : List (Nat × Int × Rd)} : ps[r.p.toNat]? = some p → ms[r.p.toNat]? = some (some M) → RsOk ps ms p M r 0 0 l → RdOk ps ms r (.mk l)
/-- the rest of a reading from a spot on -/
inductive RsOk (ps : List Pt) (ms : List (Option Mch)) : Pt → Mch → Rg → Int → Int → List (Nat × Int × Rd) → Prop
  | nil {p : Pt} {M : Mch} {r : Rg} {s o : Int} : o = p.ext r → M.ends.getD s.toNat false = true → 0 ≤ s → s < M.ends.length → RsOk ps ms p M r s o []
  | cons {p : Pt} {M : Mch} {r : Rg} {s o : Int} {n : Nat} {m : Mv} {z : Int} {rd : Rd} {l : List (Nat × Int × Rd)} : M.moves[n]? = some m → m.o = s → m.l ≤ z → z ≤ m.m → o + z ≤ p.ext r → RdOk ps ms (p.piece r o m.p z) rd → RsOk ps ms p M r m.t (o + z) l → RsOk ps ms p M r s o ((n, z, rd) :: l)
end
def rsd (l : List (Nat × Int × Rd)) : PyData := .tuple (Rd.ds l)
section
variable {P : Program} {w : World} {K : PySem.W.Frag} {mg : Str → Option Value} {base : Heap}
/-- the state of the loops: the table at t -/
structure RC (K : PySem.W.Frag) (L : Addr → Prop) (t : Addr) (ps : List Pt) (ms : List (Option Mch)) (R0 : Rg) (H1 H' : Hp) (σ : L2.St) (ρ : List Ds) : Prop where
  kp : Kp (· = t) H1 H'
  tab : TabC ps ms R0 L H' t
  has : ∀ r', HasR H1 t r' → HasR H' t r'
  sl : Sl (W0 K L) H' σ ρ
theorem RC.w0 {L : Addr → Prop} {t : Addr} {ps : List Pt} {ms : List (Option Mch)} {R0 : Rg} {H1 H' H'' : Hp} {σ : L2.St} {ρ : List Ds} (s : RC K L t ps ms R0 H1 H' σ ρ) (k : Kp No H' H'') : RC K L t ps ms R0 H1 H'' σ ρ :=
  ⟨s.kp.trans (k.mono fun _ z => z.elim), s.tab.keep k (fun _ z => z.elim) (fun z => z.elim), fun r' h => (s.has r' h).keep k (fun z => z.elim), s.sl.mono (SR.w0 K _) k⟩
theorem RC.wt {L : Addr → Prop} {t : Addr} {ps : List Pt} {ms : List (Option Mch)} {R0 : Rg} {H1 H' H'' : Hp} {σ : L2.St} {ρ : List Ds} (s : RC K L t ps ms R0 H1 H' σ ρ) (lt : L t) (k : (Wt K L t ps ms R0).W H' H'') : RC K L t ps ms R0 H1 H'' σ ρ :=
  ⟨s.kp.trans k.1, (k.2 s.tab).1, fun r' h => (k.2 s.tab).2 r' (s.has r' h), ((s.sl.cast (C' := Wt K L t ps ms R0) rfl rfl).mono (SR.wt K lt) k).cast rfl rfl⟩
theorem RC.set {L : Addr → Prop} {t : Addr} {ps : List Pt} {ms : List (Option Mch)} {R0 : Rg} {H1 H' : Hp} {σ σ' : L2.St} {ρ ρ' : List Ds} (s : RC K L t ps ms R0 H1 H' σ ρ) (S : Sl (W0 K L) H' σ' ρ') : RC K L t ps ms R0 H1 H' σ' ρ' := ⟨s.kp, s.tab, s.has, S⟩
/-- if ..: xs.append(e) -/
theorem s_ifApp {L : Addr → Prop} {H : Hp} {σ : L2.St} {ρ : List Ds} {i : Nat} {p : Addr} {xs : List V} {tt : TT} {te : TE} {b : Bool} {P : V → Hp → Prop} {nx bk ct : L2.St → Hp → Prop} {rt : VK} (S : Sl (W0 K L) H σ ρ) (hi : ρ[i]? = some (.va (.ref p))) (hp : H p = some (.lst xs)) (hz : xs.length < sizeLine) (h : Et (W0 K L) tt σ H b) (he : b = true → ∀ H', Kp No H H' → EvP (W0 K L) te σ H' P)
    (hpL : L p) (q : ∀ H', Kp (· = p) H H' → Sl (W0 K L) H' σ ρ → ((b = true ∧ ∃ v H'', P v H'' ∧ Kp (· = p) H'' H' ∧ H' p = some (.lst (xs ++ [v]))) ∨ (b = false ∧ H' p = some (.lst xs) ∧ Kp No H H')) → nx σ H') : tIfS tt (tDrop (tBM K "list" rAppend (tVar i) (tCons te tNil))) tNext ⟨nx, rt, bk, ct⟩ σ H :=
  s_if (SR.w0 K L) h (fun c H1 w1 => s_app (S.mono (SR.w0 K L) w1) hi (w1.lst (fun z => z.elim) hp) hz (he c H1 w1) fun v H2 k2 r2 hp2 => by
    have kp : Kp (· = p) H2 (upd H2 p (.lst (xs ++ [v]))) := (Kp.refl _ _).app hp2
    exact q _ (((Kp.trans w1 k2).mono fun _ z => z.elim).trans kp) ((S.mono (SR.w0 K L) (Kp.trans w1 k2)).step (M := (· = p)) (fun a (e : a = p) => e ▸ hpL) kp) (.inl ⟨c, v, H2, r2, kp, upd_same⟩)) fun c H1 w1 => q H1 (w1.mono fun _ z => z.elim) (S.mono (SR.w0 K L) w1) (.inr ⟨c, w1.lst (fun z => z.elim) hp, w1⟩)
theorem sum_take_le {α : Type} (f : α → Nat) (l : List α) (i : Nat) : ((l.take i).map f).sum ≤ (l.map f).sum := by
  have : ((l.take i).map f).sum + ((l.drop i).map f).sum = (l.map f).sum := by
    rw [← List.sum_append, ← List.map_append, List.take_append_drop]
  omega
theorem RsOk.len {ps : List Pt} {ms : List (Option Mch)} {p : Pt} {M : Mch} {r : Rg} (gm : Mvs M.moves) : ∀ {l : List (Nat × Int × Rd)} {s o : Int}, RsOk ps ms p M r s o l → (l.length : Int) ≤ p.ext r - o
  | [], s, o, h => by
    cases h with
    | nil h _ _ _ => rw [h]; simp
  | x :: l, s, o, h => by
    cases h with
    | cons hm _ h1 _ _ _ h6 =>
      have := RsOk.len gm h6
      have := (gm.g _ (List.mem_of_getElem? hm)).1
      rw [List.length_cons]
      omega
theorem le_sum {l : List Nat} {x : Nat} (h : x ∈ l) : x ≤ l.sum := by
  induction l with
  | nil => cases h
  | cons y l ih =>
    rw [List.sum_cons]
    rcases List.mem_cons.mp h with rfl | h
    · omega
    · have := ih h; omega
/-- a spot's number, read -/
theorem e_spot {L : Addr → Prop} {H : Hp} {σ : L2.St} {ρ : List Ds} {t : Addr} {ps : List Pt} {ms : List (Option Mch)} {R0 r : Rg} {p : Pt} {M : Mch} {tk : TE} {i j : Nat} {s' : Int} {o' : Nat} (lt : L t) (tab : TabC ps ms R0 L H t) (hr : HasR H t r) (S : Sl (Wt K L t ps ms R0) H σ ρ) (hi : ρ[i]? = some (.va (.ref t))) (hj : ρ[j]? = some (.da r.d)) (hp : ps[r.p.toNat]? = some p) (hM : ms[r.p.toNat]? = some (some M)) (h0 : 0 ≤ s') (h1 : s' < M.ends.length) (h2 : (o' : Int) ≤ p.ext r)
    (hk : ∀ H1, (Wt K L t ps ms R0).W H H1 → Ed (W0 K L) tk σ H1 (.tuple [.int s', .int (o' : Nat)])) : Ed (Wt K L t ps ms R0) (tDGet (tDGet (tVar i) (tVar j)) tk) σ H (.int (spN' ps ms p M r ((p.ext r).toNat - o') s' : Nat)) := by
  have o : (Wt K L t ps ms R0).Ok := wt K lt
  have o0 := w0 K L
  refine e_lift0 o fun H1 w1 => ?_
  obtain ⟨tb1, hs1⟩ := w1.2 tab
  obtain ⟨kvs, d, sk, a1, a2, a3, a4, a5⟩ := tb1.get (hs1 r hr)
  have S1 := (S.mono o w1).cast (C' := W0 K L) rfl rfl
  exact e_of o0 (e_dget o0 (ns := [s', (o' : Nat)]) (e_dget o0 (ns := r.ns) (e_val o0 S1 hi) (e_var o0 S1 hj) (fun H' w' => w'.dT (fun z => z.elim) a1) a2) (hk H1 w1) (fun H' w' => w'.dT (fun z => z.elim) a4) (a5.spot p M hp hM s' o' h0 h1 h2)) (.int _)
def spRests (K : PySem.W.Frag) (n nb : Nat) : Sp := fun vs H Q _ => ∃ (L : Addr → Prop) (t : Addr) (ps : List Pt) (ms : List (Option Mch)) (R0 r : Rg) (v1 v2 v3 v4 : V) (p : Pt) (M : Mch) (s : Int) (o : Nat), vs = [v1, v2, v3, v4, .ref t] ∧ CtPre K L H t ps ms R0 r v1 v2 v3 n ∧ DT K L H v4 (.tuple [.int s, .int o]) ∧ ps[r.p.toNat]? = some p ∧ ms[r.p.toNat]? = some (some M) ∧ 0 ≤ s ∧ s < M.ends.length ∧ (o : Int) ≤ p.ext r ∧ (p.ext r).toNat - o < nb ∧
  spN' ps ms p M r ((p.ext r).toNat - o) s ≤ 100 ∧ HasR H t r ∧ ∀ v (ls : List (List (Nat × Int × Rd))) H', Kp (· = t) H H' → TabC ps ms R0 L H' t → (∀ r', HasR H t r' → HasR H' t r') → DT K L H' v (.list (ls.map rsd)) → (∀ l ∈ ls, RsOk ps ms p M r s o l) → ls.length ≤ spN' ps ms p M r ((p.ext r).toNat - o) s → Q v H'
def spAll (K : PySem.W.Frag) (n : Nat) : Sp := fun vs H Q _ => ∃ (L : Addr → Prop) (t : Addr) (ps : List Pt) (ms : List (Option Mch)) (R0 r : Rg) (v1 v2 v3 : V), vs = [v1, v2, v3, .ref t] ∧ CtPre K L H t ps ms R0 r v1 v2 v3 n ∧ cN ps ms r ≤ 100 ∧
  ∀ v (ls : List Rd) H', Kp (· = t) H H' → TabC ps ms R0 L H' t → (∀ r', HasR H t r' → HasR H' t r') → DT K L H' v (.list (ls.map Rd.d)) → (∀ l ∈ ls, RdOk ps ms r l) → ls.length ≤ cN ps ms r → Q v H'
section
variable {L : Addr → Prop} {H : Hp} {σ : L2.St} {ρ : List Ds} {t : Addr} {ps : List Pt} {ms : List (Option Mch)} {R0 r : Rg} {t1 t2 t3 t4 : TE} {i n nb : Nat}
theorem e_callAl (hL : ∀ c, L c → H c ≠ none) (lt : L t) (tab : TabC ps ms R0 L H t) (G : Gram ps ms) (g : Page ps R0) (hin : Ins ps R0 r) (hn : r.p.toNat < n) (h100 : cN ps ms r ≤ 100) (S : Sl (Wt K L t ps ms R0) H σ ρ) (hi : ρ[i]? = some (.va (.ref t))) (h1 : Ed (Wt K L t ps ms R0) t1 σ H (pts ps)) (h2 : Ed (Wt K L t ps ms R0) t2 σ H (mcs ms)) (h3 : Ed (Wt K L t ps ms R0) t3 σ H r.d) :
    EvP (Wt K L t ps ms R0) (tCall (spAll K n) [] E0 (tCons t1 (tCons t2 (tCons t3 (tCons (tVar i) tNil))))) σ H fun v H' => ∃ ls : List Rd, DT K L H' v (.list (ls.map Rd.d)) ∧ (∀ l ∈ ls, RdOk ps ms r l) ∧ ls.length ≤ cN ps ms r := fun H1 w1 Q q => by
  have o : (Wt K L t ps ms R0).Ok := wt K lt
  refine h1 H1 w1 _ fun v1 H2 w2 r1 => h2 H2 (o.trans w1 w2) _ fun v2 H3 w3 r2 => h3 H3 (o.trans (o.trans w1 w2) w3) _ fun v3 H4 w4 r3 => ?_
  have w14 := o.trans (o.trans (o.trans w1 w2) w3) w4
  refine ⟨_, S.va hi, L, t, ps, ms, R0, r, v1, v2, v3, rfl, ⟨o.un w14 hL, lt, DT.mono o (o.trans w3 w4) r1, DT.mono o w4 r2, r3, (w14.2 tab).1, G, g, hin, hn⟩, h100, fun v ls H' k' tb' hr' rd hok hlen => q v H' ⟨((w2.1.trans w3.1).trans w4.1).trans k', fun hx => ?_⟩ ⟨ls, rd, hok, hlen⟩⟩
  have y := (o.trans (o.trans w2 w3) w4).2 hx
  exact ⟨tb', fun r' h => hr' r' (y.2 r' h)⟩
theorem e_callRe {p : Pt} {M : Mch} {s' : Int} {o' : Nat} (hL : ∀ c, L c → H c ≠ none) (lt : L t) (tab : TabC ps ms R0 L H t) (G : Gram ps ms) (g : Page ps R0) (hin : Ins ps R0 r) (hn : r.p.toNat < n) (S : Sl (Wt K L t ps ms R0) H σ ρ) (hi : ρ[i]? = some (.va (.ref t))) (h1 : Ed (Wt K L t ps ms R0) t1 σ H (pts ps)) (h2 : Ed (Wt K L t ps ms R0) t2 σ H (mcs ms)) (h3 : Ed (Wt K L t ps ms R0) t3 σ H r.d) (h4 : Ed (Wt K L t ps ms R0) t4 σ H (.tuple [.int s', .int (o' : Nat)]))
    (hp : ps[r.p.toNat]? = some p) (hM : ms[r.p.toNat]? = some (some M)) (hs0 : 0 ≤ s') (hs1 : s' < M.ends.length) (ho : (o' : Int) ≤ p.ext r) (hnb : (p.ext r).toNat - o' < nb) (hle : spN' ps ms p M r ((p.ext r).toNat - o') s' ≤ 100) (hhas : HasR H t r) :
    EvP (Wt K L t ps ms R0) (tCall (spRests K n nb) [] E0 (tCons t1 (tCons t2 (tCons t3 (tCons t4 (tCons (tVar i) tNil)))))) σ H fun v H' => ∃ ls : List (List (Nat × Int × Rd)), DT K L H' v (.list (ls.map rsd)) ∧ (∀ l ∈ ls, RsOk ps ms p M r s' (o' : Nat) l) ∧ ls.length ≤ spN' ps ms p M r ((p.ext r).toNat - o') s' := fun H1 w1 Q q => by
  have o : (Wt K L t ps ms R0).Ok := wt K lt
  refine h1 H1 w1 _ fun v1 H2 w2 r1 => h2 H2 (o.trans w1 w2) _ fun v2 H3 w3 r2 => h3 H3 (o.trans (o.trans w1 w2) w3) _ fun v3 H4 w4 r3 => h4 H4 (o.trans (o.trans (o.trans w1 w2) w3) w4) _ fun v4 H5 w5 r4 => ?_
  have w15 := o.trans (o.trans (o.trans (o.trans w1 w2) w3) w4) w5
  refine ⟨_, S.va hi, L, t, ps, ms, R0, r, v1, v2, v3, v4, p, M, s', o', rfl, ⟨o.un w15 hL, lt, DT.mono o (o.trans (o.trans w3 w4) w5) r1, DT.mono o (o.trans w4 w5) r2, DT.mono o w5 r3, (w15.2 tab).1, G, g, hin, hn⟩, r4, hp, hM, hs0, hs1, ho, hnb, hle, (w15.2 tab).2 r hhas, fun v ls H' k' tb' hr' rd hok hlen => q v H' ⟨(((w2.1.trans w3.1).trans w4.1).trans w5.1).trans k', fun hx => ?_⟩ ⟨ls, rd, hok, hlen⟩⟩
  have y := (o.trans (o.trans (o.trans w2 w3) w4) w5).2 hx
  exact ⟨tb', fun r' h => hr' r' (y.2 r' h)⟩
end
abbrev N__law_rests : List Str := ["_law_parts_here", "_law_ways", "_law_region_here", "_law_spot", "_law_table", "_law_ends", "_law_moves", "_law_part", "_law_state", "_law_offset", "_law_back", "_law_found_here", "_law_number", "_law_move", "_law_size", "_law_inner", "_law_rests_here", "_law_reading", "_law_rest"]
abbrev s__law_rests : Stmt := top 63
theorem sc__law_rests : FnScope ["_law_parts_here", "_law_ways", "_law_region_here", "_law_spot", "_law_table", "_law_ends", "_law_moves", "_law_part", "_law_state", "_law_offset", "_law_back", "_law_found_here", "_law_number", "_law_move", "_law_size", "_law_inner", "_law_rests_here", "_law_reading", "_law_rest"] ["_law_parts_here", "_law_ways", "_law_region_here", "_law_spot", "_law_table"] (defScope s__law_rests) := ⟨rfl, rfl, rfl, by decide +kernel, rfl, by decide +kernel, by decide +kernel⟩
theorem ok__law_rests_step {n nb lv la : Nat} (hla : la ≤ lv) (F : DefA K mg "_law_rests" s__law_rests) (B : Blt mg) (hlv : 2 * n + 2 ≤ lv) (c__law_extent : C8.Cal P w K mg base 1 "_law_extent" (spD K Rextent) []) (c__law_piece : C8.Cal P w K mg base 1 "_law_piece" (spD K R_law_piece) []) (c__law_count : C8.Cal P w K mg base (2 * n + 2) "_law_count" (spCount K n) []) (c__law_rests : C8.Cal P w K mg base lv "_law_rests" (spRests K (n + 1) nb) []) (c__law_all : C8.Cal P w K mg base la "_law_all" (spAll K n) []) : C8.Cal P w K mg base (lv + 1) "_law_rests" (spRests K (n + 1) (nb + 1)) [] := by
  refine cal_by F sc__law_rests rfl rfl rfl (fun _ _ _ _ _ _ us hl => match us, hl with | [_, _, _, _, _], _ => rfl) (fun vs H Q E ⟨_, _, _, _, _, _, _, _, _, _, _, _, _, _, e, _⟩ => by rw [e]; rfl) fun f cdv A outer s H vs Q E hr h => ?_
  obtain ⟨L, t, ps, ms, R0, r, v1, v2, v3, v4, p, M, st, ofs, rfl, cp, rv4, hp, hM, hs0, hs1, hof, hnb, hle, hhas, k⟩ := h
  have o0 := w0 K L
  have hu := hu_of hr
  have hu4 : _ + 64 < cLine := hr.units
  refine ⟨_, (pss_c (ps_asg (pe_ix ix_seq (pv 1) (pe_ix ix_seq (pv 2) pe_int (fun _ _ => rfl)) (fun _ _ => rfl)) (pg_tup rfl (pgs_cons (pg_name (i := 5) sc__law_rests.nd rfl (Or.inl rfl)) (pgs_cons (pg_name (i := 6) sc__law_rests.nd rfl (Or.inl rfl)) pgs_nil))))
  (pss_c (ps_set (i := 7) sc__law_rests.nd rfl (Or.inl rfl) (pe_ix ix_seq (pv 0) (pe_ix ix_seq (pv 2) pe_int (fun _ _ => rfl)) (fun _ _ => rfl)))
  (pss_c (ps_asg (pv 3) (pg_tup rfl (pgs_cons (pg_name (i := 8) sc__law_rests.nd rfl (Or.inl rfl)) (pgs_cons (pg_name (i := 9) sc__law_rests.nd rfl (Or.inl rfl)) pgs_nil))))
  (pss_c (ps_set (i := 10) sc__law_rests.nd rfl (Or.inl rfl) (pe_op op_sub (C8.pe_c c__law_extent hr (by omega) rfl (pa_cons (pv 7) (pa_cons (pv 2) pa_nil))) (pv 9)))
  (pss_c (ps_set (i := 11) sc__law_rests.nd rfl (Or.inl rfl) (pe_lst pa_nil))
  (pss_c (ps_if (PW.pt (pw_and (pt_cmpR (op_Q hu4) (pv 10) pe_int (nomark _)) (pw_and1 (pt_val (pe_ix ix_seq (pv 5) (pv 8) (fun _ _ => rfl)))))) (pss_one (ps_expr (pe_bm PySem.F.plainAttrs_list PySem.F.slot_list_append PySem.F.type_list_append mt_append (pv 11) (pa_cons (pe_tup pa_nil) pa_nil)))) pss_nil)
  (pss_c (ps_for PassesOwn.never rfl (pi_range1 (by rfl) B.range (pa_cons (pe_callB call_len (by rfl) B.len PySem.boot_len (pa_cons (pv 6) pa_nil)) pa_nil)) (pg_name (i := 12) sc__law_rests.nd rfl (Or.inr rfl)) (pss_c (ps_set (i := 13) sc__law_rests.nd rfl (Or.inl rfl) (pe_ix ix_seq (pv 6) (pv 12) (fun _ _ => rfl)))
  (pss_one (ps_if (pt_cmpR (op_Q hu4) (pe_ix ix_seq (pv 13) pe_int (fun _ _ => rfl)) (pv 8) (nomark _)) (pss_one (ps_for PassesOwn.never rfl (pi_range2 (by rfl) B.range (pa_cons (pe_ix ix_seq (pv 13) pe_int (fun _ _ => rfl)) (pa_cons (pe_op op_add (pe_callB (call_min2 rfl) (by rfl) B.min (by decide +kernel) (pa_cons (pe_ix ix_seq (pv 13) pe_int (fun _ _ => rfl)) (pa_cons (pv 10) pa_nil))) pe_int) pa_nil))) (pg_name (i := 14) sc__law_rests.nd rfl (Or.inr rfl)) (pss_c (ps_set (i := 15) sc__law_rests.nd rfl (Or.inl rfl) (C8.pe_c c__law_piece hr (by omega) rfl (pa_cons (pv 7) (pa_cons (pv 2) (pa_cons (pe_ix ix_seq (pv 13) pe_int (fun _ _ => rfl)) (pa_cons (pv 9) (pa_cons (pv 14) pa_nil)))))))
  (pss_one (ps_if (PW.pt (pw_and (pt_cmpR op_gt (pe_dget hu (pe_dget hu (pv 4) (pv 2) (fun _ _ => rfl)) (pe_tup (pa_cons (pe_ix ix_seq (pv 13) pe_int (fun _ _ => rfl)) (pa_cons (pe_op op_add (pv 9) (pv 14)) pa_nil))) (fun _ _ => rfl)) pe_int (nomark _)) (pw_and1 (pt_cmpR op_gt (C8.pe_c c__law_count hr (by omega) rfl (pa_cons (pv 0) (pa_cons (pv 1) (pa_cons (pv 15) (pa_cons (pv 4) pa_nil))))) pe_int (nomark _))))) (pss_c (ps_set (i := 16) sc__law_rests.nd rfl (Or.inl rfl) (C8.pe_c c__law_rests hr (by omega) rfl (pa_cons (pv 0) (pa_cons (pv 1) (pa_cons (pv 2) (pa_cons (pe_tup (pa_cons (pe_ix ix_seq (pv 13) pe_int (fun _ _ => rfl)) (pa_cons (pe_op op_add (pv 9) (pv 14)) pa_nil))) (pa_cons (pv 4) pa_nil)))))))
  (pss_one (ps_for PassesOwn.never rfl (pi_list (C8.pe_c c__law_all hr (by omega) rfl (pa_cons (pv 0) (pa_cons (pv 1) (pa_cons (pv 15) (pa_cons (pv 4) pa_nil)))))) (pg_name (i := 17) sc__law_rests.nd rfl (Or.inr rfl)) (pss_one (ps_set (i := 11) sc__law_rests.nd rfl (Or.inl rfl) (pe_op op_cat (pv 11) (pe_lc (own := [("_law_rest", 18)]) rfl sc__law_rests.nd (pi_list (pv 16)) (blkOk_by (N := N__law_rests) (sc := defScope s__law_rests) (by decide +kernel)) (fun _ _ _ _ _ => (pg_name (i := 18) sc__law_rests.nd rfl (Or.inl rfl))) (fun _ _ _ _ _ => pts_nil) (fun _ _ _ _ _ => (pe_op (r := rCatA K) op_catA (pe_tup (pa_cons (pe_tup (pa_cons (pv 12) (pa_cons (pv 14) (pa_cons (pv 17) pa_nil)))) pa_nil)) (pv 18)))))))))) pss_nil))))) pss_nil))))
  (pss_one (ps_ret (pv 11)))))))))), ?_⟩
  have S : Sl (W0 K L) H (start N__law_rests [v1, v2, v3, v4, .ref t]) [.da (pts ps), .da (mcs ms), .da r.d, .da (.tuple [.int st, .int (ofs : Nat)]), .va (.ref t), .un, .un, .un, .un, .un, .un, .un, .un, .un, .un, .un, .un, .un, .un] := .cons ⟨_, rfl, cp.d1⟩ (.cons ⟨_, rfl, cp.d2⟩ (.cons ⟨_, rfl, cp.d3⟩ (.cons ⟨_, rfl, rv4⟩ (.cons (s := .va _) rfl (Sl.ofD (vs := []) (ds := []) 14 .nil)))))
  have G := cp.G
  have g := cp.g
  have hin := cp.ins
  have oW : (Wt K L t ps ms R0).Ok := wt K cp.lt
  have hpd : (ps.map Pt.d)[r.p.toNat]? = some p.d := by rw [List.getElem?_map, hp]; rfl
  have hmd : (ms.map mchD)[r.p.toNat]? = some M.d := by rw [List.getElem?_map, hM]; rfl
  obtain ⟨hst, gm, g1, g5, gg⟩ := G.mch hp hM
  have hext := hin.ext g p
  obtain ⟨F', hF⟩ : ∃ F' : Nat, p.ext r = (F' : Int) := ⟨(p.ext r).toNat, by omega⟩
  have hF' : (p.ext r).toNat = F' := by omega
  rw [hF'] at hnb
  obtain ⟨bk, hbk⟩ : ∃ bk : Nat, F' - ofs = bk := ⟨_, rfl⟩
  have hofF : ofs ≤ F' := by omega
  let Sg := spN' ps ms p M r
  have hseq : ∀ (b : Nat) (s : Int), Sg b s = baseN M b s + (M.moves.map (stepN (cN ps ms) Sg p r F' b s)).sum := fun b s => by
    show spC _ _ _ _ _ _ _ = _
    rw [hF', spC_eq gm b s]
    show _ = baseN M b s + (M.moves.map (stepN (cN ps ms) (spC (cN ps ms) p M r (p.ext r).toNat) p r F' b s)).sum
    rw [hF']
  have htot : Sg bk st ≤ 100 := by
    show spN' ps ms p M r bk st ≤ 100
    rw [← hbk, ← hF']
    exact hle
  refine s_asg o0 (e_ixTz o0 (ds := ms.map mchD) (d := M.d) (e_var o0 S rfl) (e_rg o0 (r := r) (e_var o0 S rfl) 0) hin.p0 hmd) fun v H1 w1 r1 => g_pair r1 fun x y rx ry => ?_
  have S1 := ((S.mono o0 w1).putD (i := 5) rx).putD (i := 6) ry
  refine s_set o0 (e_ixTz o0 (ds := ps.map Pt.d) (e_var o0 S1 rfl) (e_rg o0 (r := r) (e_var o0 S1 rfl) 0) hin.p0 hpd) fun v6 H2 w2 r2 => ?_
  have S2 := (S1.mono o0 w2).putD (i := 7) r2
  have w02 : Kp No H H2 := w1.trans w2
  refine s_asg o0 (e_var o0 S2 rfl) fun v H3 w3 r3 => g_pair r3 fun x y rx ry => ?_
  have S3 := ((S2.mono o0 w3).putD (i := 8) rx).putD (i := 9) ry
  have w03 : Kp No H H3 := w02.trans w3
  refine s_set o0 (e_sub o0 (i := p.ext r) (j := (ofs : Nat)) (e_call o0 (w03.un cp.un) (a_cons o0 (e_var o0 S3 rfl) (a_cons o0 (e_var o0 S3 rfl) (a_nil o0))) ⟨p, r, rfl, rfl⟩) (e_var o0 S3 rfl)) fun v7 H4 w4 r4 => ?_
  rw [show p.ext r - ((ofs : Nat) : Int) = (bk : Int) by omega] at r4
  have S4 := (S3.mono o0 w4).putD (i := 10) r4
  have w04 : Kp No H H4 := w03.trans w4
  refine s_new (i := 11) S4 fun q hq S5 => ?_
  have fq : H q = none := w04.free hq
  have hqL : ¬ L q := fun l => (w04.un cp.un) q l hq
  have hq5 : upd H4 q (.lst []) q = some (.lst []) := upd_same
  have w05 : Kp No H4 (upd H4 q (.lst [])) := Kp.new hq
  have kend : ∀ {H'}, Kp (· = q) (upd H4 q (.lst [])) H' → Kp No H H' := fun {H'} k' => w04.trans ((Kp.new hq).loc hq k')
  generalize upd H4 q (.lst []) = H5 at S5 hq5 kend ⊢
  have oq := w0 K (Lp L q)
  have hend : (M.ends.map PyData.bool)[st.toNat]? = some (.bool (M.ends.getD st.toNat false)) := by
    rw [List.getElem?_map, List.getD_eq_getElem?_getD]
    cases e : M.ends[st.toNat]? with
    | none => have := List.getElem?_eq_none_iff.mp e; omega
    | some b => rfl
  have hb2 : (decide ((bk : Int) = 0) && M.ends.getD st.toNat false) = true ↔ baseN M bk st = 1 := by
    unfold baseN
    have : decide ((bk : Int) = 0) = decide (bk = 0) := by
      rw [decide_eq_decide]
      omega
    rw [this]
    split
    · rename_i h; exact ⟨fun _ => rfl, fun _ => h⟩
    · rename_i h; exact ⟨fun z => absurd z h, fun z => by cases z⟩
  refine s_ifApp (P := fun v H' => DT K (Lp L q) H' v (.tuple [])) S5 rfl hq5 (by rw [sizeLine_eq]; decide) (t_and oq (t_test oq (e_eqI oq (e_var oq S5 rfl) (e_int oq))) fun _ => t_B oq (e_ixTz oq (ds := M.ends.map .bool) (e_var oq S5 rfl) (e_var oq S5 rfl) hs0 hend)) (fun _ H' w' => e_tup oq (a_nil oq)) (.inr rfl) fun H6 k56 S6q hz => ?_
  -- the list as it stands
  obtain ⟨fs0, xs0, hq6, rx6, hfs0, hl0⟩ : ∃ (fs0 : List (List (Nat × Int × Rd))) (xs0 : List V), H6 q = some (.lst xs0) ∧ DTs K (Lp L q) H6 xs0 (fs0.map rsd) ∧ (∀ l ∈ fs0, RsOk ps ms p M r st ofs l) ∧ fs0.length ≤ baseN M bk st := by
    rcases hz with ⟨hb, v, H'', rv, kp, hqa⟩ | ⟨hb, hqa, _⟩
    · have hb1 := hb2.mp hb
      refine ⟨[[]], _, hqa, .cons (DT.step (M := (· = q)) (fun a (e : a = q) => .inr e) kp rv) .nil, fun l hl => ?_, by rw [hb1]; exact Nat.le_refl _⟩
      rw [List.mem_singleton.mp hl]
      rw [Bool.and_eq_true, decide_eq_true_eq] at hb
      exact .nil (by rw [hF]; omega) hb.2 hs0 hs1
    · exact ⟨[], [], hqa, .nil, fun l hl => by (cases hl), Nat.zero_le _⟩
  have w06 : Kp No H H6 := kend k56
  have S6 : Sl (W0 K L) H6 _ _ := (S6q.lessL (N := L) fun c l => .inl l).reda (i := 11) rfl (DT.lst hqL hq6 (DTs.less (fun c l => .inl l) rx6) : DT K L H6 (.ref q) (.list (fs0.map rsd)))
  have C6 : RC K L t ps ms R0 H H6 _ _ := ⟨w06.mono fun _ z => z.elim, cp.tab.keep w06 (fun _ z => z.elim) (fun z => z.elim), fun r' h => h.keep w06 (fun z => z.elim), S6⟩
  let ρ0 : List Ds := [.da (pts ps), .da (mcs ms), .da r.d, .da (.tuple [.int st, .int (ofs : Nat)]), .va (.ref t), .da (.tuple (M.ends.map .bool)), .da (mvs M.moves), .da p.d, .da (.int st), .da (.int (ofs : Nat)), .da (.int (bk : Int))]
  refine s_for1 o0 (n := (M.moves.length : Int)) (a_cons o0 (by have := e_lenT o0 (ds := M.moves.map Mv.d) (e_var o0 (i := 6) C6.sl rfl); rw [List.length_map] at this; exact this) (a_nil o0)) (by have := gm.n; omega) (by omega)
    (fun l σ' H' => ∃ (fs : List (List (Nat × Int × Rd))) (b12 b13 b14 b15 b16 b17 b18 : Ds), RC K L t ps ms R0 H H' σ' (ρ0 ++ [.da (.list (fs.map rsd)), b12, b13, b14, b15, b16, b17, b18]) ∧ (∀ l ∈ fs, RsOk ps ms p M r st ofs l) ∧ fs.length ≤ baseN M bk st + ((M.moves.take l).map (stepN (cN ps ms) Sg p r F' bk st)).sum)
    (fun H' w' => ⟨fs0, _, _, _, _, _, _, _, C6.w0 w', hfs0, hl0⟩)
    (fun l σ7 H7 hl ⟨fs, b12, b13, b14, b15, b16, b17, b18, C7, hfs, hlen⟩ => ?_) (fun σ7 H7 ⟨fs, b12, b13, b14, b15, b16, b17, b18, C7, hfs, hlen⟩ => ?_)
  · have hl' : l < M.moves.length := by omega
    obtain ⟨m, hmv⟩ : ∃ m, M.moves[l]? = some m := ⟨M.moves[l], List.getElem?_eq_getElem hl'⟩
    have hmm := List.mem_of_getElem? hmv
    obtain ⟨m1, m2, m3⟩ := gm.g m hmm
    obtain ⟨q0, q1, q2, q3, q4, _⟩ := gg m hmm
    have qt0 := (gm.t m hmm).1
    have S8 := C7.sl.putD (i := 12) (.int (l : Int))
    refine s_set o0 (e_ixT o0 (ds := M.moves.map Mv.d) (i := l) (d := m.d) (e_var o0 S8 rfl) (e_var o0 S8 rfl) (by rw [List.getElem?_map, hmv]; rfl)) fun v9 H9 w9 r9 => ?_
    have C9 := (C7.w0 w9).set ((S8.mono o0 w9).putD (i := 13) r9)
    have hall : ((M.moves.take (l + 1)).map (stepN (cN ps ms) Sg p r F' bk st)).sum + ((M.moves.drop (l + 1)).map (stepN (cN ps ms) Sg p r F' bk st)).sum = (M.moves.map (stepN (cN ps ms) Sg p r F' bk st)).sum := by
      rw [← List.sum_append, ← List.map_append, List.take_append_drop]
    have htot2 := hseq bk st
    rw [sum_take_succ _ hmv] at hall ⊢
    generalize hacc : ((M.moves.take l).map (stepN (cN ps ms) Sg p r F' bk st)).sum = acc at hlen hall ⊢
    refine s_if o0 (t_test o0 (e_eqI o0 (e_mv o0 (m := m) (e_var o0 C9.sl rfl) 0) (e_var o0 C9.sl rfl))) (fun c H10 w10 => ?_) (fun c H10 w10 => ?_)
    · have ho : m.o = st := of_decide_eq_true c
      have C10 := C9.w0 w10
      have est : stepN (cN ps ms) Sg p r F' bk st m = ((m.sizes (bk : Nat)).map fun z => Sg (bk - z.toNat) m.t * cN ps ms (p.piece r ((F' : Int) - bk) m.p z)).sum := by
        unfold stepN
        rw [if_pos ho]
      rw [est] at hall ⊢
      have hoff : (F' : Int) - bk = (ofs : Nat) := by omega
      rw [hoff] at hall ⊢
      refine s_for2 o0 (a := m.l) (b := min m.m (bk : Int) + 1) (a_cons o0 (e_mv o0 (m := m) (e_var o0 C10.sl rfl) 3) (a_cons o0 (e_add o0 (e_min2 o0 (e_mv o0 (m := m) (e_var o0 C10.sl rfl) 4) (e_var o0 C10.sl rfl)) (e_int o0)) (a_nil o0))) (by omega) (by omega) (by omega) (by omega)
        (fun z σ' H' => ∃ (fs : List (List (Nat × Int × Rd))) (b14 b15 b16 b17 b18 : Ds), RC K L t ps ms R0 H H' σ' (ρ0 ++ [.da (.list (fs.map rsd)), .da (.int (l : Int)), .da m.d, b14, b15, b16, b17, b18]) ∧ (∀ l ∈ fs, RsOk ps ms p M r st ofs l) ∧ fs.length ≤ baseN M bk st + (acc + (((m.sizes (bk : Nat)).take z).map fun z => Sg (bk - z.toNat) m.t * cN ps ms (p.piece r (ofs : Nat) m.p z)).sum))
        (fun H' w' => ⟨fs, _, _, _, _, _, C10.w0 w', hfs, hlen⟩) (fun z σ12 H12 hz ⟨fs, b14, b15, b16, b17, b18, C12, hfs12, hl12⟩ => ?_) (fun σ12 H12 ⟨fs, b14, b15, b16, b17, b18, C12, hfs12, hl12⟩ => ?_)
      · have S12 := C12.sl.putD (i := 14) (.int (m.l + (z : Int)))
        have hzl : m.l + (z : Int) ≤ bk := by omega
        have hz1 : 1 ≤ m.l + (z : Int) := by omega
        obtain ⟨zn, hzn⟩ : ∃ zn : Nat, m.l + (z : Int) = (zn : Int) := ⟨(m.l + (z : Int)).toNat, by omega⟩
        have hzm : m.l + (z : Int) ≤ m.m := by omega
        have hsz := sizes_get (m := m) (left := (bk : Nat)) (j := z) (by omega)
        -- this size's share of the whole
        have hshare : Sg (bk - zn) m.t * cN ps ms (p.piece r (ofs : Nat) m.p zn) ≤ 100 := by
          have hmem : (m.l + (z : Int)) ∈ m.sizes (bk : Nat) := List.mem_of_getElem? hsz
          have h1 := le_sum (List.mem_map.mpr ⟨_, hmem, rfl⟩ : (fun z => Sg (bk - z.toNat) m.t * cN ps ms (p.piece r (ofs : Nat) m.p z)) (m.l + (z : Int)) ∈ (m.sizes (bk : Nat)).map fun z => Sg (bk - z.toNat) m.t * cN ps ms (p.piece r (ofs : Nat) m.p z))
          rw [hzn] at h1
          have h2 : Sg (bk - zn) m.t * cN ps ms (p.piece r (ofs : Nat) m.p zn) ≤ ((m.sizes (bk : Nat)).map fun z => Sg (bk - z.toNat) m.t * cN ps ms (p.piece r (ofs : Nat) m.p z)).sum := h1
          omega
        have hlb : baseN M bk st + (acc + (((m.sizes (bk : Nat)).take z).map fun z => Sg (bk - z.toNat) m.t * cN ps ms (p.piece r (ofs : Nat) m.p z)).sum) ≤ 100 := by
          have := sum_take_le (fun z : Int => Sg (bk - z.toNat) m.t * cN ps ms (p.piece r (ofs : Nat) m.p z)) (m.sizes (bk : Nat)) z
          omega
        rw [sum_take_succ _ hsz]
        generalize (((m.sizes (bk : Nat)).take z).map fun z => Sg (bk - z.toNat) m.t * cN ps ms (p.piece r (ofs : Nat) m.p z)).sum = acc2 at hl12 hlb ⊢
        rw [hzn] at S12 hz1 hzl hzm ⊢
        rw [show ((zn : Nat) : Int).toNat = zn from rfl]
        have un12 : ∀ c, L c → H12 c ≠ none := C12.kp.un cp.un
        refine s_set o0 (e_call o0 un12 (a_cons o0 (e_var o0 S12 rfl) (a_cons o0 (e_var o0 S12 rfl) (a_cons o0 (e_mv o0 (m := m) (e_var o0 S12 rfl) 2) (a_cons o0 (e_var o0 S12 rfl) (a_cons o0 (e_var o0 S12 rfl) (a_nil o0)))))) ⟨p, r, (ofs : Nat), m.p, zn, rfl, rfl⟩) fun v13 H13 w13 r13 => ?_
        have C13 := (C12.w0 w13).set ((S12.mono o0 w13).putD (i := 15) r13)
        have hip : Ins ps R0 (p.piece r (ofs : Nat) m.p zn) := hin.piece G hp hM hmm (by omega) hz1 (by omega)
        have hpn : (p.piece r (ofs : Nat) m.p zn).p.toNat < n := by rw [piece_p]; have := cp.n; omega
        have SW := C13.sl.cast (C' := Wt K L t ps ms R0) rfl rfl
        have un13 : ∀ c, L c → H13 c ≠ none := C13.kp.un cp.un
        have hlatk : (F' - (ofs + zn) : Nat) = bk - zn := by omega
        have hspot : ∀ {tk : TE}, (∀ H1, (Wt K L t ps ms R0).W H13 H1 → Ed (W0 K L) tk _ H1 (.tuple [.int m.t, .int ((ofs + zn : Nat) : Int)])) → Ed (Wt K L t ps ms R0) (tDGet (tDGet (tVar 4) (tVar 2)) tk) _ H13 (.int (Sg (bk - zn) m.t : Nat)) := fun {tk} hk => by
          have := e_spot (i := 4) (j := 2) cp.lt C13.tab (C13.has r hhas) SW rfl rfl hp hM qt0 q4 (o' := ofs + zn) (by omega) hk
          rw [hF', hlatk] at this
          exact this
        refine s_if oW (t_and oW (t_test oW (e_cmp oW (hspot fun H1 w1 => by
          have S1' := (SW.mono oW w1).cast (C' := W0 K L) rfl rfl
          rw [show ((ofs + zn : Nat) : Int) = ((ofs : Nat) : Int) + zn by omega]
          exact e_tup o0 (a_cons o0 (e_mv o0 (m := m) (e_var o0 S1' rfl) 1) (a_cons o0 (e_add o0 (e_var o0 S1' rfl) (e_var o0 S1' rfl)) (a_nil o0)))) (e_int oW))) fun _ => t_test oW (e_cmp oW ((e_callCt (n := n) un13 cp.lt C13.tab G g hip hpn SW rfl (e_var oW SW rfl) (e_var oW SW rfl) (e_var oW SW rfl)).imp (fun v H' _ e => by rw [e.1]; exact .int _) oW) (e_int oW))) (fun c2 H14 w14 => ?_) (fun c2 H14 w14 => ?_)
        · have C14 := C13.wt cp.lt w14
          rw [Bool.and_eq_true, decide_eq_true_eq, decide_eq_true_eq] at c2
          obtain ⟨c2a, c2b⟩ := c2
          generalize hA : Sg (bk - zn) m.t = A1 at hshare c2a ⊢
          generalize hB : cN ps ms (p.piece r (ofs : Nat) m.p zn) = B1 at hshare c2b ⊢
          have hA1 : 1 ≤ A1 := by omega
          have hB1 : 1 ≤ B1 := by omega
          have hA100 : A1 ≤ 100 := Nat.le_trans (Nat.le_mul_of_pos_right _ hB1) hshare
          have hB100 : B1 ≤ 100 := Nat.le_trans (Nat.le_mul_of_pos_left _ hA1) hshare
          have SW14 := C14.sl.cast (C' := Wt K L t ps ms R0) rfl rfl
          have un14 : ∀ c, L c → H14 c ≠ none := C14.kp.un cp.un
          refine s_set oW (e_callRe (n := n + 1) (nb := nb) (s' := m.t) (o' := ofs + zn) un14 cp.lt C14.tab G g hin cp.n SW14 rfl (e_var oW SW14 rfl) (e_var oW SW14 rfl) (e_var oW SW14 rfl) (by
            rw [show ((ofs + zn : Nat) : Int) = ((ofs : Nat) : Int) + zn by omega]
            exact e_tup oW (a_cons oW (e_mv oW (m := m) (e_var oW SW14 rfl) 1) (a_cons oW (e_add oW (e_var oW SW14 rfl) (e_var oW SW14 rfl)) (a_nil oW)))) hp hM qt0 q4 (by omega) (by omega) (by rw [hF', hlatk]; show Sg _ _ ≤ 100; omega) (C14.has r hhas)) fun v15 H15 w15 hz15 => ?_
          obtain ⟨lr, r15, hlr, hlrl⟩ := hz15
          rw [hF', hlatk] at hlrl
          have hlrl' : lr.length ≤ A1 := by rw [← hA]; exact hlrl
          have C15 := (C14.wt cp.lt w15).set (((SW14.mono oW w15).cast (C' := W0 K L) rfl rfl).putD (i := 16) r15)
          have SW15 := C15.sl.cast (C' := Wt K L t ps ms R0) rfl rfl
          have un15 : ∀ c, L c → H15 c ≠ none := C15.kp.un cp.un
          refine s_forEv oW (e_callAl (n := n) un15 cp.lt C15.tab G g hip hpn (by rw [hB]; exact hB100) SW15 rfl (e_var oW SW15 rfl) (e_var oW SW15 rfl) (e_var oW SW15 rfl)) fun v16 H16 w16 hz16 => ?_
          obtain ⟨la, r16, hla, hlal⟩ := hz16
          rw [hB] at hlal
          have C16 := C15.wt cp.lt w16
          refine s_forN o0 (ds := la.map Rd.d) (e_c o0 r16) (fun y σ' H' => ∃ (fs : List (List (Nat × Int × Rd))) (b17 b18 : Ds), RC K L t ps ms R0 H H' σ' (ρ0 ++ [.da (.list (fs.map rsd)), .da (.int (l : Int)), .da m.d, .da (.int (zn : Int)), .da (p.piece r (ofs : Nat) m.p zn).d, .da (.list (lr.map rsd)), b17, b18]) ∧ (∀ l ∈ fs, RsOk ps ms p M r st ofs l) ∧ fs.length ≤ baseN M bk st + (acc + acc2) + y * lr.length) (M := No) (fun a z => z.elim)
            (fun H' w' => ⟨fs, _, _, C16.w0 w', hfs12, by rw [Nat.zero_mul]; exact hl12⟩) (fun H17 w17 y d v σ18 H18 hy rd k1718 ⟨fs, b17, b18, C18, hfs18, hl18⟩ => ?_) (fun H17 w17 σ18 H18 k1718 ⟨fs, b17, b18, C18, hfs18, hl18⟩ => ?_)
          · rw [List.getElem?_map] at hy
            cases hyr : la[y]? with
            | none => rw [hyr] at hy; cases hy
            | some rd0 =>
              rw [hyr] at hy
              cases hy
              have hyl : y < la.length := (List.getElem?_eq_some_iff.mp hyr).1
              have S19 := C18.sl.putD (i := 17) rd
              have un18 : ∀ c, L c → H18 c ≠ none := C18.kp.un cp.un
              have hyb : y * lr.length ≤ 100 * 100 := Nat.mul_le_mul (by omega) (by omega)
              have hgoal : lcF (lr.map rsd).length (fun _ => true) (fun i => rsd ((l, (zn : Int), rd0) :: lr.getD i [])) = (lr.map fun x => (l, (zn : Int), rd0) :: x).map rsd := by
                have := lcF_list ([] : List (Nat × Int × Rd)) (fun _ => true) (fun x => rsd ((l, (zn : Int), rd0) :: x)) lr
                rw [List.filter_eq_self.mpr (fun _ _ => rfl)] at this
                rw [List.length_map, this, List.map_map]
                rfl
              refine s_set o0 (e_catL un18 (ds := fs.map rsd) (es := lcF (lr.map rsd).length (fun _ => true) (fun i => rsd ((l, (zn : Int), rd0) :: lr.getD i []))) (e_var o0 S19 rfl) (e_lcL un18 (e_var o0 S19 rfl) (by rw [List.length_map]; omega) (fun v => wipe_one _ _ _) fun D Ha Hb hD ka kb unD kS i d v hi rdv => ⟨fun H1 w Q q => q true H1 (Kp.refl _ _) rfl, fun _ H2 k2 => ?_⟩) (by rw [hgoal]; rw [List.length_map, List.length_map, List.length_map]; omega)) fun v19 H19 w19 r19 => ?_
              · have oD := w0 K (Lp L D)
                have SD := ((kS _ S19).putD (i := 18) rdv).mono oD k2
                rw [List.getElem?_map] at hi
                cases hx : lr[i]? with
                | none => rw [hx] at hi; cases hi
                | some x =>
                  rw [hx] at hi
                  cases hi
                  rw [getD_of hx]
                  have hxl := (hlr x (List.mem_of_getElem? hx)).len gm
                  exact e_cat oD (ds := [.tuple [.int (l : Nat), .int zn, rd0.d]]) (es := Rd.ds x) (e_tup oD (a_cons oD (e_tup oD (a_cons oD (e_var oD SD rfl) (a_cons oD (e_var oD SD rfl) (a_cons oD (e_var oD SD rfl) (a_nil oD))))) (a_nil oD))) (e_var oD SD rfl) (by
                    rw [Rd.ds_map, List.length_map]
                    show 1 + x.length ≤ 1000
                    omega)
              · rw [hgoal, ← List.map_append] at r19
                refine ⟨k1718.trans w19, fs ++ (lr.map fun x => (l, (zn : Int), rd0) :: x), _, _, (C18.w0 w19).set ((S19.mono o0 w19).putD (i := 11) r19), fun x hx => ?_, ?_⟩
                · rcases List.mem_append.mp hx with h | h
                  · exact hfs18 x h
                  · obtain ⟨x', hx', rfl⟩ := List.mem_map.mp h
                    have hrs := hlr x' hx'
                    rw [show ((ofs + zn : Nat) : Int) = ((ofs : Nat) : Int) + zn by omega] at hrs
                    exact .cons hmv ho (by omega) hzm (by omega) (hla _ (List.mem_of_getElem? hyr)) hrs
                · rw [List.length_append, List.length_map, Nat.add_mul, Nat.one_mul]
                  omega
          · rw [List.length_map] at hl18
            refine ⟨fs, _, _, _, _, _, C18, hfs18, ?_⟩
            have : la.length * lr.length ≤ B1 * A1 := Nat.mul_le_mul hlal hlrl'
            rw [Nat.mul_comm B1 A1] at this
            omega
        · exact ⟨fs, _, _, _, _, _, C13.wt cp.lt w14, hfs12, by omega⟩
      · have hfull : (m.sizes (bk : Nat)).take (min m.m (bk : Int) + 1 - m.l).toNat = m.sizes (bk : Nat) := by
          rw [← sizes_length, List.take_length]
        rw [hfull] at hl12
        exact ⟨fs, _, _, _, _, _, _, _, C12, hfs12, hl12⟩
    · have hno : ¬ m.o = st := of_decide_eq_false c
      have est : stepN (cN ps ms) Sg p r F' bk st m = 0 := by
        unfold stepN
        rw [if_neg hno]
      rw [est, Nat.add_zero]
      exact ⟨fs, _, _, _, _, _, _, _, C9.w0 w10, hfs, hlen⟩
  · rw [show ((M.moves.length : Int)).toNat = M.moves.length from rfl, List.take_length, ← hseq] at hlen
    refine s_ret o0 (e_var o0 C7.sl rfl) fun v8 H8 w8 r8 => ?_
    have C8 := C7.w0 w8
    refine k v8 fs H8 C8.kp C8.tab C8.has r8 hfs ?_
    rw [hF', hbk]
    exact hlen
end
end SR

namespace SR
open PySem PySem.Spec PyProof.Rows L2
section
variable {P : Program} {w : World} {K : PySem.W.Frag} {mg : Str → Option Value} {base : Heap}
theorem e_rep1 {L : Addr → Prop} {H : Hp} {σ : L2.St} {ta tb : TE} {d : PyData} {k : Int} (hL : ∀ c, L c → H c ≠ none) (ha : Ed (W0 K L) ta σ H (.list [d])) (hb : Ed (W0 K L) tb σ H (.int k)) (h0 : 0 ≤ k) (h1 : k ≤ 1000000) : Ed (W0 K L) (tOp rRep ta tb) σ H (.list (List.replicate k.toNat d)) := fun H1 w Q q =>
  ha H1 w _ fun x H2 w2 r => hb H2 (Kp.trans w w2) _ fun y H3 w3 ry => by
    obtain ⟨a, xs, rfl, n, e, rx⟩ := r.lstI
    obtain ⟨u, rfl, ru⟩ := rx.one
    have e3 : H3 a = some (.lst [u]) := w3.lst (fun z => z.elim) e
    refine ⟨a, k, [u], rfl, ry.intI, e3, by omega, by omega, by rw [sizeLine_eq]; simp; omega, fun p hp => q _ _ ((Kp.trans w2 w3).trans (Kp.new hp)) (.lst (fun l => hL p l ((Kp.trans (Kp.trans w w2) w3).free hp)) upd_same ?_)⟩
    have ru3 : DT K L (upd H3 p (.lst (List.replicate k.toNat [u]).flatten)) u d := DT.mono (w0 K L) (w3.trans (Kp.new hp)) ru
    generalize upd H3 p (.lst (List.replicate k.toNat [u]).flatten) = H4 at ru3
    induction k.toNat with
    | zero => exact .nil
    | succ n ih =>
      rw [List.replicate_succ, List.replicate_succ, List.flatten_cons]
      exact .cons ru3 ih
abbrev N__law_all : List Str := ["_law_parts_here", "_law_ways", "_law_region_here", "_law_table", "_law_many"]
abbrev s__law_all : Stmt := top 64
theorem sc__law_all : FnScope ["_law_parts_here", "_law_ways", "_law_region_here", "_law_table", "_law_many"] ["_law_parts_here", "_law_ways", "_law_region_here", "_law_table"] (defScope s__law_all) := ⟨rfl, rfl, rfl, by decide +kernel, rfl, by decide +kernel, by decide +kernel⟩
theorem ok__law_all_step {n lv : Nat} (F : DefA K mg "_law_all" s__law_all) (B : Blt mg) (hlv : 2 * n + 2 ≤ lv) (c__law_count : C8.Cal P w K mg base (2 * n + 2) "_law_count" (spCount K n) []) (c__law_strip : C8.Cal P w K mg base 1 "_law_strip" (spD K RisStrip) []) (c__law_rests : C8.Cal P w K mg base lv "_law_rests" (spRests K n 7) []) : C8.Cal P w K mg base (lv + 1) "_law_all" (spAll K n) [] := by
  refine cal_by F sc__law_all rfl rfl rfl (fun _ _ _ _ _ _ us hl => match us, hl with | [_, _, _, _], _ => rfl) (fun vs H Q E ⟨_, _, _, _, _, _, _, _, _, e, _⟩ => by rw [e]; rfl) fun f cdv A outer s H vs Q E hr h => ?_
  obtain ⟨L, t, ps, ms, R0, r, v1, v2, v3, rfl, cp, h100, k⟩ := h
  have o0 := w0 K L
  have oW : (Wt K L t ps ms R0).Ok := wt K cp.lt
  refine ⟨_, (pss_c (ps_set (i := 4) sc__law_all.nd rfl (Or.inl rfl) (C8.pe_c c__law_count hr (by omega) rfl (pa_cons (pv 0) (pa_cons (pv 1) (pa_cons (pv 2) (pa_cons (pv 3) pa_nil))))))
  (pss_c (ps_if (pt_val (C8.pe_c c__law_strip hr (by omega) rfl (pa_cons (pe_ix ix_seq (pv 0) (pe_ix ix_seq (pv 2) pe_int (fun _ _ => rfl)) (fun _ _ => rfl)) pa_nil))) (pss_one (ps_ret (C8.pe_c c__law_rests hr (by omega) rfl (pa_cons (pv 0) (pa_cons (pv 1) (pa_cons (pv 2) (pa_cons (pe_tup (pa_cons pe_int (pa_cons pe_int pa_nil))) (pa_cons (pv 3) pa_nil)))))))) pss_nil)
  (pss_one (ps_ret (pe_op op_rep (pe_lst (pa_cons (pe_tup pa_nil) pa_nil)) (pv 4)))))), ?_⟩
  have S : Sl (W0 K L) H (start N__law_all [v1, v2, v3, .ref t]) [.da (pts ps), .da (mcs ms), .da r.d, .va (.ref t), .un] := .cons ⟨_, rfl, cp.d1⟩ (.cons ⟨_, rfl, cp.d2⟩ (.cons ⟨_, rfl, cp.d3⟩ (.cons (s := .va _) rfl (Sl.ofD (vs := []) (ds := []) 1 .nil))))
  have G := cp.G
  have g := cp.g
  have hin := cp.ins
  obtain ⟨p, hp⟩ := hin.part
  have hpd : (ps.map Pt.d)[r.p.toNat]? = some p.d := by rw [List.getElem?_map, hp]; rfl
  have C0 : RC K L t ps ms R0 H H _ _ := ⟨Kp.refl _ _, cp.tab, fun r' h => h, S⟩
  have SW := S.cast (C' := Wt K L t ps ms R0) rfl rfl
  refine s_set oW (e_callCt (n := n) cp.un cp.lt cp.tab G g hin cp.n SW rfl (e_var oW SW rfl) (e_var oW SW rfl) (e_var oW SW rfl)) fun v1 H1 w1 ⟨e1, hh1⟩ => ?_
  subst e1
  have C1 := (C0.wt cp.lt w1).set (((SW.mono oW w1).cast (C' := W0 K L) rfl rfl).putD (i := 4) (DT.int ((cN ps ms r : Nat) : Int)))
  have un1 : ∀ c, L c → H1 c ≠ none := C1.kp.un cp.un
  have hext := hin.ext g p
  refine s_if o0 (t_B o0 (e_call o0 un1 (a_cons o0 (e_ixTz o0 (ds := ps.map Pt.d) (e_var o0 C1.sl rfl) (e_rg o0 (r := r) (e_var o0 C1.sl rfl) 0) hin.p0 hpd) (a_nil o0)) ⟨p, rfl, rfl⟩)) (fun cs H2 w2 => ?_) (fun cs H2 w2 => ?_)
  · obtain ⟨M, hM, gm, g1, g5, gg⟩ := G.strip _ p hp cs
    have C2 := C1.w0 w2
    have SW2 := C2.sl.cast (C' := Wt K L t ps ms R0) rfl rfl
    have hcn := cN_strip G hp hM
    refine s_ret oW (e_callRe (n := n) (nb := 7) (p := p) (M := M) (s' := 0) (o' := 0) (C2.kp.un cp.un) cp.lt C2.tab G g hin cp.n SW2 rfl (e_var oW SW2 rfl) (e_var oW SW2 rfl) (e_var oW SW2 rfl) (e_tup oW (a_cons oW (e_int oW) (a_cons oW (e_int oW) (a_nil oW)))) hp hM (Int.le_refl _) (by omega) (by omega) (by omega) (by rw [Nat.sub_zero, ← hcn]; exact h100) (hh1.keep w2 (fun z => z.elim))) fun v3 H3 w3 ⟨ls, r3, hok, hlen⟩ => ?_
    have C3 := C2.wt cp.lt w3
    rw [Nat.sub_zero, ← hcn] at hlen
    refine k v3 (ls.map Rd.mk) H3 C3.kp C3.tab C3.has (by rw [List.map_map]; exact r3) (fun x hx => ?_) (by rw [List.length_map]; exact hlen)
    obtain ⟨l, hl, rfl⟩ := List.mem_map.mp hx
    exact .strip hp hM (hok l hl)
  · have C2 := C1.w0 w2
    have hcn := cN_leaf G hp cs
    refine s_ret o0 (e_rep1 (K := K) (L := L) (C2.kp.un cp.un) (d := .tuple []) (e_lst o0 (C2.kp.un cp.un) (a_cons o0 (e_tup o0 (a_nil o0)) (a_nil o0))) (e_var o0 C2.sl rfl) (by omega) (by omega)) fun v3 H3 w3 r3 => ?_
    have C3 := C2.w0 w3
    rw [show ((cN ps ms r : Nat) : Int).toNat = cN ps ms r from rfl] at r3
    refine k v3 (List.replicate (cN ps ms r) (Rd.mk [])) H3 C3.kp C3.tab C3.has (by rw [List.map_replicate]; exact r3) (fun x hx => ?_) (by rw [List.length_replicate]; exact Nat.le_refl _)
    obtain ⟨h1, rfl⟩ := List.mem_replicate.mp hx
    refine .leaf hp cs ?_
    cases e : p.fits r with
    | true => rfl
    | false =>
      rw [hcn, e] at h1
      exact absurd rfl h1
theorem ok__law_rests0 {nb : Nat} (F : DefA K mg "_law_rests" s__law_rests) : C8.Cal P w K mg base 2 "_law_rests" (spRests K 0 nb) [] := by
  refine cal_by F sc__law_rests rfl rfl rfl (fun _ _ _ _ _ _ us hl => match us, hl with | [_, _, _, _, _], _ => rfl) (fun vs H Q E ⟨_, _, _, _, _, _, _, _, _, _, _, _, _, _, e, _⟩ => by rw [e]; rfl) fun f cdv A outer s H vs Q E hr h => ?_
  obtain ⟨L, t, ps, ms, R0, r, v1, v2, v3, v4, p, M, st, ofs, rfl, cp, _⟩ := h
  exact absurd cp.n (by omega)
theorem ok__law_restsZ {n lv : Nat} (F : DefA K mg "_law_rests" s__law_rests) : C8.Cal P w K mg base (lv + 1) "_law_rests" (spRests K n 0) [] := by
  refine cal_by F sc__law_rests rfl rfl rfl (fun _ _ _ _ _ _ us hl => match us, hl with | [_, _, _, _, _], _ => rfl) (fun vs H Q E ⟨_, _, _, _, _, _, _, _, _, _, _, _, _, _, e, _⟩ => by rw [e]; rfl) fun f cdv A outer s H vs Q E hr h => ?_
  obtain ⟨L, t, ps, ms, R0, r, v1, v2, v3, v4, p, M, st, ofs, rfl, cp, _, _, _, _, _, _, hnb, _⟩ := h
  exact absurd hnb (by omega)
/-- the two families -/
theorem ok__law_all (F : DefA K mg "_law_all" s__law_all) (F2 : DefA K mg "_law_rests" s__law_rests) (B : Blt mg) (c__law_strip : C8.Cal P w K mg base 1 "_law_strip" (spD K RisStrip) []) (c__law_extent : C8.Cal P w K mg base 1 "_law_extent" (spD K Rextent) []) (c__law_piece : C8.Cal P w K mg base 1 "_law_piece" (spD K R_law_piece) []) (c__law_count : ∀ n, C8.Cal P w K mg base (2 * n + 2) "_law_count" (spCount K n) []) :
    ∀ n, C8.Cal P w K mg base (8 * n + 3) "_law_all" (spAll K n) []
  | 0 => ok__law_all_step F B (by omega) (c__law_count 0) c__law_strip (ok__law_rests0 F2)
  | n + 1 => by
    have ih := ok__law_all F F2 B c__law_strip c__law_extent c__law_piece c__law_count n
    have rs : ∀ nb, C8.Cal P w K mg base (8 * n + 3 + nb) "_law_rests" (spRests K (n + 1) nb) [] := fun nb => by
      induction nb with
      | zero => exact ok__law_restsZ F2
      | succ nb ihb =>
        show C8.Cal P w K mg base (8 * n + 3 + nb + 1) "_law_rests" (spRests K (n + 1) (nb + 1)) []
        exact ok__law_rests_step (la := 8 * n + 3) (by omega) F2 B (by omega) c__law_extent c__law_piece (c__law_count n) ihb ih
    exact ok__law_all_step F B (by omega) (c__law_count (n + 1)) c__law_strip (rs 7)
end
end SR

namespace SR
open PySem PySem.Spec PyProof.Rows L2
mutual
/-- the regions of a reading -/
def regs (ps : List Pt) (ms : List (Option Mch)) : Rd → Rg → List Rg
  | .mk l, r => r :: (match ps[r.p.toNat]?, ms[r.p.toNat]? with
    | some p, some (some M) => regRows ps ms p M r l 0
    | _, _ => [])
def regRows (ps : List Pt) (ms : List (Option Mch)) (p : Pt) (M : Mch) (r : Rg) : List (Nat × Int × Rd) → Int → List Rg
  | [], _ => []
  | (n, z, rd) :: l, o => (match M.moves[n]? with
    | some m => regs ps ms rd (p.piece r o m.p z)
    | none => []) ++ regRows ps ms p M r l (o + z)
end
mutual
def movedR (ms : List (Option Mch)) : Rd → Int → Int
  | .mk l, i => movedRows ms l i
def movedRows (ms : List (Option Mch)) : List (Nat × Int × Rd) → Int → Int
  | [], _ => 0
  | (n, z, rd) :: l, i => (match ms[i.toNat]? with
    | some (some M) => match M.moves[n]? with
      | some m => m.c + movedR ms rd m.p
      | none => 0
    | _ => 0) + movedRows ms l i
end
theorem regs_strip {ps : List Pt} {ms : List (Option Mch)} {r : Rg} {p : Pt} {M : Mch} {l : List (Nat × Int × Rd)} (hp : ps[r.p.toNat]? = some p) (hM : ms[r.p.toNat]? = some (some M)) : regs ps ms (.mk l) r = r :: regRows ps ms p M r l 0 := by
  rw [regs, hp, hM]
theorem regs_leaf {ps : List Pt} {ms : List (Option Mch)} (G : Gram ps ms) {r : Rg} {p : Pt} {l : List (Nat × Int × Rd)} (hp : ps[r.p.toNat]? = some p) (hs : p.isStrip = false) : regs ps ms (.mk l) r = [r] := by
  rw [regs, hp, (G.leaf _ p hp hs).1]
theorem regRows_cons {ps : List Pt} {ms : List (Option Mch)} {p : Pt} {M : Mch} {r : Rg} {n : Nat} {m : Mv} {z o : Int} {rd : Rd} {l : List (Nat × Int × Rd)} (hm : M.moves[n]? = some m) : regRows ps ms p M r ((n, z, rd) :: l) o = regs ps ms rd (p.piece r o m.p z) ++ regRows ps ms p M r l (o + z) := by
  rw [regRows, hm]
theorem movedRows_cons {ms : List (Option Mch)} {i : Int} {M : Mch} {n : Nat} {m : Mv} {z : Int} {rd : Rd} {l : List (Nat × Int × Rd)} (hM : ms[i.toNat]? = some (some M)) (hm : M.moves[n]? = some m) : movedRows ms ((n, z, rd) :: l) i = m.c + movedR ms rd m.p + movedRows ms l i := by
  rw [movedRows, hM]
  show (match M.moves[n]? with
    | some m => m.c + movedR ms rd m.p
    | none => 0) + _ = _
  rw [hm]
theorem RdOk.leafI {ps : List Pt} {ms : List (Option Mch)} (G : Gram ps ms) {r : Rg} {rd : Rd} {p : Pt} (h : RdOk ps ms r rd) (hp : ps[r.p.toNat]? = some p) (hs : p.isStrip = false) : rd = .mk [] ∧ p.fits r = true := by
  cases h with
  | leaf hp' _ hf =>
    rw [hp] at hp'
    cases hp'
    exact ⟨rfl, hf⟩
  | strip hp' hM _ =>
    have := (G.mch hp' hM).1
    rw [hp] at hp'
    cases hp'
    rw [hs] at this
    cases this
theorem RdOk.stripI {ps : List Pt} {ms : List (Option Mch)} (G : Gram ps ms) {r : Rg} {rd : Rd} {p : Pt} {M : Mch} (h : RdOk ps ms r rd) (hp : ps[r.p.toNat]? = some p) (hM : ms[r.p.toNat]? = some (some M)) : ∃ l, rd = .mk l ∧ RsOk ps ms p M r 0 0 l := by
  cases h with
  | leaf hp' hs _ =>
    have := (G.mch hp hM).1
    rw [hp] at hp'
    cases hp'
    rw [hs] at this
    cases this
  | strip hp' hM' hr =>
    rw [hp] at hp'
    rw [hM] at hM'
    cases hp'
    cases hM'
    exact ⟨_, rfl, hr⟩
theorem regs_len {ps : List Pt} {ms : List (Option Mch)} {R0 : Rg} (G : Gram ps ms) (g : Page ps R0) : ∀ (n : Nat) (r : Rg) (rd : Rd), r.p.toNat < n → Ins ps R0 r → RdOk ps ms r rd → (regs ps ms rd r).length ≤ 7 ^ n
  | 0, _, _, h, _, _ => absurd h (by omega)
  | n + 1, r, rd, h, hin, hok => by
    obtain ⟨p, hp⟩ := hin.part
    have h1 : 1 ≤ 7 ^ n := Nat.one_le_pow _ _ (by decide)
    have h7 : 7 ^ (n + 1) = 7 * 7 ^ n := by rw [Nat.pow_succ, Nat.mul_comm]
    by_cases hs : p.isStrip = true
    · obtain ⟨M, hM, _⟩ := G.strip _ p hp hs
      obtain ⟨_, gm, _, _, gg⟩ := G.mch hp hM
      obtain ⟨l, rfl, hr⟩ := hok.stripI G hp hM
      have hl := hr.len gm
      have hx := hin.ext g p
      rw [regs_strip hp hM, List.length_cons]
      have rows : ∀ (l : List (Nat × Int × Rd)) (s o : Int), 0 ≤ o → RsOk ps ms p M r s o l → (regRows ps ms p M r l o).length ≤ l.length * 7 ^ n := fun l => by
        induction l with
        | nil => intro s o _ _; rw [regRows]; exact Nat.zero_le _
        | cons x l ih =>
          intro s o ho hr
          cases hr with
          | @cons _ _ _ _ _ k m z rd' _ hm h2 h3 h4 h5 h6 h7 =>
            obtain ⟨q0, q1, _⟩ := gg m (List.mem_of_getElem? hm)
            have hml := (gm.g m (List.mem_of_getElem? hm)).1
            rw [regRows_cons hm, List.length_append, List.length_cons, Nat.add_mul, Nat.one_mul]
            have a1 := regs_len G g n _ rd' (by rw [piece_p]; omega) (hin.piece G hp hM (List.mem_of_getElem? hm) ho (by omega) h5) h6
            have a2 := ih m.t (o + z) (by omega) h7
            omega
      have := rows l 0 0 (Int.le_refl _) hr
      have h6 : l.length * 7 ^ n ≤ 6 * 7 ^ n := Nat.mul_le_mul_right _ (by omega)
      omega
    · have hs' : p.isStrip = false := by simpa using hs
      obtain ⟨rfl, _⟩ := hok.leafI G hp hs'
      rw [regs_leaf G hp hs']
      show 1 ≤ _
      omega
section
variable {P : Program} {w : World} {K : PySem.W.Frag} {mg : Str → Option Value} {base : Heap}
abbrev N__law_regions : List Str := ["_law_parts_here", "_law_ways", "_law_region_here", "_law_reading", "_law_found_here", "_law_part", "_law_offset", "_law_row", "_law_inner"]
abbrev s__law_regions : Stmt := top 65
theorem sc__law_regions : FnScope ["_law_parts_here", "_law_ways", "_law_region_here", "_law_reading", "_law_found_here", "_law_part", "_law_offset", "_law_row", "_law_inner"] ["_law_parts_here", "_law_ways", "_law_region_here", "_law_reading"] (defScope s__law_regions) := ⟨rfl, rfl, rfl, by decide +kernel, rfl, by decide +kernel, by decide +kernel⟩
def R_law_regions (n : Nat) (ds : List PyData) (d : PyData) : Prop := ∃ (ps : List Pt) (ms : List (Option Mch)) (R0 r : Rg) (rd : Rd), Gram ps ms ∧ Page ps R0 ∧ Ins ps R0 r ∧ RdOk ps ms r rd ∧ r.p.toNat < n ∧ ds = [pts ps, mcs ms, r.d, rd.d] ∧ d = .list ((regs ps ms rd r).map Rg.d)
theorem ok__law_regions_step {n lv : Nat} (F : DefA K mg "_law_regions" s__law_regions) (hlv : 1 ≤ lv) (c__law_strip : C8.Cal P w K mg base 1 "_law_strip" (spD K RisStrip) []) (c__law_piece : C8.Cal P w K mg base 1 "_law_piece" (spD K R_law_piece) []) (c__law_regions : C8.Cal P w K mg base lv "_law_regions" (spD K (R_law_regions n)) []) : C8.Cal P w K mg base (lv + 1) "_law_regions" (spD K (R_law_regions (n + 1))) [] := by
  refine cal_by F sc__law_regions rfl rfl rfl (fun _ _ _ _ _ _ us hl => match us, hl with | [_, _, _, _], _ => rfl) (spD_len fun ds d ⟨_, _, _, _, _, _, _, _, _, _, e, _⟩ => by rw [e]; rfl) fun f cdv A outer s H vs Q E hr h => ?_
  obtain ⟨L, ds, d, hL, hd, ⟨ps, ms, R0, r, rd, G, g, hin, hok, hn, rfl, rfl⟩, k⟩ := h
  have o := w0 K L
  have S := Sl.start (C := W0 K L) (N := N__law_regions) hd
  refine ⟨_, (pss_c (ps_set (i := 4) sc__law_regions.nd rfl (Or.inl rfl) (pe_lst (pa_cons (pv 2) pa_nil)))
  (pss_c (ps_set (i := 5) sc__law_regions.nd rfl (Or.inl rfl) (pe_ix ix_seq (pv 0) (pe_ix ix_seq (pv 2) pe_int (fun _ _ => rfl)) (fun _ _ => rfl)))
  (pss_c (ps_if (pt_val (C8.pe_c c__law_strip hr (by omega) rfl (pa_cons (pv 5) pa_nil))) (pss_c (ps_set (i := 6) sc__law_regions.nd rfl (Or.inl rfl) pe_int)
  (pss_one (ps_for PassesOwn.never rfl (pi_tup (pv 3)) (pg_name (i := 7) sc__law_regions.nd rfl (Or.inl rfl)) (pss_c (ps_set (i := 8) sc__law_regions.nd rfl (Or.inl rfl) (C8.pe_c c__law_piece hr (by omega) rfl (pa_cons (pv 5) (pa_cons (pv 2) (pa_cons (pe_ix ix_seq (pe_ix ix_seq (pe_ix ix_seq (pe_ix ix_seq (pv 1) (pe_ix ix_seq (pv 2) pe_int (fun _ _ => rfl)) (fun _ _ => rfl)) pe_int (fun _ _ => rfl)) (pe_ix ix_seq (pv 7) pe_int (fun _ _ => rfl)) (fun _ _ => rfl)) pe_int (fun _ _ => rfl)) (pa_cons (pv 6) (pa_cons (pe_ix ix_seq (pv 7) pe_int (fun _ _ => rfl)) pa_nil)))))))
  (pss_c (ps_set (i := 4) sc__law_regions.nd rfl (Or.inl rfl) (pe_op op_cat (pv 4) (C8.pe_c c__law_regions hr (by omega) rfl (pa_cons (pv 0) (pa_cons (pv 1) (pa_cons (pv 8) (pa_cons (pe_ix ix_seq (pv 7) pe_int (fun _ _ => rfl)) pa_nil)))))))
  (pss_one (ps_set (i := 6) sc__law_regions.nd rfl (Or.inl rfl) (pe_op op_add (pv 6) (pe_ix ix_seq (pv 7) pe_int (fun _ _ => rfl)))))))))) pss_nil)
  (pss_one (ps_ret (pv 4)))))), ?_⟩
  obtain ⟨p, hp⟩ := hin.part
  have hpd : (ps.map Pt.d)[r.p.toNat]? = some p.d := by rw [List.getElem?_map, hp]; rfl
  have hlen := regs_len G g (n + 1) r rd hn hin hok
  refine s_set o (e_lst o hL (a_cons o (e_var o S rfl) (a_nil o))) fun v1 H1 w1 r1 => ?_
  have S1 := (S.mono o w1).putD (i := 4) r1
  refine s_set o (e_ixTz o (ds := ps.map Pt.d) (e_var o S1 rfl) (e_rg o (r := r) (e_var o S1 rfl) 0) hin.p0 hpd) fun v2 H2 w2 r2 => ?_
  have S2 := (S1.mono o w2).putD (i := 5) r2
  have w02 : Kp No H H2 := w1.trans w2
  have hrp := hin.p0
  have hrp1 := hin.p1
  have hfew := G.few
  have hsmall : (regs ps ms rd r).length ≤ 7 ^ 6 := by
    have h1 := regs_len G g (r.p.toNat + 1) r rd (by omega) hin hok
    exact Nat.le_trans h1 (Nat.pow_le_pow_right (by decide) (by omega))
  have h76 : (7 : Nat) ^ 6 = 117649 := by decide
  refine s_if o (t_B o (e_call o (w02.un hL) (a_cons o (e_var o S2 rfl) (a_nil o)) ⟨p, rfl, rfl⟩)) (fun cs H3 w3 => ?_) (fun cs H3 w3 => ?_)
  · obtain ⟨M, hM, _⟩ := G.strip _ p hp cs
    obtain ⟨_, gm, g1, g5, gg⟩ := G.mch hp hM
    obtain ⟨l, rfl, hrs⟩ := hok.stripI G hp hM
    have hext := hin.ext g p
    have hmd : (ms.map mchD)[r.p.toNat]? = some M.d := by rw [List.getElem?_map, hM]; rfl
    have hll := hrs.len gm
    rw [regs_strip hp hM] at hsmall k
    have S3 := S2.mono o w3
    refine s_set (te := tC (V.int 0)) (i := 6) o (e_int o) fun v4 H4 w4 r4 => ?_
    have S4 := (S3.mono o w4).putD (i := 6) r4
    have w04 : Kp No H H4 := (w02.trans w3).trans w4
    refine s_forTN o (ds := Rd.ds l) (e_var o S4 rfl)
      (fun i σ' H' => Kp No H H' ∧ ∃ (s' o' : Int) (pre : List Rg) (b7 b8 : Ds), Sl (W0 K L) H' σ' [.da (pts ps), .da (mcs ms), .da r.d, .da (Rd.mk l).d, .da (.list ((r :: pre).map Rg.d)), .da p.d, .da (.int o'), b7, b8] ∧ 0 ≤ o' ∧ RsOk ps ms p M r s' o' (l.drop i) ∧ pre ++ regRows ps ms p M r (l.drop i) o' = regRows ps ms p M r l 0) (M := No) (fun a z => z.elim)
      (fun H' w' => ⟨w04.trans w', 0, 0, [], .un, .un, S4.mono o w', Int.le_refl _, hrs, rfl⟩) (fun H5 w5 i d v σ6 H6 hi rd6 k56 ⟨k6, s', o', pre, b7, b8, S6, ho', hr6, he6⟩ => ?_) (fun H5 w5 σ6 H6 k56 ⟨k6, s', o', pre, b7, b8, S6, ho', hr6, he6⟩ => ?_)
    · rw [Rd.ds_map, List.getElem?_map] at hi
      cases hx : l[i]? with
      | none => rw [hx] at hi; cases hi
      | some x =>
        rw [hx] at hi
        obtain ⟨nn, z, rd0⟩ := x
        cases hi
        have hdr : l.drop i = (nn, z, rd0) :: l.drop (i + 1) := by
          obtain ⟨hlt, e⟩ := List.getElem?_eq_some_iff.mp hx
          rw [List.drop_eq_getElem_cons hlt, e]
        rw [hdr] at hr6 he6
        cases hr6 with
        | @cons _ _ _ _ _ _ m _ _ _ hm hmo hml hzm hzo hrd hrest =>
          have hmm := List.mem_of_getElem? hm
          obtain ⟨q0, q1, _⟩ := gg m hmm
          have hm1 := (gm.g m hmm).1
          rw [regRows_cons hm] at he6
          have hip := hin.piece G hp hM hmm ho' (by omega) hzo
          have hlen6 : pre.length + ((regs ps ms rd0 (p.piece r o' m.p z)).length + (regRows ps ms p M r (l.drop (i + 1)) (o' + z)).length) = (regRows ps ms p M r l 0).length := by
            rw [← he6, List.length_append, List.length_append]
          rw [List.length_cons] at hsmall
          have S7 := S6.putD (i := 7) rd6
          refine s_set o (e_call o (k6.un hL) (a_cons o (e_var o S7 rfl) (a_cons o (e_var o S7 rfl) (a_cons o (e_mv o (m := m) (e_ixT o (ds := M.moves.map Mv.d) (i := nn) (d := m.d) (e_ixT o (i := 1) (d := mvs M.moves) (e_ixTz o (ds := ms.map mchD) (e_var o S7 rfl) (e_rg o (r := r) (e_var o S7 rfl) 0) hin.p0 hmd) (e_int o) rfl) (e_ixT o (i := 0) (e_var o S7 rfl) (e_int o) rfl) (by rw [List.getElem?_map, hm]; rfl)) 2) (a_cons o (e_var o S7 rfl) (a_cons o (e_ixT o (i := 1) (d := .int z) (e_var o S7 rfl) (e_int o) rfl) (a_nil o)))))) ⟨p, r, o', m.p, z, rfl, rfl⟩) fun v8 H8 w8 r8 => ?_
          have S8 := (S7.mono o w8).putD (i := 8) r8
          have k8 : Kp No H H8 := k6.trans w8
          refine s_set o (e_catL (k8.un hL) (ds := (r :: pre).map Rg.d) (es := (regs ps ms rd0 (p.piece r o' m.p z)).map Rg.d) (e_var o S8 rfl) (e_call o (k8.un hL) (a_cons o (e_var o S8 rfl) (a_cons o (e_var o S8 rfl) (a_cons o (e_var o S8 rfl) (a_cons o (e_ixT o (i := 2) (d := rd0.d) (e_var o S8 rfl) (e_int o) rfl) (a_nil o))))) ⟨ps, ms, R0, _, rd0, G, g, hip, hrd, by rw [piece_p]; omega, rfl, rfl⟩) (by rw [List.length_map, List.length_map, List.length_cons]; omega)) fun v9 H9 w9 r9 => ?_
          rw [← List.map_append, List.cons_append] at r9
          have S9 := (S8.mono o w9).putD (i := 4) r9
          refine s_set o (e_add o (i := o') (j := z) (e_var o S9 rfl) (e_ixT o (i := 1) (d := .int z) (e_var o S9 rfl) (e_int o) rfl)) fun v10 H10 w10 r10 => ?_
          have S10 := (S9.mono o w10).putD (i := 6) r10
          have k10 : Kp No H6 H10 := (w8.trans w9).trans w10
          exact ⟨k56.trans k10, k6.trans k10, m.t, o' + z, pre ++ regs ps ms rd0 (p.piece r o' m.p z), _, _, S10, by omega, hrest, by rw [List.append_assoc]; exact he6⟩
    · rw [show (Rd.ds l).length = l.length by rw [Rd.ds_map, List.length_map], List.drop_length, regRows, List.append_nil] at he6
      rw [he6] at S6
      exact s_ret o (e_var o S6 rfl) fun v H7 w7 r7 => k v H7 (k6.trans w7) r7
  · have S3 := S2.mono o w3
    obtain ⟨rfl, _⟩ := hok.leafI G hp cs
    rw [regs_leaf G hp cs] at k
    exact s_ret o (e_var o S3 rfl) fun v H7 w7 r7 => k v H7 ((w02.trans w3).trans w7) r7
theorem ok__law_regions (F : DefA K mg "_law_regions" s__law_regions) (c__law_strip : C8.Cal P w K mg base 1 "_law_strip" (spD K RisStrip) []) (c__law_piece : C8.Cal P w K mg base 1 "_law_piece" (spD K R_law_piece) []) : ∀ n, C8.Cal P w K mg base (n + 1) "_law_regions" (spD K (R_law_regions n)) []
  | 0 => by
    refine cal_by F sc__law_regions rfl rfl rfl (fun _ _ _ _ _ _ us hl => match us, hl with | [_, _, _, _], _ => rfl) (spD_len fun ds d ⟨_, _, _, _, _, _, _, _, _, _, e, _⟩ => by rw [e]; rfl) fun f cdv A outer s H vs Q E hr h => ?_
    obtain ⟨L, ds, d, hL, hd, ⟨ps, ms, R0, r, rd, G, g, hin, hok, hn, _⟩, k⟩ := h
    exact absurd hn (by omega)
  | n + 1 => ok__law_regions_step F (by omega) c__law_strip c__law_piece (ok__law_regions F c__law_strip c__law_piece n)
end
end SR

namespace SR
open PySem PySem.Spec PyProof.Rows L2
/-- every region of a reading lies within, and the leaves fit -/
theorem regs_mem {ps : List Pt} {ms : List (Option Mch)} {R0 : Rg} (G : Gram ps ms) (g : Page ps R0) : ∀ (n : Nat) (r : Rg) (rd : Rd), r.p.toNat < n → Ins ps R0 r → RdOk ps ms r rd → ∀ x ∈ regs ps ms rd r, Ins ps R0 x ∧ ∀ p, ps[x.p.toNat]? = some p → p.isStrip = false → p.fits x = true
  | 0, _, _, h, _, _ => absurd h (by omega)
  | n + 1, r, rd, h, hin, hok => by
    obtain ⟨p, hp⟩ := hin.part
    by_cases hs : p.isStrip = true
    · obtain ⟨M, hM, _⟩ := G.strip _ p hp hs
      obtain ⟨_, gm, _, _, gg⟩ := G.mch hp hM
      obtain ⟨l, rfl, hr⟩ := hok.stripI G hp hM
      rw [regs_strip hp hM]
      have rows : ∀ (l : List (Nat × Int × Rd)) (s o : Int), 0 ≤ o → RsOk ps ms p M r s o l → ∀ x ∈ regRows ps ms p M r l o, Ins ps R0 x ∧ ∀ p, ps[x.p.toNat]? = some p → p.isStrip = false → p.fits x = true := fun l => by
        induction l with
        | nil => intro s o _ _ x hx; rw [regRows] at hx; cases hx
        | cons y l ih =>
          intro s o ho hr x hx
          cases hr with
          | @cons _ _ _ _ _ k m z rd' _ hm h2 h3 h4 h5 h6 h7 =>
            obtain ⟨q0, q1, _⟩ := gg m (List.mem_of_getElem? hm)
            have hml := (gm.g m (List.mem_of_getElem? hm)).1
            rw [regRows_cons hm] at hx
            rcases List.mem_append.mp hx with hx | hx
            · exact regs_mem G g n _ rd' (by rw [piece_p]; omega) (hin.piece G hp hM (List.mem_of_getElem? hm) ho (by omega) h5) h6 x hx
            · exact ih m.t (o + z) (by omega) h7 x hx
      intro x hx
      rcases List.mem_cons.mp hx with rfl | hx
      · refine ⟨hin, fun p' hp' hs' => ?_⟩
        rw [hp] at hp'
        cases hp'
        rw [hs] at hs'
        cases hs'
      · exact rows l 0 0 (Int.le_refl _) hr x hx
    · have hs' : p.isStrip = false := by simpa using hs
      obtain ⟨rfl, hf⟩ := hok.leafI G hp hs'
      rw [regs_leaf G hp hs']
      intro x hx
      rw [List.mem_singleton.mp hx]
      refine ⟨hin, fun p' hp' _ => ?_⟩
      rw [hp] at hp'
      cases hp'
      exact hf
theorem regs_small {ps : List Pt} {ms : List (Option Mch)} {R0 : Rg} (G : Gram ps ms) (g : Page ps R0) {r : Rg} {rd : Rd} (hin : Ins ps R0 r) (hok : RdOk ps ms r rd) : (regs ps ms rd r).length ≤ 117649 := by
  have hp0 := hin.p0
  have hp1 := hin.p1
  have hfew := G.few
  have h1 := regs_len G g (r.p.toNat + 1) r rd (by omega) hin hok
  exact Nat.le_trans h1 (Nat.le_trans (Nat.pow_le_pow_right (by decide) (show r.p.toNat + 1 ≤ 6 by omega)) (by decide))
theorem regs_head {ps : List Pt} {ms : List (Option Mch)} {r : Rg} {rd : Rd} : ∃ l, regs ps ms rd r = r :: l := by
  cases rd with
  | mk l => rw [regs]; exact ⟨_, rfl⟩
def leafC (ps : List Pt) (rows : List Str) (x : Rg) : Int := match ps[x.p.toNat]? with
  | some p => leafCost p x rows
  | none => 0
def leavesOf (ps : List Pt) (rs : List Rg) : List Rg := rs.filter fun x => !stripR ps x
def costR (ps : List Pt) (ms : List (Option Mch)) (rows : List Str) (rd : Rd) (r : Rg) : Int := movedR ms rd r.p + ((leavesOf ps (regs ps ms rd r)).map (leafC ps rows)).sum
def allowedL (ps : List Pt) (fixed forb : List Rg) (rs : List Rg) : Bool := rs.all fun x => match ps[x.p.toNat]? with
  | some p => allowedB p x fixed forb
  | none => true
theorem isum_take_succ {α : Type} (f : α → Int) {l : List α} {i : Nat} {x : α} (h : l[i]? = some x) : ((l.take (i + 1)).map f).sum = ((l.take i).map f).sum + f x := by
  rw [take_snoc h, List.map_append, List.sum_append]
  simp
section
variable {P : Program} {w : World} {K : PySem.W.Frag} {mg : Str → Option Value} {base : Heap}
abbrev N__law_moved : List Str := ["_law_ways", "_law_number", "_law_reading", "_law_total", "_law_row", "_law_move"]
abbrev s__law_moved : Stmt := top 66
theorem sc__law_moved : FnScope ["_law_ways", "_law_number", "_law_reading", "_law_total", "_law_row", "_law_move"] ["_law_ways", "_law_number", "_law_reading"] (defScope s__law_moved) := ⟨rfl, rfl, rfl, by decide +kernel, rfl, by decide +kernel, by decide +kernel⟩
def R_law_moved (n : Nat) (ds : List PyData) (d : PyData) : Prop := ∃ (ps : List Pt) (ms : List (Option Mch)) (R0 r : Rg) (rd : Rd), Gram ps ms ∧ Page ps R0 ∧ Ins ps R0 r ∧ RdOk ps ms r rd ∧ r.p.toNat < n ∧ ds = [mcs ms, .int r.p, rd.d] ∧ d = .int (movedR ms rd r.p)
theorem ok__law_moved_step {n lv : Nat} (F : DefA K mg "_law_moved" s__law_moved) (c__law_moved : C8.Cal P w K mg base lv "_law_moved" (spD K (R_law_moved n)) []) : C8.Cal P w K mg base (lv + 1) "_law_moved" (spD K (R_law_moved (n + 1))) [] := by
  refine cal_by F sc__law_moved rfl rfl rfl (fun _ _ _ _ _ _ us hl => match us, hl with | [_, _, _], _ => rfl) (spD_len fun ds d ⟨_, _, _, _, _, _, _, _, _, _, e, _⟩ => by rw [e]; rfl) fun f cdv A outer s H vs Q E hr h => ?_
  obtain ⟨L, ds, d, hL, hd, ⟨ps, ms, R0, r, rd, G, g, hin, hok, hn, rfl, rfl⟩, k⟩ := h
  have o := w0 K L
  have S := Sl.start (C := W0 K L) (N := N__law_moved) hd
  refine ⟨_, (pss_c (ps_set (i := 3) sc__law_moved.nd rfl (Or.inl rfl) pe_int)
  (pss_c (ps_for PassesOwn.never rfl (pi_tup (pv 2)) (pg_name (i := 4) sc__law_moved.nd rfl (Or.inl rfl)) (pss_c (ps_set (i := 5) sc__law_moved.nd rfl (Or.inl rfl) (pe_ix ix_seq (pe_ix ix_seq (pe_ix ix_seq (pv 0) (pv 1) (fun _ _ => rfl)) pe_int (fun _ _ => rfl)) (pe_ix ix_seq (pv 4) pe_int (fun _ _ => rfl)) (fun _ _ => rfl)))
  (pss_one (ps_set (i := 3) sc__law_moved.nd rfl (Or.inl rfl) (pe_op op_add (pe_op op_add (pv 3) (pe_ix ix_seq (pv 5) pe_int (fun _ _ => rfl))) (C8.pe_c c__law_moved hr (by omega) rfl (pa_cons (pv 0) (pa_cons (pe_ix ix_seq (pv 5) pe_int (fun _ _ => rfl)) (pa_cons (pe_ix ix_seq (pv 4) pe_int (fun _ _ => rfl)) pa_nil)))))))))
  (pss_one (ps_ret (pv 3))))), ?_⟩
  obtain ⟨p, hp⟩ := hin.part
  refine s_set (te := tC (V.int 0)) (i := 3) o (e_int o) fun v1 H1 w1 r1 => ?_
  have S1 := (S.mono o w1).putD (i := 3) r1
  obtain ⟨l⟩ := rd
  refine s_forTN o (ds := Rd.ds l) (e_var o S1 rfl)
    (fun i σ' H' => Kp No H H' ∧ ∃ (acc : Int) (b4 b5 : Ds), Sl (W0 K L) H' σ' [.da (mcs ms), .da (.int r.p), .da (Rd.mk l).d, .da (.int acc), b4, b5] ∧ (i < l.length → ∃ (M : Mch) (s' o' : Int), ms[r.p.toNat]? = some (some M) ∧ 0 ≤ o' ∧ RsOk ps ms p M r s' o' (l.drop i)) ∧ acc + movedRows ms (l.drop i) r.p = movedRows ms l r.p) (M := No) (fun a z => z.elim)
    (fun H' w' => ⟨w1.trans w', 0, .un, .un, S1.mono o w', fun hl => ?_, Int.zero_add _⟩) (fun H5 w5 i d v σ6 H6 hi rd6 k56 ⟨k6, acc, b4, b5, S6, hr6, he6⟩ => ?_) (fun H5 w5 σ6 H6 k56 ⟨k6, acc, b4, b5, S6, hr6, he6⟩ => ?_)
  · by_cases hs : p.isStrip = true
    · obtain ⟨M, hM, _⟩ := G.strip _ p hp hs
      obtain ⟨l', e, hrs⟩ := hok.stripI G hp hM
      cases e
      exact ⟨M, 0, 0, hM, Int.le_refl _, hrs⟩
    · obtain ⟨e, _⟩ := hok.leafI G hp (by simpa using hs)
      cases e
      exact absurd hl (by simp)
  · rw [Rd.ds_map, List.getElem?_map] at hi
    cases hx : l[i]? with
    | none => rw [hx] at hi; cases hi
    | some x =>
      rw [hx] at hi
      obtain ⟨nn, z, rd0⟩ := x
      cases hi
      have hil : i < l.length := (List.getElem?_eq_some_iff.mp hx).1
      have hdr : l.drop i = (nn, z, rd0) :: l.drop (i + 1) := by
        obtain ⟨hlt, e⟩ := List.getElem?_eq_some_iff.mp hx
        rw [List.drop_eq_getElem_cons hlt, e]
      obtain ⟨M, s', o', hM, ho', hr6⟩ := hr6 hil
      rw [hdr] at hr6 he6
      obtain ⟨_, gm, _, _, gg⟩ := G.mch hp hM
      have hmd : (ms.map mchD)[r.p.toNat]? = some M.d := by rw [List.getElem?_map, hM]; rfl
      cases hr6 with
      | @cons _ _ _ _ _ _ m _ _ _ hm hmo hml hzm hzo hrd hrest =>
        have hmm := List.mem_of_getElem? hm
        obtain ⟨q0, q1, _⟩ := gg m hmm
        have hm1 := (gm.g m hmm).1
        rw [movedRows_cons hM hm] at he6
        have hip := hin.piece G hp hM hmm ho' (by omega) hzo
        have hp0 := hin.p0
        have S7 := S6.putD (i := 4) rd6
        refine s_set o (e_ixT o (ds := M.moves.map Mv.d) (i := nn) (d := m.d) (e_ixT o (i := 1) (d := mvs M.moves) (e_ixTz o (ds := ms.map mchD) (e_var o S7 rfl) (e_var o S7 rfl) hin.p0 hmd) (e_int o) rfl) (e_ixT o (i := 0) (d := .int (nn : Nat)) (e_var o S7 rfl) (e_int o) rfl) (by rw [List.getElem?_map, hm]; rfl)) fun v8 H8 w8 r8 => ?_
        have S8 := (S7.mono o w8).putD (i := 5) r8
        have k8 : Kp No H H8 := k6.trans w8
        refine s_set o (e_add o (i := acc + m.c) (j := movedR ms rd0 m.p) (e_add o (i := acc) (j := m.c) (e_var o S8 rfl) (e_mv o (m := m) (e_var o S8 rfl) 5)) (e_call o (k8.un hL) (a_cons o (e_var o S8 rfl) (a_cons o (e_mv o (m := m) (e_var o S8 rfl) 2) (a_cons o (e_ixT o (i := 2) (d := rd0.d) (e_var o S8 rfl) (e_int o) rfl) (a_nil o)))) ⟨ps, ms, R0, _, rd0, G, g, hip, hrd, by rw [piece_p]; omega, by rw [piece_p]; rfl, by rw [piece_p]⟩)) fun v9 H9 w9 r9 => ?_
        have S9 := (S8.mono o w9).putD (i := 3) r9
        exact ⟨k56.trans (w8.trans w9), k8.trans w9, _, _, _, S9, fun _ => ⟨M, _, _, hM, by omega, hrest⟩, by omega⟩
  · rw [show (Rd.ds l).length = l.length by rw [Rd.ds_map, List.length_map], List.drop_length, movedRows, Int.add_zero] at he6
    rw [he6] at S6
    rw [movedR] at k
    exact s_ret o (e_var o S6 rfl) fun v H7 w7 r7 => k v H7 (k6.trans w7) r7
theorem ok__law_moved (F : DefA K mg "_law_moved" s__law_moved) : ∀ n, C8.Cal P w K mg base (n + 1) "_law_moved" (spD K (R_law_moved n)) []
  | 0 => by
    refine cal_by F sc__law_moved rfl rfl rfl (fun _ _ _ _ _ _ us hl => match us, hl with | [_, _, _], _ => rfl) (spD_len fun ds d ⟨_, _, _, _, _, _, _, _, _, _, e, _⟩ => by rw [e]; rfl) fun f cdv A outer s H vs Q E hr h => ?_
    obtain ⟨L, ds, d, hL, hd, ⟨ps, ms, R0, r, rd, G, g, hin, hok, hn, _⟩, k⟩ := h
    exact absurd hn (by omega)
  | n + 1 => ok__law_moved_step F (ok__law_moved F n)
abbrev N__law_leaves : List Str := ["_law_parts_here", "_law_found_here", "_law_one"]
abbrev s__law_leaves : Stmt := top 69
theorem sc__law_leaves : FnScope ["_law_parts_here", "_law_found_here", "_law_one"] ["_law_parts_here", "_law_found_here"] (defScope s__law_leaves) := ⟨rfl, rfl, rfl, by decide +kernel, rfl, by decide +kernel, by decide +kernel⟩
def R_law_leaves (ds : List PyData) (d : PyData) : Prop := ∃ (ps : List Pt) (rs : List Rg), rs.length ≤ 1000000 ∧ (∀ r ∈ rs, 0 ≤ r.p ∧ ∃ p, ps[r.p.toNat]? = some p) ∧ ds = [pts ps, .list (rs.map Rg.d)] ∧ d = .list ((leavesOf ps rs).map Rg.d)
theorem ok__law_leaves (F : DefA K mg "_law_leaves" s__law_leaves) (c__law_strip : C8.Cal P w K mg base 1 "_law_strip" (spD K RisStrip) []) : C8.Cal P w K mg base 2 "_law_leaves" (spD K R_law_leaves) [] := by
  refine cal_by F sc__law_leaves rfl rfl rfl (fun _ _ _ _ _ _ us hl => match us, hl with | [_, _], _ => rfl) (spD_len fun ds d ⟨_, _, _, _, e, _⟩ => by rw [e]; rfl) fun f cdv A outer s H vs Q E hr h => ?_
  obtain ⟨L, ds, d, hL, hd, ⟨ps, rs, hlen, hps, rfl, rfl⟩, k⟩ := h
  have o := w0 K L
  have S := Sl.start (C := W0 K L) (N := N__law_leaves) hd
  refine ⟨_, (pss_one (ps_ret (pe_lc (own := [("_law_one", 2)]) rfl sc__law_leaves.nd (pi_list (pv 1)) (blkOk_by (N := N__law_leaves) (sc := defScope s__law_leaves) (by decide +kernel)) (fun _ _ _ _ _ => (pg_name (i := 2) sc__law_leaves.nd rfl (Or.inl rfl))) (fun _ _ _ _ _ => (pts_one (pt_not (pt_val (C8.pe_c c__law_strip hr (by omega) rfl (pa_cons (pe_ix (r := rIx K) ix_seq (pv 0) (pe_ix (r := rIx K) ix_seq (pv 2) pe_int (fun _ _ => rfl)) (fun _ _ => rfl)) pa_nil)))))) (fun _ _ _ _ _ => (pv 2))))), ?_⟩
  refine s_ret o (e_lcL (ds := rs.map Rg.d) (b := fun i => !stripR ps (rs.getD i ⟨0, 0, 0, 0, 0⟩)) (e := fun i => (rs.getD i ⟨0, 0, 0, 0, 0⟩).d) hL (e_var o S rfl) (by rw [List.length_map]; omega) (fun v => wipe_one _ _ _) fun D Ha Hb hD ka kb unD kS i d v hi rdv => ?_) fun v H1 w1 r1 => k v H1 w1 ?_
  · have oD := w0 K (Lp L D)
    have SD := (kS _ S).putD (i := 2) rdv
    rw [List.getElem?_map] at hi
    cases hx : rs[i]? with
    | none => rw [hx] at hi; cases hi
    | some x =>
      rw [hx] at hi
      cases hi
      obtain ⟨h0, p, hp⟩ := hps x (List.mem_of_getElem? hx)
      dsimp only
      rw [getD_of hx]
      have hpd : (ps.map Pt.d)[x.p.toNat]? = some p.d := by rw [List.getElem?_map, hp]; rfl
      have hs : stripR ps x = p.isStrip := by unfold stripR; rw [hp]
      rw [hs]
      refine ⟨t_not oD (t_B oD (e_call oD unD (a_cons oD (e_ixTz oD (ds := ps.map Pt.d) (e_var oD SD rfl) (e_rg oD (r := x) (e_var oD SD rfl) 0) h0 hpd) (a_nil oD)) ⟨p, rfl, rfl⟩)), fun _ H2 k2 => e_var oD (SD.mono oD k2) rfl⟩
  · have := lcF_list (⟨0, 0, 0, 0, 0⟩ : Rg) (fun x => !stripR ps x) Rg.d rs
    rw [List.length_map, this] at r1
    exact r1
abbrev N__law_cost : List Str := ["_law_parts_here", "_law_ways", "_law_region_here", "_law_reading", "_law_rows", "_law_total", "_law_leaf_here"]
abbrev s__law_cost : Stmt := top 70
theorem sc__law_cost : FnScope ["_law_parts_here", "_law_ways", "_law_region_here", "_law_reading", "_law_rows", "_law_total", "_law_leaf_here"] ["_law_parts_here", "_law_ways", "_law_region_here", "_law_reading", "_law_rows"] (defScope s__law_cost) := ⟨rfl, rfl, rfl, by decide +kernel, rfl, by decide +kernel, by decide +kernel⟩
def R_law_cost (ds : List PyData) (d : PyData) : Prop := ∃ (ps : List Pt) (ms : List (Option Mch)) (R0 r : Rg) (rd : Rd) (rows : List Str), Gram ps ms ∧ Page ps R0 ∧ Ins ps R0 r ∧ RdOk ps ms r rd ∧ Img rows ∧ ds = [pts ps, mcs ms, r.d, rd.d, .tuple (rows.map .str)] ∧ d = .int (costR ps ms rows rd r)
theorem ok__law_cost (F : DefA K mg "_law_cost" s__law_cost) (c__law_moved : C8.Cal P w K mg base 7 "_law_moved" (spD K (R_law_moved 6)) []) (c__law_leaves : C8.Cal P w K mg base 2 "_law_leaves" (spD K R_law_leaves) []) (c__law_regions : C8.Cal P w K mg base 7 "_law_regions" (spD K (R_law_regions 6)) []) (c__law_wrong : C8.Cal P w K mg base 2 "_law_wrong" (spD K R_law_wrong) []) : C8.Cal P w K mg base 8 "_law_cost" (spD K R_law_cost) [] := by
  refine cal_by F sc__law_cost rfl rfl rfl (fun _ _ _ _ _ _ us hl => match us, hl with | [_, _, _, _, _], _ => rfl) (spD_len fun ds d ⟨_, _, _, _, _, _, _, _, _, _, _, e, _⟩ => by rw [e]; rfl) fun f cdv A outer s H vs Q E hr h => ?_
  obtain ⟨L, ds, d, hL, hd, ⟨ps, ms, R0, r, rd, rows, G, g, hin, hok, im, rfl, rfl⟩, k⟩ := h
  have o := w0 K L
  have S := Sl.start (C := W0 K L) (N := N__law_cost) hd
  refine ⟨_, (pss_c (ps_set (i := 5) sc__law_cost.nd rfl (Or.inl rfl) (C8.pe_c c__law_moved hr (by omega) rfl (pa_cons (pv 1) (pa_cons (pe_ix ix_seq (pv 2) pe_int (fun _ _ => rfl)) (pa_cons (pv 3) pa_nil)))))
  (pss_c (ps_for PassesOwn.never rfl (pi_list (C8.pe_c c__law_leaves hr (by omega) rfl (pa_cons (pv 0) (pa_cons (C8.pe_c c__law_regions hr (by omega) rfl (pa_cons (pv 0) (pa_cons (pv 1) (pa_cons (pv 2) (pa_cons (pv 3) pa_nil))))) pa_nil)))) (pg_name (i := 6) sc__law_cost.nd rfl (Or.inl rfl)) (pss_one (ps_set (i := 5) sc__law_cost.nd rfl (Or.inl rfl) (pe_op op_add (pe_op op_add (pv 5) (pe_ix ix_seq (pe_ix ix_seq (pv 0) (pe_ix ix_seq (pv 6) pe_int (fun _ _ => rfl)) (fun _ _ => rfl)) pe_int (fun _ _ => rfl))) (C8.pe_c c__law_wrong hr (by omega) rfl (pa_cons (pv 0) (pa_cons (pv 6) (pa_cons (pv 4) pa_nil))))))))
  (pss_one (ps_ret (pv 5))))), ?_⟩
  have hp0 := hin.p0
  have hp1 := hin.p1
  have hfew := G.few
  refine s_set o (e_call o hL (a_cons o (e_var o S rfl) (a_cons o (e_rg o (r := r) (e_var o S rfl) 0) (a_cons o (e_var o S rfl) (a_nil o)))) ⟨ps, ms, R0, r, rd, G, g, hin, hok, by omega, rfl, rfl⟩) fun v1 H1 w1 r1 => ?_
  have S1 := (S.mono o w1).putD (i := 5) r1
  have hmem := regs_mem G g (r.p.toNat + 1) r rd (by omega) hin hok
  have hlen := regs_small G g hin hok
  generalize hrs : regs ps ms rd r = rs at hmem hlen
  have un1 := w1.un hL
  refine s_forN o (ds := (leavesOf ps rs).map Rg.d) (e_call o un1 (a_cons o (e_var o S1 rfl) (a_cons o (e_call o un1 (a_cons o (e_var o S1 rfl) (a_cons o (e_var o S1 rfl) (a_cons o (e_var o S1 rfl) (a_cons o (e_var o S1 rfl) (a_nil o))))) ⟨ps, ms, R0, r, rd, G, g, hin, hok, by omega, rfl, rfl⟩) (a_nil o))) (by rw [hrs]; exact ⟨ps, rs, by omega, fun x hx => ⟨(hmem x hx).1.p0, (hmem x hx).1.part⟩, rfl, rfl⟩))
    (fun i σ' H' => Kp No H H' ∧ ∃ b6 : Ds, Sl (W0 K L) H' σ' [.da (pts ps), .da (mcs ms), .da r.d, .da rd.d, .da (.tuple (rows.map .str)), .da (.int (movedR ms rd r.p + (((leavesOf ps rs).take i).map (leafC ps rows)).sum)), b6]) (M := No) (fun a z => z.elim)
    (fun H' w' => ⟨w1.trans w', .un, by rw [show (((leavesOf ps rs).take 0).map (leafC ps rows)).sum = 0 from rfl, Int.add_zero]; exact S1.mono o w'⟩) (fun H5 w5 i d v σ6 H6 hi rd6 k56 ⟨k6, b6, S6⟩ => ?_) (fun H5 w5 σ6 H6 k56 ⟨k6, b6, S6⟩ => ?_)
  · rw [List.getElem?_map] at hi
    cases hx : (leavesOf ps rs)[i]? with
    | none => rw [hx] at hi; cases hi
    | some x =>
      rw [hx] at hi
      cases hi
      have hxm : x ∈ leavesOf ps rs := List.mem_of_getElem? hx
      obtain ⟨hxr, hxs⟩ := List.mem_filter.mp hxm
      obtain ⟨xin, xf⟩ := hmem x hxr
      obtain ⟨p, hp⟩ := xin.part
      have hs : p.isStrip = false := by
        unfold stripR at hxs
        rw [hp] at hxs
        simpa using hxs
      have hf := xf p hp hs
      have lf := (G.leaf _ p hp hs).2
      have hpd : (ps.map Pt.d)[x.p.toNat]? = some p.d := by rw [List.getElem?_map, hp]; rfl
      have S7 := S6.putD (i := 6) rd6
      obtain ⟨tl, hpd3⟩ : ∃ tl : List PyData, p.d = .tuple tl ∧ tl[3]? = some (.int p.cost) := by
        rcases lf.d with ⟨n, l, c, b, rfl⟩ | ⟨n, l, c, prows, rfl⟩ <;> exact ⟨_, rfl, rfl⟩
      have := xin.w0; have := xin.h0; have := g.w; have := g.h; have := xin.x0; have := xin.x1; have := xin.y0; have := xin.y1
      refine s_set o (e_add o (i := _ + p.cost) (j := (wrongs p x rows x.h.toNat : Nat)) (e_add o (i := movedR ms rd r.p + (((leavesOf ps rs).take i).map (leafC ps rows)).sum) (j := p.cost) (e_var o S7 rfl) (e_ixT o (ds := tl) (i := 3) (by rw [← hpd3.1]; exact e_ixTz o (ds := ps.map Pt.d) (e_var o S7 rfl) (e_rg o (r := x) (e_var o S7 rfl) 0) xin.p0 hpd) (e_int o) hpd3.2)) (e_call o (k6.un hL) (a_cons o (e_var o S7 rfl) (a_cons o (e_var o S7 rfl) (a_cons o (e_var o S7 rfl) (a_nil o)))) ⟨ps, p, x, rows, xin.p0, hp, lf, hf, im, by omega, by omega, by omega, by omega, rfl, rfl⟩)) fun v8 H8 w8 r8 => ?_
      have e : movedR ms rd r.p + (((leavesOf ps rs).take i).map (leafC ps rows)).sum + p.cost + (wrongs p x rows x.h.toNat : Nat) = movedR ms rd r.p + ((((leavesOf ps rs).take i).map (leafC ps rows)).sum + leafC ps rows x) := by
        have e2 : leafC ps rows x = leafCost p x rows := by unfold leafC; rw [hp]
        rw [e2]
        unfold leafCost
        omega
      rw [e, ← isum_take_succ (leafC ps rows) hx] at r8
      exact ⟨k56.trans w8, k6.trans w8, _, (S7.mono o w8).putD (i := 5) r8⟩
  · rw [List.length_map, List.take_length] at S6
    refine s_ret o (e_var o S6 rfl) fun v H7 w7 r7 => k v H7 (k6.trans w7) ?_
    unfold costR
    rw [hrs]
    exact r7
abbrev N__law_allowed : List Str := ["_law_parts_here", "_law_found_here", "_law_wishes_here", "_law_region_here", "_law_fixed"]
abbrev s__law_allowed : Stmt := top 76
theorem sc__law_allowed : FnScope ["_law_parts_here", "_law_found_here", "_law_wishes_here", "_law_region_here", "_law_fixed"] ["_law_parts_here", "_law_found_here", "_law_wishes_here"] (defScope s__law_allowed) := ⟨rfl, rfl, rfl, by decide +kernel, rfl, by decide +kernel, by decide +kernel⟩
def R_law_allowed (ds : List PyData) (d : PyData) : Prop := ∃ (ps : List Pt) (rs fixed forb : List Rg), (∀ r ∈ rs, 0 ≤ r.p ∧ ∃ p, ps[r.p.toNat]? = some p) ∧ ds = [pts ps, .list (rs.map Rg.d), wish fixed forb] ∧ d = .bool (allowedL ps fixed forb rs)
theorem ok__law_allowed (F : DefA K mg "_law_allowed" s__law_allowed) (B : Blt mg) (c__law_strip : C8.Cal P w K mg base 1 "_law_strip" (spD K RisStrip) []) (c__law_meets : C8.Cal P w K mg base 1 "_law_meets" (spD K Roverlap) []) : C8.Cal P w K mg base 2 "_law_allowed" (spD K R_law_allowed) [] := by
  refine cal_by F sc__law_allowed rfl rfl rfl (fun _ _ _ _ _ _ us hl => match us, hl with | [_, _, _], _ => rfl) (spD_len fun ds d ⟨_, _, _, _, _, e, _⟩ => by rw [e]; rfl) fun f cdv A outer s H vs Q E hr h => ?_
  obtain ⟨L, ds, d, hL, hd, ⟨ps, rs, fixed, forb, hps, rfl, rfl⟩, k⟩ := h
  have o := w0 K L
  have hu := hu_of hr
  have hu4 : _ + 64 < cLine := hr.units
  have hu5 := u65 hr
  have S := Sl.start (C := W0 K L) (N := N__law_allowed) hd
  refine ⟨_, (pss_c (ps_for PassesOwn.never rfl (pi_list (pv 1)) (pg_name (i := 3) sc__law_allowed.nd rfl (Or.inl rfl)) (pss_c (ps_if (pt_cmpR (op_inT hu5) (pv 3) (pe_ix ix_seq (pv 2) pe_int (fun _ _ => rfl)) (by rfl)) (pss_one (ps_ret pe_bl)) pss_nil)
  (pss_one (ps_if (pt_not (pt_val (C8.pe_c c__law_strip hr (by omega) rfl (pa_cons (pe_ix ix_seq (pv 0) (pe_ix ix_seq (pv 3) pe_int (fun _ _ => rfl)) (fun _ _ => rfl)) pa_nil)))) (pss_one (ps_for PassesOwn.never rfl (pi_tup (pe_ix ix_seq (pv 2) pe_int (fun _ _ => rfl))) (pg_name (i := 4) sc__law_allowed.nd rfl (Or.inl rfl)) (pss_one (ps_if (PW.pt (pw_and (pt_cmpR (op_NQ hu4) (pv 4) (pv 3) (nomark _)) (pw_and1 (pt_val (C8.pe_c c__law_meets hr (by omega) rfl (pa_cons (pv 4) (pa_cons (pv 3) pa_nil))))))) (pss_one (ps_ret pe_bl)) pss_nil)))) pss_nil))))
  (pss_one (ps_ret pe_bl))), ?_⟩
  refine s_forN o (ds := rs.map Rg.d) (e_var o S rfl)
    (fun i σ' H' => Kp No H H' ∧ allowedL ps fixed forb (rs.take i) = true ∧ ∃ b3 b4 : Ds, Sl (W0 K L) H' σ' [.da (pts ps), .da (.list (rs.map Rg.d)), .da (wish fixed forb), b3, b4]) (M := No) (fun a z => z.elim)
    (fun H' w' => ⟨w', rfl, .un, .un, S.mono o w'⟩) (fun H5 w5 i d v σ6 H6 hi rd6 k56 ⟨k6, ha6, b3, b4, S6⟩ => ?_) (fun H5 w5 σ6 H6 k56 ⟨k6, ha6, b3, b4, S6⟩ => ?_)
  · rw [List.getElem?_map] at hi
    cases hx : rs[i]? with
    | none => rw [hx] at hi; cases hi
    | some x =>
      rw [hx] at hi
      cases hi
      have hxm : x ∈ rs := List.mem_of_getElem? hx
      obtain ⟨h0, p, hp⟩ := hps x hxm
      have hpd : (ps.map Pt.d)[x.p.toNat]? = some p.d := by rw [List.getElem?_map, hp]; rfl
      have S7 := S6.putD (i := 3) rd6
      have no : allowedB p x fixed forb = false → allowedL ps fixed forb rs = false := fun h => by
        unfold allowedL
        rw [List.all_eq_false]
        refine ⟨x, hxm, ?_⟩
        rw [hp]
        show ¬ allowedB p x fixed forb = true
        rw [h]
        exact Bool.false_ne_true
      have yes : allowedB p x fixed forb = true → allowedL ps fixed forb (rs.take (i + 1)) = true := fun h => by
        rw [take_snoc hx]
        unfold allowedL at ha6 ⊢
        rw [List.all_append, ha6, Bool.true_and]
        simp only [List.all_cons, List.all_nil, Bool.and_true]
        rw [hp]
        exact h
      refine s_if o (t_test o (e_inT o (shaped_rg x) (shaped_rgsT forb) (e_var o S7 rfl) (e_ixT o (i := 1) (d := .tuple (forb.map Rg.d)) (e_var o S7 rfl) (e_int o) rfl))) (fun c H8 w8 => ?_) (fun c H8 w8 => ?_)
      · rw [any_rg] at c
        refine s_ret o (e_bl o) fun v H9 w9 r9 => k v H9 ((k6.trans w8).trans w9) ?_
        rw [no (by unfold allowedB; rw [if_pos c])]
        exact r9
      rw [any_rg] at c
      have S8 := S7.mono o w8
      have k8 : Kp No H H8 := k6.trans w8
      unfold tNext
      dsimp only
      refine s_if o (t_not o (t_B o (e_call o (k8.un hL) (a_cons o (e_ixTz o (ds := ps.map Pt.d) (e_var o S8 rfl) (e_rg o (r := x) (e_var o S8 rfl) 0) h0 hpd) (a_nil o)) ⟨p, rfl, rfl⟩))) (fun c2 H9 w9 => ?_) (fun c2 H9 w9 => ?_)
      · have hs : p.isStrip = false := by simpa using c2
        have hab : allowedB p x fixed forb = (List.range fixed.length).all fun i => match fixed[i]? with
          | some o => decide (o = x) || !o.over x
          | none => true := by
          unfold allowedB
          rw [if_neg (by rw [c]; exact Bool.false_ne_true), if_neg (by rw [hs]; exact Bool.false_ne_true)] <;> rfl
        have S9 := S8.mono o w9
        have k9 : Kp No H H9 := k8.trans w9
        refine s_forTN o (ds := fixed.map Rg.d) (e_ixT o (i := 0) (d := .tuple (fixed.map Rg.d)) (e_var o S9 rfl) (e_int o) rfl)
          (fun j σ' H' => Kp No H H' ∧ Kp No H5 H' ∧ (∀ j', j' < j → ∀ f, fixed[j']? = some f → (decide (f = x) || !f.over x) = true) ∧ ∃ b4 : Ds, Sl (W0 K L) H' σ' [.da (pts ps), .da (.list (rs.map Rg.d)), .da (wish fixed forb), .da x.d, b4]) (M := No) (fun a z => z.elim)
          (fun H' w' => ⟨k9.trans w', (k56.trans (w8.trans w9)).trans w', fun j' h => absurd h (Nat.not_lt_zero _), _, S9.mono o w'⟩) (fun H10 w10 j d v σ11 H11 hj rd11 k1011 ⟨k11, k511, ha11, b4, S11⟩ => ?_) (fun H10 w10 σ11 H11 k1011 ⟨k11, k511, ha11, b4, S11⟩ => ?_)
        · rw [List.getElem?_map] at hj
          cases hf : fixed[j]? with
          | none => rw [hf] at hj; cases hj
          | some f =>
            rw [hf] at hj
            cases hj
            have S12 := S11.putD (i := 4) rd11
            have hne : Ed (W0 K L) (tOp (rNQ K) (tVar 4) (tVar 3)) (σ11.set 4 (some v)) H11 (.bool (!decide (f = x))) := by
              have := e_neD o (shaped_rg f) (shaped_rg x) (e_var o S12 (i := 4) rfl) (e_var o S12 (i := 3) rfl)
              rw [eqv_rg] at this
              exact this
            refine s_if o (t_and o (t_test o hne) fun _ => t_B o (e_call o (k11.un hL) (a_cons o (e_var o S12 rfl) (a_cons o (e_var o S12 rfl) (a_nil o))) ⟨f, x, rfl, rfl⟩)) (fun c3 H13 w13 => ?_) (fun c3 H13 w13 => ?_)
            · refine s_ret o (e_bl o) fun v H14 w14 r14 => k v H14 ((k11.trans w13).trans w14) ?_
              rw [no ?_]
              · exact r14
              · rw [hab, List.all_eq_false]
                refine ⟨j, List.mem_range.mpr (List.getElem?_eq_some_iff.mp hf).1, ?_⟩
                rw [hf]
                show ¬ (decide (f = x) || !f.over x) = true
                rw [Bool.and_eq_true] at c3
                obtain ⟨c4, c5⟩ := c3
                rw [c5]
                simpa using c4
            · refine ⟨k1011.trans w13, k11.trans w13, k511.trans w13, fun j' hj' f' hf' => ?_, _, S12.mono o w13⟩
              rcases Nat.lt_succ_iff_lt_or_eq.mp hj' with h | h
              · exact ha11 j' h f' hf'
              · subst h
                rw [hf] at hf'
                cases hf'
                cases e1 : decide (f = x) <;> cases e2 : f.over x <;> simp_all
        · rw [List.length_map] at ha11
          refine ⟨k511, k11, yes ?_, _, _, S11⟩
          rw [hab, List.all_eq_true]
          intro j hj
          have hj := List.mem_range.mp hj
          rw [List.getElem?_eq_getElem hj]
          exact ha11 j hj _ (List.getElem?_eq_getElem hj)
      · have hs : p.isStrip = true := by simpa using c2
        refine ⟨k56.trans (w8.trans w9), k8.trans w9, yes ?_, _, _, S8.mono o w9⟩
        unfold allowedB
        rw [if_neg (by rw [c]; exact Bool.false_ne_true), if_pos hs]
  · rw [List.length_map, List.take_length] at ha6
    refine s_ret o (e_bl o) fun v H7 w7 r7 => k v H7 (k6.trans w7) ?_
    rw [ha6]
    exact r7
abbrev N__law_found : List Str := ["_law_parts_here", "_law_ways", "_law_region_here", "_law_readings", "_law_rows", "_law_wishes_here", "_law_found_here", "_law_reading"]
abbrev s__law_found : Stmt := top 77
theorem sc__law_found : FnScope ["_law_parts_here", "_law_ways", "_law_region_here", "_law_readings", "_law_rows", "_law_wishes_here", "_law_found_here", "_law_reading"] ["_law_parts_here", "_law_ways", "_law_region_here", "_law_readings", "_law_rows", "_law_wishes_here"] (defScope s__law_found) := ⟨rfl, rfl, rfl, by decide +kernel, rfl, by decide +kernel, by decide +kernel⟩
def R_law_found (ds : List PyData) (d : PyData) : Prop := ∃ (ps : List Pt) (ms : List (Option Mch)) (R0 r : Rg) (rds : List Rd) (rows : List Str) (fixed forb : List Rg), Gram ps ms ∧ Page ps R0 ∧ Ins ps R0 r ∧ (∀ rd ∈ rds, RdOk ps ms r rd) ∧ rds.length ≤ 1000 ∧ Img rows ∧ ds = [pts ps, mcs ms, r.d, .list (rds.map Rd.d), .tuple (rows.map .str), wish fixed forb] ∧
  d = .list ((rds.filter fun rd => allowedL ps fixed forb (regs ps ms rd r)).map fun rd => .tuple [.int (costR ps ms rows rd r), rd.d])
theorem ok__law_found (F : DefA K mg "_law_found" s__law_found) (c__law_regions : C8.Cal P w K mg base 7 "_law_regions" (spD K (R_law_regions 6)) []) (c__law_allowed : C8.Cal P w K mg base 2 "_law_allowed" (spD K R_law_allowed) []) (c__law_cost : C8.Cal P w K mg base 8 "_law_cost" (spD K R_law_cost) []) : C8.Cal P w K mg base 9 "_law_found" (spD K R_law_found) [] := by
  refine cal_by F sc__law_found rfl rfl rfl (fun _ _ _ _ _ _ us hl => match us, hl with | [_, _, _, _, _, _], _ => rfl) (spD_len fun ds d ⟨_, _, _, _, _, _, _, _, _, _, _, _, _, _, e, _⟩ => by rw [e]; rfl) fun f cdv A outer s H vs Q E hr h => ?_
  obtain ⟨L, ds, d, hL, hd, ⟨ps, ms, R0, r, rds, rows, fixed, forb, G, g, hin, hoks, hlr, im, rfl, rfl⟩, k⟩ := h
  have o := w0 K L
  have S := Sl.start (C := W0 K L) (N := N__law_found) hd
  refine ⟨_, (pss_c (ps_set (i := 6) sc__law_found.nd rfl (Or.inl rfl) (pe_lst pa_nil))
  (pss_c (ps_for PassesOwn.never rfl (pi_list (pv 3)) (pg_name (i := 7) sc__law_found.nd rfl (Or.inl rfl)) (pss_one (ps_if (pt_val (C8.pe_c c__law_allowed hr (by omega) rfl (pa_cons (pv 0) (pa_cons (C8.pe_c c__law_regions hr (by omega) rfl (pa_cons (pv 0) (pa_cons (pv 1) (pa_cons (pv 2) (pa_cons (pv 7) pa_nil))))) (pa_cons (pv 5) pa_nil))))) (pss_one (ps_expr (pe_bm PySem.F.plainAttrs_list PySem.F.slot_list_append PySem.F.type_list_append mt_append (pv 6) (pa_cons (pe_tup (pa_cons (C8.pe_c c__law_cost hr (by omega) rfl (pa_cons (pv 0) (pa_cons (pv 1) (pa_cons (pv 2) (pa_cons (pv 7) (pa_cons (pv 4) pa_nil)))))) (pa_cons (pv 7) pa_nil))) pa_nil)))) pss_nil)))
  (pss_one (ps_ret (pv 6))))), ?_⟩
  have hp0 := hin.p0
  have hp1 := hin.p1
  have hfew := G.few
  refine s_new (i := 6) S fun q hq S1 => ?_
  have hqL := not_loose hL hq
  have kend : ∀ {H'}, Kp (· = q) (upd H q (.lst [])) H' → Kp No H H' := fun k' => (Kp.new hq).loc hq k'
  have un1 : ∀ c, Lp L q c → upd H q (.lst []) c ≠ none := own_un hL _
  have hq1 : upd H q (.lst []) q = some (.lst []) := upd_same
  generalize upd H q (.lst []) = H1 at S1 kend un1 hq1 ⊢
  have o1 := w0 K (Lp L q)
  let g0 : Rd → PyData := fun rd => .tuple [.int (costR ps ms rows rd r), rd.d]
  let p0 : Rd → Bool := fun rd => allowedL ps fixed forb (regs ps ms rd r)
  refine s_forN o1 (ds := rds.map Rd.d) (e_var o1 S1 rfl)
    (fun i σ' H' => Kp (· = q) H1 H' ∧ ∃ (b7 : Ds) (xs : List V), Sl (W0 K (Lp L q)) H' σ' [.da (pts ps), .da (mcs ms), .da r.d, .da (.list (rds.map Rd.d)), .da (.tuple (rows.map .str)), .da (wish fixed forb), .va (.ref q), b7] ∧ H' q = some (.lst xs) ∧ DTs K (Lp L q) H' xs (((rds.take i).filter p0).map g0)) (M := (· = q)) (fun a e => .inr e)
    (fun H' w' => ⟨w'.mono fun _ z => z.elim, .un, [], S1.mono o1 w', w'.lst (fun z => z.elim) hq1, .nil⟩) (fun H5 w5 i d v σ6 H6 hi rd6 k56 ⟨k6, b7, xs, S6, hq6, rx6⟩ => ?_) (fun H5 w5 σ6 H6 k56 ⟨k6, b7, xs, S6, hq6, rx6⟩ => ?_)
  · rw [List.getElem?_map] at hi
    cases hx : rds[i]? with
    | none => rw [hx] at hi; cases hi
    | some rd =>
      rw [hx] at hi
      cases hi
      have hok := hoks rd (List.mem_of_getElem? hx)
      have S7 := S6.putD (i := 7) rd6
      have un6 := k6.un un1
      have hmem := regs_mem G g (r.p.toNat + 1) r rd (by omega) hin hok
      have hl6 : xs.length ≤ 1000 := by
        rw [rx6.length, List.length_map]
        have h1 := List.length_filter_le p0 (rds.take i)
        have h2 := List.length_take (i := i) (l := rds)
        omega
      refine s_ifApp (b := p0 rd) (P := fun v H' => DT K (Lp L q) H' v (g0 rd)) S7 (p := q) rfl hq6 (lt_size (by omega)) (t_B o1 (e_call o1 un6 (a_cons o1 (e_var o1 S7 rfl) (a_cons o1 (e_call o1 un6 (a_cons o1 (e_var o1 S7 rfl) (a_cons o1 (e_var o1 S7 rfl) (a_cons o1 (e_var o1 S7 rfl) (a_cons o1 (e_var o1 S7 rfl) (a_nil o1))))) ⟨ps, ms, R0, r, rd, G, g, hin, hok, by omega, rfl, rfl⟩) (a_cons o1 (e_var o1 S7 rfl) (a_nil o1)))) ⟨ps, regs ps ms rd r, fixed, forb, fun x hx => ⟨(hmem x hx).1.p0, (hmem x hx).1.part⟩, rfl, rfl⟩)) (fun c H8 w8 => ?_) (.inr rfl) fun H8 k8 S8 hz => ?_
      · have S8 := S7.mono o1 w8
        have un8 := w8.un un6
        exact e_tup o1 (a_cons o1 (e_call o1 un8 (a_cons o1 (e_var o1 S8 rfl) (a_cons o1 (e_var o1 S8 rfl) (a_cons o1 (e_var o1 S8 rfl) (a_cons o1 (e_var o1 S8 rfl) (a_cons o1 (e_var o1 S8 rfl) (a_nil o1)))))) ⟨ps, ms, R0, r, rd, rows, G, g, hin, hok, im, rfl, rfl⟩) (a_cons o1 (e_var o1 S8 rfl) (a_nil o1)))
      · refine ⟨k56.trans k8, k6.trans k8, .da rd.d, ?_⟩
        rw [take_snoc hx, List.filter_append, List.map_append]
        have rx8 := DTs.step (M := (· = q)) (fun a e => .inr e) k8 rx6
        rcases hz with ⟨hb, v, H'', rv, kp, hqa⟩ | ⟨hb, hqa, _⟩
        · refine ⟨_, S8, hqa, ?_⟩
          rw [List.filter_cons_of_pos hb]
          exact rx8.snoc (DT.step (M := (· = q)) (fun a e => .inr e) kp rv)
        · refine ⟨_, S8, hqa, ?_⟩
          rw [List.filter_cons_of_neg (by rw [hb]; exact Bool.false_ne_true)]
          simpa using rx8
  · rw [List.length_map, List.take_length] at rx6
    refine s_ret o1 (e_val o1 S6 rfl) fun v H7 w7 e7 => ?_
    subst e7
    exact k _ H7 (kend (k6.trans (w7.mono fun _ z => z.elim))) (.lst hqL (w7.lst (fun z => z.elim) hq6) (DTs.less (fun c l => .inl l) (DTs.mono o1 w7 rx6)))
end
end SR

namespace SR
open PySem PySem.Spec PyProof.Rows L2
section
variable {L : Addr → Prop} {K : PySem.W.Frag} {b a : Addr} {zs : List Int} {H : Hp} {σ : L2.St} {ρ : List Ds} {i : Nat} {m n : Int} {te : TE} {tt tu : TT}
/-- int(draw(m)) % n -/
theorem z_modN (hb : L b) (bx : BoxAt H b a zs) (S : Sl (Wb K L b a zs) H σ ρ) (hi : ρ[i]? = some (.va (.ref b))) (h : Ed (Wb K L b a zs) te σ H (.int n)) (hn : 0 < n) (hm : 0 < m) :
    EZ (Wb K L b a zs) (tOp (rI (fun _ j => 0 < j) fun i j => .int (i % j)) (tCB rInt1 (tCons (tCall (spDraw K) [] E0 (tCons (tVar i) (tCons (tC (.int m)) tNil))) tNil)) te) σ H (zI fun i => 0 ≤ i ∧ i < n) := by
  have o := wb K (a := a) (zs := zs) hb
  refine z_opc o (P' := fun j => j = n) (z_intI o (z_drawI hb bx S hi hm)) (z_int h rfl) (fun i j _ h => by omega) fun i j _ h => ?_
  subst h
  exact ⟨Int.emod_nonneg _ (by omega), Int.emod_lt_of_pos _ hn⟩
theorem t_zor {C : Wd} (o : C.Ok) {c : Bool} (h1 : Et C tt σ H c) (h2 : c = false → TZ C tu σ H) : TZ C (tOr tt tu) σ H := fun H1 w Q q => h1 H1 w _ fun c' H2 w2 e => by
  subst e
  cases c' with
  | true => exact q true H2 w2 trivial
  | false => exact h2 rfl H2 (o.trans w w2) _ fun b H3 w3 _ => q b H3 (o.trans w2 w3) trivial
end
theorem e_shape {C : Wd} (o : C.Ok) {σ' : L2.St} {H' : Hp} {te : TE} {p : Pt} (h : Ed C te σ' H' p.d) : Ed C (tOp (rQ C.K) (tOp (rIx C.K) te (tC (.int 0))) (tC (.str "shape"))) σ' H' (.bool (!p.isStrip && !p.isPlain)) := by
  obtain ⟨pr, hpr⟩ := p.d0
  have := e_eqS o (i := p.kind) (j := "shape") (e_ixT o (i := 0) (ds := .str p.kind :: pr) (d := .str p.kind) (by rw [← hpr]; exact h) (e_int o) rfl) (e_str o)
  rw [p.kind_shape] at this
  exact this
/-- a part is a shape with its rows, or it is none -/
theorem PsOk.shape {ps : List Pt} (pk : PsOk ps) {p : Pt} (hp : p ∈ ps) (h : (!p.isStrip && !p.isPlain) = true) : ∃ nn lb cc rows r0 rs, p = .shape nn lb cc rows ∧ rows = r0 :: rs ∧ r0.length = wide rows ∧ 1 ≤ wide rows ∧ wide rows ≤ 3 ∧ 1 ≤ rows.length ∧ rows.length ≤ 3 ∧ Img rows := by
  obtain ⟨hns, hnp⟩ : p.isStrip = false ∧ p.isPlain = false := by simpa using h
  obtain ⟨lf, _, _, lr⟩ := (pk.2.2 p hp).resolve_left (by rw [hns]; exact Bool.false_ne_true)
  obtain ⟨l1, l2, l3⟩ := lr hnp
  have im := lf.im hnp
  cases p with
  | plain => cases hnp
  | strip => cases hns
  | shape nn lb cc rows =>
    cases rows with
    | nil => exact absurd rfl im.ne
    | cons r0 rs => exact ⟨nn, lb, cc, r0 :: rs, r0, rs, rfl, rfl, im.len r0 List.mem_cons_self, l1, l2, by simp, l3, im⟩
section
variable {P : Program} {w : World} {K : PySem.W.Frag} {mg : Str → Option Value} {base : Heap}
abbrev N__law_region : List Str := ["_law_box", "_law_parts_here", "_law_region_here", "_law_number", "_law_x", "_law_y", "_law_wide", "_law_high", "_law_part"]
abbrev s__law_region : Stmt := top 73
theorem sc__law_region : FnScope ["_law_box", "_law_parts_here", "_law_region_here", "_law_number", "_law_x", "_law_y", "_law_wide", "_law_high", "_law_part"] ["_law_box", "_law_parts_here", "_law_region_here"] (defScope s__law_region) := ⟨rfl, rfl, rfl, by decide +kernel, rfl, by decide +kernel, by decide +kernel⟩
def R_law_region (ds : List PyData) (Z : PyData → Prop) : Prop := ∃ (ps : List Pt) (r : Rg), PsOk ps ∧ Page ps r ∧ ds = [pts ps, r.d] ∧ Z = fun d => ∃ x : Rg, Ins ps r x ∧ d = x.d
theorem ok__law_region (F : DefA K mg "_law_region" s__law_region) (B : Blt mg) (c__law_draw : C8.Cal P w K mg base 1 "_law_draw" (spDraw K) []) : C8.Cal P w K mg base 2 "_law_region" (spB K R_law_region) [] := by
  refine cal_by F sc__law_region rfl rfl rfl (fun _ _ _ _ _ _ us hl => match us, hl with | [_, _, _], _ => rfl) (spB_len fun ds Z ⟨_, _, _, _, e, _⟩ => by rw [e]; rfl) fun f cdv A outer s H vs Q E hr h => ?_
  obtain ⟨L, b, a, zs, vs', ds, Z, rfl, hL, hb, bx, hd, ⟨ps, r, pk, g, rfl, rfl⟩, k⟩ := h
  obtain ⟨hp1, hp6, hpk⟩ := id pk
  have o := wb K (a := a) (zs := zs) hb
  have hu4 : _ + 64 < cLine := hr.units
  have S := Sl.startB (C := Wb K L b a zs) (N := N__law_region) (b := b) hd
  refine ⟨_, (pss_c (ps_set (i := 3) sc__law_region.nd rfl (Or.inl rfl) (pe_op op_mod (pe_callTy call_int1 (by rfl) B.int (by decide +kernel) (pa_cons (C8.pe_c c__law_draw hr (by omega) rfl (pa_cons (pv 0) (pa_cons pe_int pa_nil))) pa_nil)) (pe_callB call_len (by rfl) B.len PySem.boot_len (pa_cons (pv 1) pa_nil))))
  (pss_c (ps_set (i := 4) sc__law_region.nd rfl (Or.inl rfl) (C8.pe_c c__law_draw hr (by omega) rfl (pa_cons (pv 0) (pa_cons (pe_ix ix_seq (pv 2) pe_int (fun _ _ => rfl)) pa_nil))))
  (pss_c (ps_set (i := 5) sc__law_region.nd rfl (Or.inl rfl) (C8.pe_c c__law_draw hr (by omega) rfl (pa_cons (pv 0) (pa_cons (pe_ix ix_seq (pv 2) pe_int (fun _ _ => rfl)) pa_nil))))
  (pss_c (ps_set (i := 6) sc__law_region.nd rfl (Or.inl rfl) (pe_op op_add pe_int (C8.pe_c c__law_draw hr (by omega) rfl (pa_cons (pv 0) (pa_cons (pe_op op_sub (pe_ix ix_seq (pv 2) pe_int (fun _ _ => rfl)) (pv 4)) pa_nil)))))
  (pss_c (ps_set (i := 7) sc__law_region.nd rfl (Or.inl rfl) (pe_op op_add pe_int (C8.pe_c c__law_draw hr (by omega) rfl (pa_cons (pv 0) (pa_cons (pe_op op_sub (pe_ix ix_seq (pv 2) pe_int (fun _ _ => rfl)) (pv 5)) pa_nil)))))
  (pss_c (ps_set (i := 8) sc__law_region.nd rfl (Or.inl rfl) (pe_ix ix_seq (pv 1) (pv 3) (fun _ _ => rfl)))
  (pss_c (ps_if (PW.pt (pw_and (pt_cmpR (op_Q hu4) (pe_ix ix_seq (pv 8) pe_int (fun _ _ => rfl)) pe_str (nomark _)) (pw_and (pt_cmpR op_le (pe_op op_add (pv 4) (pe_callB call_len (by rfl) B.len PySem.boot_len (pa_cons (pe_ix ix_seq (pe_ix ix_seq (pv 8) pe_int (fun _ _ => rfl)) pe_int (fun _ _ => rfl)) pa_nil))) (pe_ix ix_seq (pv 2) pe_int (fun _ _ => rfl)) (nomark _)) (pw_and1 (pt_cmpR op_le (pe_op op_add (pv 5) (pe_callB call_len (by rfl) B.len PySem.boot_len (pa_cons (pe_ix ix_seq (pv 8) pe_int (fun _ _ => rfl)) pa_nil))) (pe_ix ix_seq (pv 2) pe_int (fun _ _ => rfl)) (nomark _)))))) (pss_c (ps_set (i := 6) sc__law_region.nd rfl (Or.inl rfl) (pe_callB call_len (by rfl) B.len PySem.boot_len (pa_cons (pe_ix ix_seq (pe_ix ix_seq (pv 8) pe_int (fun _ _ => rfl)) pe_int (fun _ _ => rfl)) pa_nil)))
  (pss_one (ps_set (i := 7) sc__law_region.nd rfl (Or.inl rfl) (pe_callB call_len (by rfl) B.len PySem.boot_len (pa_cons (pe_ix ix_seq (pv 8) pe_int (fun _ _ => rfl)) pa_nil))))) pss_nil)
  (pss_one (ps_ret (pe_tup (pa_cons (pv 3) (pa_cons (pe_op op_add (pe_ix ix_seq (pv 2) pe_int (fun _ _ => rfl)) (pv 4)) (pa_cons (pe_op op_add (pe_ix ix_seq (pv 2) pe_int (fun _ _ => rfl)) (pv 5)) (pa_cons (pv 6) (pa_cons (pv 7) pa_nil))))))))))))))), ?_⟩
  have gi := g.ins
  have gw := gi.w0
  have gh := gi.h0
  refine s_set o (z_modN (n := (ps.length : Int)) hb bx S rfl (by have := e_lenT o (ds := ps.map Pt.d) (e_var o S (i := 1) rfl); rw [List.length_map] at this; exact this) (by omega) (by decide)) fun v1 H1 w1 hz => ?_
  obtain ⟨_, ⟨n, rfl, hn0, hn1⟩, r1⟩ := hz
  have S1 := (S.mono o w1).putD (i := 3) r1
  have bx1 := w1.2 bx
  obtain ⟨p, hp⟩ : ∃ p, ps[n.toNat]? = some p := ⟨ps[n.toNat]'(by omega), List.getElem?_eq_getElem _⟩
  have hpm := List.mem_of_getElem? hp
  refine s_set o (z_draw (m := r.w) hb bx1 S1 rfl (z_int (e_rg o (r := r) (e_var o S1 rfl) 3) rfl) (by omega)) fun v2 H2 w2 hz => ?_
  obtain ⟨_, ⟨x, rfl, hx0, hx1⟩, r2⟩ := hz
  have S2 := (S1.mono o w2).putD (i := 4) r2
  have bx2 := w2.2 bx1
  refine s_set o (z_draw (m := r.h) hb bx2 S2 rfl (z_int (e_rg o (r := r) (e_var o S2 rfl) 4) rfl) (by omega)) fun v3 H3 w3 hz => ?_
  obtain ⟨_, ⟨y, rfl, hy0, hy1⟩, r3⟩ := hz
  have S3 := (S2.mono o w3).putD (i := 5) r3
  have bx3 := w3.2 bx2
  refine s_set o (z_op0 o (R := fun i => 1 ≤ i ∧ x + i ≤ r.w) (z_int (P := fun i => i = 1) (e_int o) rfl) (z_draw (m := r.w - x) hb bx3 S3 rfl (z_int (e_sub o (i := r.w) (j := x) (e_rg o (r := r) (e_var o S3 rfl) 3) (e_var o S3 rfl)) rfl) (by omega)) (fun i j h1 h2 => by omega)) fun v4 H4 w4 hz => ?_
  obtain ⟨_, ⟨wd, rfl, hwd0, hwd1⟩, r4⟩ := hz
  have S4 := (S3.mono o w4).putD (i := 6) r4
  have bx4 := w4.2 bx3
  refine s_set o (z_op0 o (R := fun i => 1 ≤ i ∧ y + i ≤ r.h) (z_int (P := fun i => i = 1) (e_int o) rfl) (z_draw (m := r.h - y) hb bx4 S4 rfl (z_int (e_sub o (i := r.h) (j := y) (e_rg o (r := r) (e_var o S4 rfl) 4) (e_var o S4 rfl)) rfl) (by omega)) (fun i j h1 h2 => by omega)) fun v5 H5 w5 hz => ?_
  obtain ⟨_, ⟨hg, rfl, hhg0, hhg1⟩, r5⟩ := hz
  have S5 := (S4.mono o w5).putD (i := 7) r5
  have bx5 := w5.2 bx4
  refine s_set o (e_ixTz o (ds := ps.map Pt.d) (d := p.d) (e_var o S5 rfl) (e_var o S5 rfl) hn0 (by rw [List.getElem?_map, hp]; rfl)) fun v6 H6 w6 r6 => ?_
  have S6 := (S5.mono o w6).putD (i := 8) r6
  have w06 := o.trans (o.trans (o.trans (o.trans (o.trans w1 w2) w3) w4) w5) w6
  have fin : ∀ {v H'} {wd hg : Int}, (Wb K L b a zs).W H6 H' → 1 ≤ wd → x + wd ≤ r.w → 1 ≤ hg → y + hg ≤ r.h → Dw (Wb K L b a zs) H' v (.tuple [.int n, .int (r.x + x), .int (r.y + y), .int wd, .int hg]) → Q v H' := fun {v H' wd hg} w' h1 h2 h3 h4 rv =>
    k v H' _ ⟨⟨n, r.x + x, r.y + y, wd, hg⟩, ⟨hn0, hn1, by show r.x ≤ r.x + x; omega, by show r.x + x + wd ≤ r.x + r.w; omega, by show r.y ≤ r.y + y; omega, by show r.y + y + hg ≤ r.y + r.h; omega, h1, h3⟩, rfl⟩ (o.trans w06 w').1 ((o.trans w06 w').2 bx) rv
  cases hsh : (!p.isStrip && !p.isPlain) with
  | false =>
    refine s_if o (b := false) (by
      have h1 := t_test o (e_shape o (p := p) (e_var o S6 (i := 8) rfl))
      rw [hsh] at h1
      exact t_and o (a := false) (b := false) h1 fun z => by cases z) (fun c H7 w7 => by cases c) (fun c H7 w7 => ?_)
    have S7 := S6.mono o w7
    exact s_ret o (e_tup o (a_cons o (e_var o S7 rfl) (a_cons o (e_add o (e_rg o (r := r) (e_var o S7 rfl) 1) (e_var o S7 rfl)) (a_cons o (e_add o (e_rg o (r := r) (e_var o S7 rfl) 2) (e_var o S7 rfl)) (a_cons o (e_var o S7 rfl) (a_cons o (e_var o S7 rfl) (a_nil o))))))) fun v8 H8 w8 r8 => fin (o.trans w7 w8) hwd0 hwd1 hhg0 hhg1 r8
  | true =>
    obtain ⟨nn, lb, cc, rows, r0, rs, rfl, erow, hw, hw1, hw2, hr1, hr2, im⟩ := pk.shape hpm hsh
    have eL : ∀ {σ' : L2.St} {H' : Hp} {ρ : List Ds}, Sl (Wb K L b a zs) H' σ' ρ → ρ[8]? = some (.da (Pt.shape nn lb cc rows).d) → Ed (Wb K L b a zs) (tCB (rLen K) (tCons (tOp (rIx K) (tVar 8) (tC (.int 4))) tNil)) σ' H' (.int rows.length) := fun {σ' H' ρ} S' h8 => by
      have := e_lenT o (ds := rows.map .str) (e_ixT o (i := 4) (ds := [.str "shape", .str nn, .str lb, .int cc, .tuple (rows.map .str)]) (e_var (i := 8) o S' h8) (e_int o) rfl)
      rw [List.length_map] at this
      exact this
    have eW : ∀ {σ' : L2.St} {H' : Hp} {ρ : List Ds}, Sl (Wb K L b a zs) H' σ' ρ → ρ[8]? = some (.da (Pt.shape nn lb cc rows).d) → Ed (Wb K L b a zs) (tCB (rLen K) (tCons (tOp (rIx K) (tOp (rIx K) (tVar 8) (tC (.int 4))) (tC (.int 0))) tNil)) σ' H' (.int (wide rows : Nat)) := fun {σ' H' ρ} S' h8 => by
      have := e_lenS o (z := r0) (e_ixT o (i := 0) (ds := rows.map .str) (d := .str r0) (e_ixT o (i := 4) (ds := [.str "shape", .str nn, .str lb, .int cc, .tuple (rows.map .str)]) (e_var (i := 8) o S' h8) (e_int o) rfl) (e_int o) (by rw [erow]; rfl)) (by rw [hw]; exact im.wd)
      rw [hw] at this
      exact this
    refine s_if o (t_and o (t_test o (e_shape o (p := Pt.shape nn lb cc rows) (e_var o S6 rfl))) fun _ => t_and o (t_test o (e_cmp o (i := x + (wide rows : Nat)) (j := r.w) (e_add o (i := x) (e_var o S6 rfl) (eW S6 rfl)) (e_rg o (r := r) (e_var o S6 rfl) 3))) fun _ => t_test o (e_cmp o (i := y + (rows.length : Nat)) (j := r.h) (e_add o (i := y) (e_var o S6 rfl) (eL S6 rfl)) (e_rg o (r := r) (e_var o S6 rfl) 4))) (fun c H7 w7 => ?_) (fun c H7 w7 => ?_)
    · have S7 := S6.mono o w7
      simp only [Bool.and_eq_true, decide_eq_true_eq] at c
      obtain ⟨_, c1, c2⟩ := c
      refine s_set o (eW S7 rfl) fun v8 H8 w8 r8 => ?_
      have S8 := (S7.mono o w8).putD (i := 6) r8
      refine s_set o (eL S8 rfl) fun v9 H9 w9 r9 => ?_
      have S9 := (S8.mono o w9).putD (i := 7) r9
      exact s_ret o (e_tup o (a_cons o (e_var o S9 rfl) (a_cons o (e_add o (e_rg o (r := r) (e_var o S9 rfl) 1) (e_var o S9 rfl)) (a_cons o (e_add o (e_rg o (r := r) (e_var o S9 rfl) 2) (e_var o S9 rfl)) (a_cons o (e_var o S9 rfl) (a_cons o (e_var o S9 rfl) (a_nil o))))))) fun v10 H10 w10 r10 => fin (o.trans (o.trans (o.trans w7 w8) w9) w10) (by omega) c1 (by omega) c2 r10
    · have S7 := S6.mono o w7
      exact s_ret o (e_tup o (a_cons o (e_var o S7 rfl) (a_cons o (e_add o (e_rg o (r := r) (e_var o S7 rfl) 1) (e_var o S7 rfl)) (a_cons o (e_add o (e_rg o (r := r) (e_var o S7 rfl) 2) (e_var o S7 rfl)) (a_cons o (e_var o S7 rfl) (a_cons o (e_var o S7 rfl) (a_nil o))))))) fun v8 H8 w8 r8 => fin (o.trans w7 w8) hwd0 hwd1 hhg0 hhg1 r8
abbrev N__law_wishes : List Str := ["_law_box", "_law_parts_here", "_law_ways", "_law_region_here", "_law_readings", "_law_most", "_law_fixed", "_law_forbidden", "_law_k", "_law_wish", "_law_found_here"]
abbrev s__law_wishes : Stmt := top 74
theorem sc__law_wishes : FnScope ["_law_box", "_law_parts_here", "_law_ways", "_law_region_here", "_law_readings", "_law_most", "_law_fixed", "_law_forbidden", "_law_k", "_law_wish", "_law_found_here"] ["_law_box", "_law_parts_here", "_law_ways", "_law_region_here", "_law_readings", "_law_most"] (defScope s__law_wishes) := ⟨rfl, rfl, rfl, by decide +kernel, rfl, by decide +kernel, by decide +kernel⟩
def R_law_wishes (ds : List PyData) (Z : PyData → Prop) : Prop := ∃ (ps : List Pt) (ms : List (Option Mch)) (r : Rg) (rds : List Rd), PsOk ps ∧ Gram ps ms ∧ Page ps r ∧ (∀ rd ∈ rds, RdOk ps ms r rd) ∧ ds = [pts ps, mcs ms, r.d, .list (rds.map Rd.d), .int 4] ∧
  Z = fun d => ∃ fixed forb : List Rg, fixed.length ≤ 4 ∧ forb.length ≤ 4 ∧ (∀ x ∈ fixed, Ins ps r x) ∧ (∀ x ∈ forb, Ins ps r x) ∧ d = wish fixed forb
theorem ok__law_wishes (F : DefA K mg "_law_wishes" s__law_wishes) (B : Blt mg) (c__law_draw : C8.Cal P w K mg base 1 "_law_draw" (spDraw K) []) (c__law_region : C8.Cal P w K mg base 2 "_law_region" (spB K R_law_region) []) (c__law_regions : C8.Cal P w K mg base 7 "_law_regions" (spD K (R_law_regions 6)) []) (c__law_strip : C8.Cal P w K mg base 1 "_law_strip" (spD K RisStrip) []) : C8.Cal P w K mg base 8 "_law_wishes" (spB K R_law_wishes) [] := by
  refine cal_by F sc__law_wishes rfl rfl rfl (fun _ _ _ _ _ _ us hl => match us, hl with | [_, _, _, _, _, _], _ => rfl) (spB_len fun ds Z ⟨_, _, _, _, _, _, _, _, e, _⟩ => by rw [e]; rfl) fun f cdv A outer s H vs Q E hr h => ?_
  obtain ⟨L, b, a, zs, vs', ds, Z, rfl, hL, hb, bx, hd, ⟨ps, ms, r, rds, pk, G, g, hoks, rfl, rfl⟩, k⟩ := h
  have o := wb K (a := a) (zs := zs) hb
  have hu4 : _ + 64 < cLine := hr.units
  have hu5 := u65 hr
  have S := Sl.startB (C := Wb K L b a zs) (N := N__law_wishes) (b := b) hd
  refine ⟨_, (pss_c (ps_set (i := 6) sc__law_wishes.nd rfl (Or.inl rfl) (pe_lst pa_nil))
  (pss_c (ps_set (i := 7) sc__law_wishes.nd rfl (Or.inl rfl) (pe_lst pa_nil))
  (pss_c (ps_for PassesOwn.never rfl (pi_range1 (by rfl) B.range (pa_cons (C8.pe_c c__law_draw hr (by omega) rfl (pa_cons (pv 0) (pa_cons (pe_op op_add (pv 5) pe_int) pa_nil))) pa_nil)) (pg_name (i := 8) sc__law_wishes.nd rfl (Or.inl rfl)) (pss_c (ps_set (i := 9) sc__law_wishes.nd rfl (Or.inl rfl) (C8.pe_c c__law_region hr (by omega) rfl (pa_cons (pv 0) (pa_cons (pv 1) (pa_cons (pv 3) pa_nil)))))
  (pss_c (ps_if (PW.pt (pw_and (pt_cmpR op_gt (pe_callB call_len (by rfl) B.len PySem.boot_len (pa_cons (pv 4) pa_nil)) pe_int (nomark _)) (pw_and1 (pt_cmpR op_gt (C8.pe_c c__law_draw hr (by omega) rfl (pa_cons (pv 0) (pa_cons pe_int pa_nil))) pe_int (nomark _))))) (pss_c (ps_set (i := 10) sc__law_wishes.nd rfl (Or.inl rfl) (C8.pe_c c__law_regions hr (by omega) rfl (pa_cons (pv 1) (pa_cons (pv 2) (pa_cons (pv 3) (pa_cons (pe_ix ix_seq (pv 4) (pe_op op_mod (pe_callTy call_int1 (by rfl) B.int (by decide +kernel) (pa_cons (C8.pe_c c__law_draw hr (by omega) rfl (pa_cons (pv 0) (pa_cons pe_int pa_nil))) pa_nil)) (pe_callB call_len (by rfl) B.len PySem.boot_len (pa_cons (pv 4) pa_nil))) (fun _ _ => rfl)) pa_nil))))))
  (pss_one (ps_set (i := 9) sc__law_wishes.nd rfl (Or.inl rfl) (pe_ix ix_seq (pv 10) (pe_op op_mod (pe_callTy call_int1 (by rfl) B.int (by decide +kernel) (pa_cons (C8.pe_c c__law_draw hr (by omega) rfl (pa_cons (pv 0) (pa_cons pe_int pa_nil))) pa_nil)) (pe_callB call_len (by rfl) B.len PySem.boot_len (pa_cons (pv 10) pa_nil))) (fun _ _ => rfl))))) pss_nil)
  (pss_one (ps_if (PW.pt (pw_and (pt_cmpR (op_notInD hu5) (pv 9) (pv 6) (by rfl)) (pw_and1 (pt_cmpR (op_notInD hu5) (pv 9) (pv 7) (by rfl))))) (pss_one (ps_if (PW.pt (pw_or (pt_val (C8.pe_c c__law_strip hr (by omega) rfl (pa_cons (pe_ix ix_seq (pv 1) (pe_ix ix_seq (pv 9) pe_int (fun _ _ => rfl)) (fun _ _ => rfl)) pa_nil))) (pw_or1 (pt_cmpR (op_Q hu4) (C8.pe_c c__law_draw hr (by omega) rfl (pa_cons (pv 0) (pa_cons pe_int pa_nil))) pe_int (nomark _))))) (pss_one (ps_expr (pe_bm PySem.F.plainAttrs_list PySem.F.slot_list_append PySem.F.type_list_append mt_append (pv 7) (pa_cons (pv 9) pa_nil)))) (pss_one (ps_expr (pe_bm PySem.F.plainAttrs_list PySem.F.slot_list_append PySem.F.type_list_append mt_append (pv 6) (pa_cons (pv 9) pa_nil)))))) pss_nil)))))
  (pss_one (ps_ret (pe_tup (pa_cons (pe_callTy call_tuple_of (by rfl) B.tuple (by decide +kernel) (pa_cons (pv 6) pa_nil)) (pa_cons (pe_callTy call_tuple_of (by rfl) B.tuple (by decide +kernel) (pa_cons (pv 7) pa_nil)) pa_nil)))))))), ?_⟩
  have hfew := G.few
  have gi := g.ins
  have gp0 := gi.p0
  have gp1 := gi.p1
  refine s_new (L := L) (i := 6) (S.cast (C' := W0 K L) rfl rfl) fun q1 hq1 S1 => ?_
  have ne1 : q1 ≠ b ∧ q1 ≠ a := by obtain ⟨_, z1, z2⟩ := bx; exact ⟨fun e => by rw [e, z1] at hq1; (cases hq1), fun e => by rw [e, z2] at hq1; (cases hq1)⟩
  have k01 : Kp (· = b) H (upd H q1 (.lst [])) := Kp.new hq1
  have hqL1 : ¬ L q1 := fun l => hL q1 l hq1
  have un1 : ∀ c, Lp L q1 c → upd H q1 (.lst []) c ≠ none := own_un hL _
  have hx1 : upd H q1 (.lst []) q1 = some (.lst []) := upd_same
  have bx1 := bx.new hq1 (u := .lst [])
  have hide1 : ∀ {H'}, Kp (fun c => c = q1 ∨ c = b) (upd H q1 (.lst [])) H' → Kp (· = b) H H' := fun {H'} k' => k01.hide k' fun c e => e.elim (fun e => .inl (e ▸ hq1)) .inr
  generalize upd H q1 (.lst []) = H1 at S1 un1 hx1 bx1 hide1 ⊢
  refine s_new (L := Lp L q1) (i := 7) S1 fun q2 hq2 S2 => ?_
  have ne2 : q2 ≠ b ∧ q2 ≠ a ∧ q2 ≠ q1 := by obtain ⟨_, z1, z2⟩ := bx1; exact ⟨fun e => by rw [e, z1] at hq2; (cases hq2), fun e => by rw [e, z2] at hq2; (cases hq2), fun e => by rw [e, hx1] at hq2; (cases hq2)⟩
  have hqL2 : ¬ Lp L q1 q2 := fun l => un1 q2 l hq2
  have un2 : ∀ c, Lp (Lp L q1) q2 c → upd H1 q2 (.lst []) c ≠ none := own_un un1 _
  have hx2 : upd H1 q2 (.lst []) q2 = some (.lst []) := upd_same
  have hx12 : upd H1 q2 (.lst []) q1 = some (.lst []) := by rw [upd_ne ne2.2.2.symm]; exact hx1
  have bx2 := bx1.new hq2 (u := .lst [])
  have kend : ∀ {H'}, Kp (fun c => c = q2 ∨ c = q1 ∨ c = b) (upd H1 q2 (.lst [])) H' → Kp (· = b) H H' := fun {H'} k' => hide1 ((Kp.new (L := fun c => c = q1 ∨ c = b) (o := .lst []) hq2).hide k' fun c e => e.elim (fun e => .inl (e ▸ hq2)) .inr)
  have hM2 : ∀ c, (c = q2 ∨ c = q1 ∨ c = b) → Lp (Lp L q1) q2 c := fun c e => e.elim .inr fun e => .inl (e.elim .inr fun e => .inl (e ▸ hb))
  generalize upd H1 q2 (.lst []) = H2 at S2 un2 hx2 hx12 bx2 kend ⊢
  have hb2 : Lp (Lp L q1) q2 b := .inl (.inl hb)
  have oq : (Wb K (Lp (Lp L q1) q2) b a zs).Ok := wb K hb2
  have o0 := w0 K (Lp (Lp L q1) q2)
  have SB := S2.cast (C' := Wb K (Lp (Lp L q1) q2) b a zs) rfl rfl
  refine s_for1Z oq (az_cons oq (z_draw (m := 5) hb2 bx2 SB rfl (z_int (e_add oq (i := 4) (j := 1) (e_var oq SB rfl) (e_int oq)) rfl) (by decide)) (az_nil oq)) fun vs3 ds3 H3 w3 hz r3 => ?_
  obtain ⟨_, _, rfl, ⟨many, rfl, hm0, hm1⟩, rfl⟩ := hz
  have k23 : Kp (fun c => c = q2 ∨ c = q1 ∨ c = b) H2 H3 := w3.1.mono fun _ z => .inr (.inr z)
  refine s_for1 oq (n := many) (a_ca oq r3) (by omega) (by omega) (fun i σ' H' => Kp (fun c => c = q2 ∨ c = q1 ∨ c = b) H2 H' ∧ BoxAt H' b a zs ∧ ∃ (b8 b9 b10 : Ds) (xs ys : List V) (fixed forb : List Rg), Sl (Wb K (Lp (Lp L q1) q2) b a zs) H' σ' [.va (.ref b), .da (pts ps), .da (mcs ms), .da r.d, .da (.list (rds.map Rd.d)), .da (.int 4), .va (.ref q1), .va (.ref q2), b8, b9, b10] ∧ H' q1 = some (.lst xs) ∧ DTs K (Lp (Lp L q1) q2) H' xs (fixed.map Rg.d) ∧ H' q2 = some (.lst ys) ∧ DTs K (Lp (Lp L q1) q2) H' ys (forb.map Rg.d) ∧ fixed.length ≤ i ∧ forb.length ≤ i ∧ (∀ x ∈ fixed, Ins ps r x) ∧ ∀ x ∈ forb, Ins ps r x)
    (fun H' w' => ⟨k23.trans (w'.1.mono fun _ z => .inr (.inr z)), w'.2 (w3.2 bx2), .un, .un, .un, [], [], [], [], SB.mono oq (oq.trans w3 w'), (oq.trans w3 w').1.lst ne1.1 hx12, .nil, (oq.trans w3 w').1.lst ne2.1 hx2, .nil, Nat.le_refl _, Nat.le_refl _, (fun x h => by cases h), fun x h => by cases h⟩)
    (fun i σ4 H4 hi ⟨k4, bx4, b8, b9, b10, xs, ys, fixed, forb, S4, hx4, rx4, hy4, ry4, hlf, hlb, hif, hib⟩ => ?_) (fun σ4 H4 ⟨k4, bx4, b8, b9, b10, xs, ys, fixed, forb, S4, hx4, rx4, hy4, ry4, hlf, hlb, hif, hib⟩ => ?_)
  · have S5 := S4.putD (i := 8) (.int (i : Int))
    have un4 := k4.un un2
    -- a region
    refine s_set oq (z_callB hb2 un4 bx4 S5 rfl (az_cons oq (z_eq (e_var oq S5 rfl)) (az_cons oq (z_eq (e_var oq S5 rfl)) (az_nil oq))) (Z := fun d => ∃ x : Rg, Ins ps r x ∧ d = x.d) (R := R_law_region) fun ds hz => ?_) fun v6 H6 w6 hz => ?_
    · obtain ⟨_, _, rfl, rfl, _, _, rfl, rfl, rfl⟩ := hz
      exact ⟨ps, r, pk, g, rfl, rfl⟩
    obtain ⟨_, ⟨x0, hin0, rfl⟩, r6⟩ := hz
    have S6 := (S5.mono oq w6).putD (i := 9) r6
    have bx6 := w6.2 bx4
    -- the rest of a turn, the wish being known
    have rest : ∀ {σ7 : L2.St} {H7 : Hp} {b10 : Ds} (x : Rg), (Wb K (Lp (Lp L q1) q2) b a zs).W H6 H7 → Ins ps r x → Sl (Wb K (Lp (Lp L q1) q2) b a zs) H7 σ7 [.va (.ref b), .da (pts ps), .da (mcs ms), .da r.d, .da (.list (rds.map Rd.d)), .da (.int 4), .va (.ref q1), .va (.ref q2), .da (.int (i : Int)), .da x.d, b10] → ∀ {D : Ends}, (∀ σ' H', (Kp (fun c => c = q2 ∨ c = q1 ∨ c = b) H2 H' ∧ BoxAt H' b a zs ∧ ∃ (b8 b9 b10 : Ds) (xs ys : List V) (fixed forb : List Rg), Sl (Wb K (Lp (Lp L q1) q2) b a zs) H' σ' [.va (.ref b), .da (pts ps), .da (mcs ms), .da r.d, .da (.list (rds.map Rd.d)), .da (.int 4), .va (.ref q1), .va (.ref q2), b8, b9, b10] ∧ H' q1 = some (.lst xs) ∧ DTs K (Lp (Lp L q1) q2) H' xs (fixed.map Rg.d) ∧ H' q2 = some (.lst ys) ∧ DTs K (Lp (Lp L q1) q2) H' ys (forb.map Rg.d) ∧ fixed.length ≤ i + 1 ∧ forb.length ≤ i + 1 ∧ (∀ x ∈ fixed, Ins ps r x) ∧ ∀ x ∈ forb, Ins ps r x) → D.nx σ' H') →
        tIfS (tAnd (tTest (tOp (rNotInD K) (tVar 9) (tVar 6))) (tTest (tOp (rNotInD K) (tVar 9) (tVar 7)))) (tIfS (tOr (tB (tCall (spD K RisStrip) [] E0 (tCons (tOp (rIx K) (tVar 1) (tOp (rIx K) (tVar 9) (tC (.int 0)))) tNil))) (tTest (tOp (rQ K) (tCall (spDraw K) [] E0 (tCons (tVar 0) (tCons (tC (.int 2)) tNil))) (tC (.int 0))))) (tDrop (tBM K "list" rAppend (tVar 7) (tCons (tVar 9) tNil))) (tDrop (tBM K "list" rAppend (tVar 6) (tCons (tVar 9) tNil)))) tNext D σ7 H7 := fun {σ7 H7 b10} x w7 hin S7 {D} q => by
      have w47 := oq.trans w6 w7
      have hx7 : H7 q1 = some (.lst xs) := w47.1.lst ne1.1 hx4
      have hy7 : H7 q2 = some (.lst ys) := w47.1.lst ne2.1 hy4
      have rx7 := DTs.mono oq w47 rx4
      have ry7 := DTs.mono oq w47 ry4
      have k7 := k4.trans (w47.1.mono (M := fun c => c = q2 ∨ c = q1 ∨ c = b) fun _ z => .inr (.inr z))
      have bx7 := w47.2 bx4
      have S7' := S7.cast (C' := W0 K (Lp (Lp L q1) q2)) rfl rfl
      obtain ⟨p, hp⟩ := hin.part
      have hpd : (ps.map Pt.d)[x.p.toNat]? = some p.d := by rw [List.getElem?_map, hp]; rfl
      refine s_if o0 (t_and o0 (t_test o0 (e_notInO (p := q1) (xs := xs) (shaped_rg x) (shaped_rgsL fixed) (e_var o0 S7' rfl) (e_val o0 S7' rfl) hx7 rx7)) fun _ => t_test o0 (e_notInO (p := q2) (xs := ys) (shaped_rg x) (shaped_rgsL forb) (e_var o0 S7' rfl) (e_val o0 S7' rfl) hy7 ry7)) (fun c H8 w8 => ?_) (fun c H8 w8 => ?_)
      · have S8 := (S7'.mono o0 w8).cast (C' := Wb K (Lp (Lp L q1) q2) b a zs) rfl rfl
        have w8' : (Wb K (Lp (Lp L q1) q2) b a zs).W H7 H8 := oq.of0 w8
        have bx8 := w8'.2 bx7
        refine s_ifZ oq (t_zor oq (t_B oq (e_call oq (oq.un w8' (k7.un un2)) (a_cons oq (e_ixTz oq (ds := ps.map Pt.d) (e_var oq S8 rfl) (e_rg oq (r := x) (e_var oq S8 rfl) 0) hin.p0 hpd) (a_nil oq)) ⟨p, rfl, rfl⟩)) fun _ => t_zB (z_eqI oq (z_drawI hb2 bx8 S8 rfl (by decide)) (z_int (P := fun _ => True) (e_int oq) trivial))) (fun _ H9 w9 => ?_) (fun _ H9 w9 => ?_)
        · have w79 := oq.trans w8' w9
          have S9 := S8.mono oq w9
          have hx9 : H9 q1 = some (.lst xs) := w79.1.lst ne1.1 hx7
          have hy9 : H9 q2 = some (.lst ys) := w79.1.lst ne2.1 hy7
          have bx9 := w9.2 bx8
          refine s_appB (p := q2) S9 rfl hy9 ne2.1 (lt_size (by rw [ry4.length, List.length_map]; omega)) (e_var oq S9 rfl) fun v10 H10 w10 r10 hy10 => ?_
          have w710 := oq.trans w79 w10
          have k11 : Kp (fun c => c = q2 ∨ c = q1 ∨ c = b) H10 (upd H10 q2 (.lst (ys ++ [v10]))) := (Kp.refl _ _).put (.inr (.inl rfl)) (by rw [hy10]; trivial)
          obtain ⟨nn, g1, g2⟩ := w10.2 bx9
          refine q _ _ ⟨(k7.trans (w710.1.mono fun _ z => .inr (.inr z))).trans k11, ⟨nn, by rw [upd_ne ne2.1.symm]; exact g1, by rw [upd_ne ne2.2.1.symm]; exact g2⟩, _, _, _, xs, ys ++ [v10], fixed, forb ++ [x], (((S9.mono oq w10).cast (C' := W0 K (Lp (Lp L q1) q2)) rfl rfl).step hM2 k11).cast rfl rfl, ?_, ?_, upd_same, ?_, by omega, by rw [List.length_append]; simp; omega, hif, fun y hy => ?_⟩
          · rw [upd_ne ne2.2.2.symm]; exact w10.1.lst ne1.1 hx9
          · exact DTs.step hM2 k11 (DTs.mono oq w710 rx7)
          · rw [List.map_append]
            exact DTs.step hM2 k11 ((DTs.mono oq w710 ry7).snoc r10)
          · rcases List.mem_append.mp hy with h | h
            · exact hib y h
            · rw [List.mem_singleton.mp h]; exact hin
        · have w79 := oq.trans w8' w9
          have S9 := S8.mono oq w9
          have hx9 : H9 q1 = some (.lst xs) := w79.1.lst ne1.1 hx7
          have hy9 : H9 q2 = some (.lst ys) := w79.1.lst ne2.1 hy7
          have bx9 := w9.2 bx8
          refine s_appB (p := q1) S9 rfl hx9 ne1.1 (lt_size (by rw [rx4.length, List.length_map]; omega)) (e_var oq S9 rfl) fun v10 H10 w10 r10 hx10 => ?_
          have w710 := oq.trans w79 w10
          have k11 : Kp (fun c => c = q2 ∨ c = q1 ∨ c = b) H10 (upd H10 q1 (.lst (xs ++ [v10]))) := (Kp.refl _ _).put (.inr (.inr (.inl rfl))) (by rw [hx10]; trivial)
          obtain ⟨nn, g1, g2⟩ := w10.2 bx9
          refine q _ _ ⟨(k7.trans (w710.1.mono fun _ z => .inr (.inr z))).trans k11, ⟨nn, by rw [upd_ne ne1.1.symm]; exact g1, by rw [upd_ne ne1.2.symm]; exact g2⟩, _, _, _, xs ++ [v10], ys, fixed ++ [x], forb, (((S9.mono oq w10).cast (C' := W0 K (Lp (Lp L q1) q2)) rfl rfl).step hM2 k11).cast rfl rfl, upd_same, ?_, ?_, ?_, by rw [List.length_append]; simp; omega, by omega, fun y hy => ?_, hib⟩
          · rw [List.map_append]
            exact DTs.step hM2 k11 ((DTs.mono oq w710 rx7).snoc r10)
          · rw [upd_ne ne2.2.2]; exact w10.1.lst ne2.1 hy9
          · exact DTs.step hM2 k11 (DTs.mono oq w710 ry7)
          · rcases List.mem_append.mp hy with h | h
            · exact hif y h
            · rw [List.mem_singleton.mp h]; exact hin
      · have w8' : (Wb K (Lp (Lp L q1) q2) b a zs).W H7 H8 := oq.of0 w8
        exact q _ _ ⟨k7.trans (w8'.1.mono fun _ z => .inr (.inr z)), w8'.2 bx7, _, _, _, xs, ys, fixed, forb, S7.mono oq w8', w8'.1.lst ne1.1 hx7, DTs.mono oq w8' rx7, w8'.1.lst ne2.1 hy7, DTs.mono oq w8' ry7, by omega, by omega, hif, hib⟩
    have un6 := oq.un w6 un4
    refine s_ifZ oq (t_zand oq (t_test oq (e_cmp oq (by have := e_lenL oq (ds := rds.map Rd.d) (e_var oq S6 (i := 4) rfl); rw [List.length_map] at this; exact this) (e_int oq))) fun _ => t_zB (z_cmp oq (z_drawI hb2 bx6 S6 rfl (by decide)) (z_int (P := fun _ => True) (e_int oq) trivial))) (fun hc H7 w7 => ?_) (fun _ H7 w7 => ?_)
    · have hpos : 0 < (rds.length : Int) := of_decide_eq_true (hc rfl)
      have S7 := S6.mono oq w7
      have bx7 := w7.2 bx6
      have un7 := oq.un w7 un6
      -- the regions of a reading drawn
      refine s_set oq (z_call oq (Z := fun d => ∃ rd ∈ rds, d = .list ((regs ps ms rd r).map Rg.d)) un7 (az_cons oq (z_eq (e_var oq S7 rfl)) (az_cons oq (z_eq (e_var oq S7 rfl)) (az_cons oq (z_eq (e_var oq S7 rfl)) (az_cons oq (z_ixL oq (ds := rds.map Rd.d) (Z := fun d => ∃ rd ∈ rds, d = rd.d) (e_var oq S7 rfl) (z_imp (z_modN (n := (rds.length : Int)) hb2 bx7 S7 rfl (by have := e_lenL oq (ds := rds.map Rd.d) (e_var oq S7 (i := 4) rfl); rw [List.length_map] at this; exact this) hpos (by decide)) fun d hz => by rw [List.length_map]; exact hz) (fun d hd => by obtain ⟨rd, h1, h2⟩ := List.mem_map.mp hd; exact ⟨rd, h1, h2.symm⟩)) (az_nil oq))))) (R := R_law_regions 6) fun ds hz => ?_) fun v8 H8 w8 hz => ?_
      · obtain ⟨_, _, rfl, rfl, _, _, rfl, rfl, _, _, rfl, rfl, _, _, rfl, ⟨rd, hrd, rfl⟩, rfl⟩ := hz
        exact ⟨_, ⟨ps, ms, r, r, rd, G, g, gi, hoks rd hrd, by omega, rfl, rfl⟩, rd, hrd, rfl⟩
      obtain ⟨_, ⟨rd, hrd, rfl⟩, r8⟩ := hz
      have S8 := (S7.mono oq w8).putD (i := 10) r8
      have bx8 := w8.2 bx7
      have hmem := regs_mem G g (r.p.toNat + 1) r rd (by omega) gi (hoks rd hrd)
      obtain ⟨tl, htl⟩ := regs_head (ps := ps) (ms := ms) (r := r) (rd := rd)
      have hpl : 0 < ((regs ps ms rd r).length : Int) := by rw [htl, List.length_cons]; omega
      refine s_set oq (z_ixL oq (ds := (regs ps ms rd r).map Rg.d) (Z := fun d => ∃ x : Rg, Ins ps r x ∧ d = x.d) (e_var oq S8 rfl) (z_imp (z_modN (n := ((regs ps ms rd r).length : Int)) hb2 bx8 S8 rfl (by have := e_lenL oq (ds := (regs ps ms rd r).map Rg.d) (e_var oq S8 (i := 10) rfl); rw [List.length_map] at this; exact this) hpl (by decide)) fun d hz => by rw [List.length_map]; exact hz) (fun d hd => by obtain ⟨x, h1, h2⟩ := List.mem_map.mp hd; exact ⟨x, (hmem x h1).1, h2.symm⟩)) fun v9 H9 w9 hz => ?_
      obtain ⟨_, ⟨x, hin, rfl⟩, r9⟩ := hz
      have S9 := (S8.mono oq w9).putD (i := 9) r9
      exact rest x (oq.trans (oq.trans w7 w8) w9) hin S9 fun σ' H' h => h
    · exact rest x0 w7 hin0 (S6.mono oq w7) fun σ' H' h => h
  · have rx5 : DTs K (Lp (Lp L q1) q2) H4 xs (fixed.map Rg.d) := rx4
    refine s_ret oq (e_tup oq (a_cons oq (e_tupO oq (e_val oq S4 rfl) (fun H' w' => w'.1.lst ne1.1 hx4) rx4) (a_cons oq (e_tupO oq (e_val oq S4 rfl) (fun H' w' => w'.1.lst ne2.1 hy4) ry4) (a_nil oq)))) fun v9 H9 w9 r9 => ?_
    have k09 := kend (k4.trans (w9.1.mono fun _ z => .inr (.inr z)))
    exact k v9 H9 _ ⟨fixed, forb, by omega, by omega, hif, hib, rfl⟩ k09 (w9.2 bx4) (DT.less (fun c z => .inl (.inl z)) r9)
end
end SR

/-! Grd: rows of cells that are written. -/
namespace SR
open PySem PySem.Spec PyProof.Rows L2
/-- only whole numbers and what is tracked -/
def Ds.bare : Ds → Ds
  | .da (.int i) => .da (.int i)
  | .va v => .va v
  | _ => .un
theorem Sl.bare {C C' : Wd} {H : Hp} : ∀ {σ : L2.St} {ρ : List Ds}, Sl C H σ ρ → Sl C' H σ (ρ.map Ds.bare)
  | _, _, .nil => .nil
  | _, _, .cons (s := s) a b => by
    refine .cons ?_ (Sl.bare b)
    cases s with
    | un => trivial
    | va v => exact a
    | da d =>
      obtain ⟨v, e, r⟩ := a
      cases d with
      | int i => exact ⟨v, e, by rw [r.intI]; exact .int _⟩
      | _ => trivial
section
variable {C : Wd} (o : C.Ok) {H : Hp} {σ : L2.St} {ta tb : TE} {tt tu : TT} {P P' R : Int → Prop}
include o
theorem z_max2 (ha : EZ C ta σ H (zI P)) (hb : EZ C tb σ H (zI P')) (hq : ∀ i j, P i → P' j → R (max i j)) : EZ C (tCB rMax2 (tCons ta (tCons tb tNil))) σ H (zI R) := fun H1 w Q q =>
  ha H1 w _ fun x H2 w2 hz => hb H2 (o.trans w w2) _ fun y H3 w3 hy => by
    obtain ⟨i, rfl, p⟩ := zI_v hz
    obtain ⟨j, rfl, p'⟩ := zI_v hy
    refine ⟨i, j, rfl, q _ H3 (o.trans w2 w3) ⟨_, ⟨_, rfl, hq i j p p'⟩, ?_⟩⟩
    have e : (if j > i then j else i) = max i j := by omega
    rw [e]
    exact .int _
theorem t_zorF {c : Bool} (h1 : Et C tt σ H c) (h2 : c = false → TZ C tu σ H) : EtP C (tOr tt tu) σ H (fun d => d = false → c = false) := fun H1 w Q q => h1 H1 w _ fun c' H2 w2 e => by
  subst e
  cases c' with
  | true => exact q true H2 w2 fun z => z
  | false => exact h2 rfl H2 (o.trans w w2) _ fun b H3 w3 _ => q b H3 (o.trans w2 w3) fun _ => rfl
end
theorem bools_of {K : PySem.W.Frag} {L : Addr → Prop} {H : Hp} : ∀ {ds : List PyData} {xs : List V}, DTs K L H xs ds → (∀ e ∈ ds, zB e) → ∃ bs : List Bool, xs = bs.map V.bl ∧ bs.length = ds.length
  | [], _, h, _ => by cases h; exact ⟨[], rfl, rfl⟩
  | d :: ds, _, h, hz => by
    cases h with
    | cons a b =>
      obtain ⟨s, rfl⟩ := hz d List.mem_cons_self
      obtain ⟨ys, e1, e2⟩ := bools_of b fun e he => hz e (List.mem_cons_of_mem _ he)
      exact ⟨s :: ys, by rw [e1, a.blI]; rfl, by rw [List.length_cons, List.length_cons, e2]⟩
/-- rows of cells -/
structure Grid (H : Hp) (q : Addr) (rs : List Addr) (hg wd : Nat) : Prop where
  q : H q = some (.lst (rs.map V.ref))
  len : rs.length = hg
  row : ∀ p ∈ rs, ∃ bs : List Bool, H p = some (.lst (bs.map V.bl)) ∧ bs.length = wd
theorem grid_of {K : PySem.W.Frag} {L : Addr → Prop} {H : Hp} {n : Nat} : ∀ {ds : List PyData} {xs : List V}, DTs K L H xs ds → (∀ e ∈ ds, zL n zB e) → ∃ rs : List Addr, xs = rs.map V.ref ∧ rs.length = ds.length ∧ ∀ p ∈ rs, ¬ L p ∧ ∃ bs : List Bool, H p = some (.lst (bs.map V.bl)) ∧ bs.length = n
  | [], _, h, _ => by cases h; exact ⟨[], rfl, rfl, fun p h => by cases h⟩
  | d :: ds, _, h, hz => by
    cases h with
    | cons a b =>
      obtain ⟨es, rfl, hl, he⟩ := hz d List.mem_cons_self
      obtain ⟨p, ys, rfl, hn, e, r⟩ := a.lstI
      obtain ⟨bs, rfl, hb⟩ := bools_of r he
      obtain ⟨rs, e1, e2, e3⟩ := grid_of b fun e he => hz e (List.mem_cons_of_mem _ he)
      refine ⟨p :: rs, by rw [e1]; rfl, by rw [List.length_cons, List.length_cons, e2], fun p' hp' => ?_⟩
      rcases List.mem_cons.mp hp' with rfl | h
      · exact ⟨hn, bs, e, by omega⟩
      · exact e3 p' h
theorem Grid.keep {H H' : Hp} {q : Addr} {rs : List Addr} {hg wd : Nat} {M : Addr → Prop} (g : Grid H q rs hg wd) (k : Kp M H H') (hq : ¬ M q) (hr : ∀ p ∈ rs, ¬ M p) : Grid H' q rs hg wd :=
  ⟨k.lst hq g.q, g.len, fun p hp => let ⟨bs, e, l⟩ := g.row p hp; ⟨bs, k.lst (hr p hp) e, l⟩⟩
theorem Grid.ne {H : Hp} {q p : Addr} {rs : List Addr} {hg wd : Nat} (g : Grid H q rs hg wd) (hp : p ∈ rs) (hw : 1 ≤ wd) : q ≠ p := fun e => by
  obtain ⟨bs, h1, h2⟩ := g.row p hp
  rw [← e, g.q] at h1
  have h3 := HO.lst.inj (Option.some.inj h1)
  cases rs with
  | nil => cases hp
  | cons r rs =>
    cases bs with
    | nil => cases h3
    | cons b bs => cases h3
theorem Grid.set {H : Hp} {q p : Addr} {rs : List Addr} {hg wd : Nat} {bs : List Bool} (g : Grid H q rs hg wd) (hp : p ∈ rs) (hw : 1 ≤ wd) (hl : bs.length = wd) : Grid (upd H p (.lst (bs.map V.bl))) q rs hg wd := by
  refine ⟨by rw [upd_ne (g.ne hp hw)]; exact g.q, g.len, fun p' hp' => ?_⟩
  by_cases e : p' = p
  · subst e
    exact ⟨bs, upd_same, hl⟩
  · obtain ⟨bs', h1, h2⟩ := g.row p' hp'
    exact ⟨bs', by rw [upd_ne e]; exact h1, h2⟩
theorem set_bl (bs : List Bool) (j : Nat) (c : Bool) : (bs.map V.bl).set j (.bl c) = (bs.set j c).map V.bl := by
  rw [List.map_set]
/-- the data of rows of cells -/
theorem Grid.data {K : PySem.W.Frag} {L : Addr → Prop} {H : Hp} {n : Nat} : ∀ {rs : List Addr}, (∀ p ∈ rs, ¬ L p ∧ ∃ bs : List Bool, H p = some (.lst (bs.map V.bl)) ∧ bs.length = n) → ∃ bss : List (List Bool), bss.length = rs.length ∧ (∀ bs ∈ bss, bs.length = n) ∧ DTs K L H (rs.map V.ref) (bss.map fun bs => .list (bs.map .bool))
  | [], _ => ⟨[], rfl, fun _ h => (by cases h), DTs.nil⟩
  | p :: rs, h => by
    obtain ⟨hn, bs, e, l⟩ := h p List.mem_cons_self
    obtain ⟨bss, e1, e2, e3⟩ := Grid.data (K := K) fun p' hp' => h p' (List.mem_cons_of_mem _ hp')
    refine ⟨bs :: bss, by rw [List.length_cons, List.length_cons, e1], fun x hx => ?_, .cons (.lst hn e ?_) e3⟩
    · rcases List.mem_cons.mp hx with rfl | hx
      · exact l
      · exact e2 x hx
    · clear e l h
      induction bs with
      | nil => exact .nil
      | cons b bs ih => exact .cons (.bl b) ih
/-- an entry's row: the place first -/
theorem e_row {K : PySem.W.Frag} {L : Addr → Prop} {H : Hp} {σ : L2.St} {ρ : List Ds} {q p : Addr} {rs : List Addr} {hg wd i Y : Nat} {ty : TE} (g : Grid H q rs hg wd) (S : Sl (W0 K L) H σ ρ) (hi : ρ[i]? = some (.va (.ref q))) (hy : Ed (W0 K L) ty σ H (.int (Y : Int))) (hp : rs[Y]? = some p) : Ee (W0 K L) (tOp (rIx K) (tVar i) ty) σ H (.ref p) :=
  e_ixQ (w0 K L) (a := q) (xs := rs.map V.ref) (i := Y) (v := .ref p) (e_val (w0 K L) S hi) hy (fun H' w' => SqL.of (w'.lst (fun z => z.elim) g.q)) (by rw [List.getElem?_map, hp]; rfl)
/-- rows[y][x] = v -/
theorem g_cell {K : PySem.W.Frag} {L : Addr → Prop} {H : Hp} {σ : L2.St} {ρ : List Ds} {q : Addr} {rs : List Addr} {hg wd i Y X : Nat} {ty tx : TE} {v : V} {Q : L2.St → Hp → Prop} (g : Grid H q rs hg wd) (S : Sl (W0 K L) H σ ρ) (hi : ρ[i]? = some (.va (.ref q))) (hy : Ed (W0 K L) ty σ H (.int (Y : Int))) (hx : ∀ H', Kp No H H' → Ed (W0 K L) tx σ H' (.int (X : Int))) (hY : Y < hg) (hX : X < wd)
    (h : ∀ (p : Addr) (bs : List Bool) (H' : Hp), rs[Y]? = some p → p ∈ rs → Kp No H H' → H' p = some (.lst (bs.map V.bl)) → bs.length = wd → Q σ (upd H' p (.lst ((bs.map V.bl).set X v)))) : gSub (tOp (rIx K) (tVar i) ty) tx rSetL v σ H Q := by
  have hlt : Y < rs.length := by rw [g.len]; exact hY
  have hp : rs[Y]? = some rs[Y] := List.getElem?_eq_getElem hlt
  have hm := List.getElem_mem hlt
  obtain ⟨bs, e, l⟩ := g.row _ hm
  exact g_setL (K := K) (L := L) (p := rs[Y]) (xs := bs.map V.bl) (j := X) (e_row g S hi hy hp) hx (fun H' w' => w'.lst (fun z => z.elim) e) (by rw [List.length_map, l]; exact hX) fun H' w' e' => h _ bs H' hp hm w' e' l
theorem DTs.strsI {K : PySem.W.Frag} {L : Addr → Prop} {H : Hp} : ∀ {ys : List Str} {xs : List V}, DTs K L H xs (ys.map PyData.str) → xs = ys.map V.str
  | [], _, h => by cases h; rfl
  | y :: ys, _, h => by
    cases h with
    | cons a b => rw [a.strI, DTs.strsI b]; rfl
/-- texts joined, the texts known -/
theorem e_join {C : Wd} (o : C.Ok) {H : Hp} {σ : L2.St} {te : TE} {ys : List Str} (h : Ed C te σ H (.list (ys.map .str))) (hn : (ys.map (·.length)).sum ≤ 16777216) : Ed C (tM1 (rJn C.K) (tC (.str "")) te) σ H (.str (Txt.join "" ys)) := fun H1 w Q q =>
  ⟨⟨_, rfl⟩, h H1 w _ fun v H2 w2 r => by
    obtain ⟨a, xs, rfl, _, e, rx⟩ := r.lstI
    have ex : xs = ys.map V.str := DTs.strsI rx
    subst ex
    exact ⟨"", a, ys, rfl, rfl, .inl (SqL.of e), by rw [show (Str.ofString "").length = 0 from rfl]; omega, q _ H2 w2 (.str _)⟩⟩
def pixS (b : Bool) : Str := ⟨#[if b then 35 else 46]⟩
def rowS (bs : List Bool) : Str := Txt.join "" (bs.map pixS)
theorem rowS_sum (bs : List Bool) : ((bs.map pixS).map (·.length)).sum = bs.length := by
  induction bs with
  | nil => rfl
  | cons b bs ih =>
    rw [List.map_cons, List.map_cons, List.sum_cons, ih, List.length_cons]
    show 1 + bs.length = _
    omega
theorem rowS_len (bs : List Bool) : (rowS bs).length = bs.length := by
  show (Txt.join (Str.ofString "") (bs.map pixS)).length = _
  rw [join_len (Str.ofString "") rfl, rowS_sum]
theorem img_of {rows : List Str} {hg wd : Nat} (h1 : 1 ≤ hg) (h2 : hg ≤ 1000) (h3 : wd ≤ 1000) (hl : rows.length = hg) (hw : ∀ r ∈ rows, r.length = wd) : Img rows := by
  have hwd : wide rows = wd := by
    cases rows with
    | nil => simp at hl; omega
    | cons r0 rs => exact hw r0 List.mem_cons_self
  exact ⟨fun e => by rw [e] at hl; simp at hl; omega, fun r hr => by rw [hwd]; exact hw r hr, by omega, by omega⟩
theorem rows_of : ∀ {ds : List PyData} {n : Nat}, (∀ e ∈ ds, zS (fun s => s.length = n) e) → ∃ rows : List Str, ds = rows.map .str ∧ ∀ r ∈ rows, r.length = n
  | [], _, _ => ⟨[], rfl, fun _ h => by cases h⟩
  | d :: ds, n, h => by
    obtain ⟨s, rfl, hs⟩ := h d List.mem_cons_self
    obtain ⟨rows, e1, e2⟩ := rows_of fun e he => h e (List.mem_cons_of_mem _ he)
    refine ⟨s :: rows, by rw [e1]; rfl, fun r hr => ?_⟩
    rcases List.mem_cons.mp hr with rfl | hr
    · exact hs
    · exact e2 r hr
end SR

namespace SR
open PySem PySem.Spec PyProof.Rows L2
theorem lookup_relabel {env : Env} {x : Str} : ∀ {names : List (Str × NameKind)}, (names.lookup x = some .cell ∨ names.lookup x = some .free) →
    ((names.map fun (n, k) => if (k == NameKind.free && env.scope.kind == .function && env.kindOf n == some .cell) then (n, NameKind.cell) else (n, k)).lookup x = some .cell ∨ (names.map fun (n, k) => if (k == NameKind.free && env.scope.kind == .function && env.kindOf n == some .cell) then (n, NameKind.cell) else (n, k)).lookup x = some .free)
  | [], h => by simp at h
  | (n, k) :: r, h => by
    have ih := @lookup_relabel env x r
    show (List.lookup x ((if (k == NameKind.free && env.scope.kind == .function && env.kindOf n == some .cell) = true then (n, NameKind.cell) else (n, k)) :: _) = _) ∨ (List.lookup x ((if (k == NameKind.free && env.scope.kind == .function && env.kindOf n == some .cell) = true then (n, NameKind.cell) else (n, k)) :: _) = _)
    cases hx : x == n with
    | true =>
      simp only [List.lookup_cons, hx] at h
      split
      · left; simp only [List.lookup_cons, hx]
      · simp only [List.lookup_cons, hx]; exact h
    | false =>
      simp only [List.lookup_cons, hx] at h
      split
      · simp only [List.lookup_cons, hx]; exact ih h
      · simp only [List.lookup_cons, hx]; exact ih h
theorem blkOk_in {X : Cx} {s : Shared} {H : Hp} {scope0 scope : Scope} {cl : List (Str × Addr)} {C : Addr} {fp : List Addr} {N : List Str} {own : List (Str × Nat)} (hN : X.N = N) (h : blkC N scope0 scope own = true) : BlkOk (X.blk s H scope0 (compEnvC scope0 cl C X.env) fp).N (X.blk s H scope0 (compEnvC scope0 cl C X.env) fp).env.scope scope own := by
  subst hN
  have b := blkOk_by (N := X.N) (sc := scope0) h
  exact ⟨b.kind, b.uniq, b.ix, fun y hy e => lookup_relabel (b.free y hy e), b.own⟩
theorem pe_joinB {X : Cx} {K : PySem.W.Frag} {o e : Expr} {to te : TE} {apos pos : Pos} (hK : X.K = K) (ho : PE X o to) (hs : starEach [e] X.env = [(false, eval e X.env)]) (hbase : attributeBase o "join" X.env (eval o X.env) = eval o X.env) (hline : (apos.endLine == pos.line) = true) (he : PE X e te) :
    PE X (.Call (.Attribute o "join" apos) [e] [] pos) (tM1 (rJn K) to te) := by
  subst hK
  exact pe_join ho he hs hbase hline
section
variable {P : Program} {w : World} {K : PySem.W.Frag} {mg : Str → Option Value} {base : Heap}
abbrev N__law_picture : List Str := ["_law_box", "_law_parts_here", "_law_ways", "_law_region_here", "_law_readings", "_law_wide", "_law_high", "_law_rows", "_law_x", "_law_y", "_law_found_here", "_law_leaf_here", "_law_part", "_law_turn", "_law_black_here", "_law_row"]
abbrev s__law_picture : Stmt := top 72
theorem sc__law_picture : FnScope ["_law_box", "_law_parts_here", "_law_ways", "_law_region_here", "_law_readings", "_law_wide", "_law_high", "_law_rows", "_law_x", "_law_y", "_law_found_here", "_law_leaf_here", "_law_part", "_law_turn", "_law_black_here", "_law_row"] ["_law_box", "_law_parts_here", "_law_ways", "_law_region_here", "_law_readings"] (defScope s__law_picture) := ⟨rfl, rfl, rfl, by decide +kernel, rfl, by decide +kernel, by decide +kernel⟩
def R_law_picture (ds : List PyData) (Z : PyData → Prop) : Prop := ∃ (ps : List Pt) (ms : List (Option Mch)) (r : Rg) (rds : List Rd), PsOk ps ∧ Gram ps ms ∧ Page ps r ∧ 0 ≤ r.x ∧ r.x ≤ 10 ∧ 0 ≤ r.y ∧ r.y ≤ 10 ∧ (∀ rd ∈ rds, RdOk ps ms r rd) ∧ ds = [pts ps, mcs ms, r.d, .list (rds.map Rd.d)] ∧
  Z = fun d => ∃ rows : List Str, Img rows ∧ d = .tuple (rows.map .str)
theorem ok__law_picture (F : DefA K mg "_law_picture" s__law_picture) (B : Blt mg) (c__law_draw : C8.Cal P w K mg base 1 "_law_draw" (spDraw K) []) (c__law_leaves : C8.Cal P w K mg base 2 "_law_leaves" (spD K R_law_leaves) []) (c__law_regions : C8.Cal P w K mg base 7 "_law_regions" (spD K (R_law_regions 6)) []) : C8.Cal P w K mg base 8 "_law_picture" (spB K R_law_picture) [] := by
  refine cal_by F sc__law_picture rfl rfl rfl (fun _ _ _ _ _ _ us hl => match us, hl with | [_, _, _, _, _], _ => rfl) (spB_len fun ds Z ⟨_, _, _, _, _, _, _, _, _, _, _, _, e, _⟩ => by rw [e]; rfl) fun f cdv A outer s H vs Q E hr h => ?_
  obtain ⟨L, b, a, zs, vs', ds, Z, rfl, hL, hb, bx, hd, ⟨ps, ms, r, rds, pk, G, g, hx0, hx1, hy0, hy1, hoks, rfl, rfl⟩, k⟩ := h
  have o := wb K (a := a) (zs := zs) hb
  have hu4 : _ + 64 < cLine := hr.units
  have hu5 := u65 hr
  have S := Sl.startB (C := Wb K L b a zs) (N := N__law_picture) (b := b) hd
  refine ⟨_, (pss_c (ps_set (i := 5) sc__law_picture.nd rfl (Or.inr rfl) (pe_callB (call_max2 rfl) (by rfl) B.max (by decide +kernel) (pa_cons pe_int (pa_cons (pe_op op_sub (pe_op op_add (pe_op op_add (pe_ix ix_seq (pv 3) pe_int (fun _ _ => rfl)) (pe_ix ix_seq (pv 3) pe_int (fun _ _ => rfl))) (C8.pe_c c__law_draw hr (by omega) rfl (pa_cons (pv 0) (pa_cons pe_int pa_nil)))) pe_int) pa_nil))))
  (pss_c (ps_set (i := 6) sc__law_picture.nd rfl (Or.inl rfl) (pe_callB (call_max2 rfl) (by rfl) B.max (by decide +kernel) (pa_cons pe_int (pa_cons (pe_op op_sub (pe_op op_add (pe_op op_add (pe_ix ix_seq (pv 3) pe_int (fun _ _ => rfl)) (pe_ix ix_seq (pv 3) pe_int (fun _ _ => rfl))) (C8.pe_c c__law_draw hr (by omega) rfl (pa_cons (pv 0) (pa_cons pe_int pa_nil)))) pe_int) pa_nil))))
  (pss_c (ps_setLc (i := 7) (own := [("_law_y", 9)]) rfl sc__law_picture.nd rfl rfl (sw_true rfl rfl rfl (by decide +kernel)) (pi_range1 (by rfl) B.range (pa_cons (pv 6) pa_nil)) (blkOk_by (N := N__law_picture) (sc := defScope s__law_picture) (by decide +kernel)) (fun _ _ _ _ _ => (pg_name (i := 9) sc__law_picture.nd rfl (Or.inl rfl))) (fun _ _ _ _ _ => pts_nil) (fun _ _ _ _ _ => by exact (pe_lc (own := [("_law_x", 8)]) rfl sc__law_picture.nd (pi_range1 (by rfl) B.range (pa_cons (pv 5) pa_nil)) (blkOk_in (N := N__law_picture) rfl (by decide +kernel)) (fun _ _ _ _ _ => (pg_name (i := 8) sc__law_picture.nd rfl (Or.inl rfl))) (fun _ _ _ _ _ => pts_nil) (fun _ _ _ _ _ => pe_bl))))
  (pss_c (ps_if (PW.pt (pw_or (pt_cmpR (op_Q hu4) (pe_callB call_len (by rfl) B.len PySem.boot_len (pa_cons (pv 4) pa_nil)) pe_int (nomark _)) (pw_or1 (pt_cmpR (op_Q hu4) (C8.pe_c c__law_draw hr (by omega) rfl (pa_cons (pv 0) (pa_cons pe_int pa_nil))) pe_int (nomark _))))) (pss_one (ps_ret (pe_callTy call_tuple_of (by rfl) B.tuple (by decide +kernel) (pa_cons (pe_lc (own := [("_law_y", 9)]) rfl sc__law_picture.nd (pi_range1 (by rfl) B.range (pa_cons (pv 6) pa_nil)) (blkOk_by (N := N__law_picture) (sc := defScope s__law_picture) (by decide +kernel)) (fun _ _ _ _ _ => (pg_name (i := 9) sc__law_picture.nd rfl (Or.inl rfl))) (fun _ _ _ _ _ => pts_nil) (fun _ _ _ _ _ => by exact pe_joinB (K := K) rfl pe_str (by exact rfl) (by exact rfl) (by exact rfl) (by exact (pe_lc (own := [("_law_x", 8)]) rfl sc__law_picture.nd (pi_range1 (by rfl) B.range (pa_cons (pv 5) pa_nil)) (blkOk_in (N := N__law_picture) rfl (by decide +kernel)) (fun _ _ _ _ _ => (pg_name (i := 8) sc__law_picture.nd rfl (Or.inl rfl))) (fun _ _ _ _ _ => pts_nil) (fun _ _ _ _ _ => (pe_ix (r := rIx K) ix_seq pe_str (C8.pe_c c__law_draw hr (by omega) rfl (pa_cons (pv 0) (pa_cons pe_int pa_nil))) (fun _ _ => rfl))))))) pa_nil)))) pss_nil)
  (pss_c (ps_set (i := 10) sc__law_picture.nd rfl (Or.inl rfl) (C8.pe_c c__law_regions hr (by omega) rfl (pa_cons (pv 1) (pa_cons (pv 2) (pa_cons (pv 3) (pa_cons (pe_ix ix_seq (pv 4) (pe_op op_mod (pe_callTy call_int1 (by rfl) B.int (by decide +kernel) (pa_cons (C8.pe_c c__law_draw hr (by omega) rfl (pa_cons (pv 0) (pa_cons pe_int pa_nil))) pa_nil)) (pe_callB call_len (by rfl) B.len PySem.boot_len (pa_cons (pv 4) pa_nil))) (fun _ _ => rfl)) pa_nil))))))
  (pss_c (ps_for PassesOwn.never rfl (pi_list (C8.pe_c c__law_leaves hr (by omega) rfl (pa_cons (pv 1) (pa_cons (pv 10) pa_nil)))) (pg_name (i := 11) sc__law_picture.nd rfl (Or.inl rfl)) (pss_c (ps_set (i := 12) sc__law_picture.nd rfl (Or.inl rfl) (pe_ix ix_seq (pv 1) (pe_ix ix_seq (pv 11) pe_int (fun _ _ => rfl)) (fun _ _ => rfl)))
  (pss_one (ps_for PassesOwn.never rfl (pi_range1 (by rfl) B.range (pa_cons (pe_callB (call_min2 rfl) (by rfl) B.min (by decide +kernel) (pa_cons (pe_ix ix_seq (pv 11) pe_int (fun _ _ => rfl)) (pa_cons (pe_callB (call_max2 rfl) (by rfl) B.max (by decide +kernel) (pa_cons pe_int (pa_cons (pe_op op_sub (pv 6) (pe_ix ix_seq (pv 11) pe_int (fun _ _ => rfl))) pa_nil))) pa_nil))) pa_nil)) (pg_name (i := 9) sc__law_picture.nd rfl (Or.inl rfl)) (pss_one (ps_for PassesOwn.never rfl (pi_range1 (by rfl) B.range (pa_cons (pe_callB (call_min2 rfl) (by rfl) B.min (by decide +kernel) (pa_cons (pe_ix ix_seq (pv 11) pe_int (fun _ _ => rfl)) (pa_cons (pe_callB (call_max2 rfl) (by rfl) B.max (by decide +kernel) (pa_cons pe_int (pa_cons (pe_op op_sub (pv 5) (pe_ix ix_seq (pv 11) pe_int (fun _ _ => rfl))) pa_nil))) pa_nil))) pa_nil)) (pg_name (i := 8) sc__law_picture.nd rfl (Or.inl rfl)) (pss_c (ps_asg (pe_ix ix_seq (pv 12) pe_int (fun _ _ => rfl)) (pg_sub (pe_ix ix_seq (pv 7) (pe_op op_add (pe_ix ix_seq (pv 11) pe_int (fun _ _ => rfl)) (pv 9)) (fun _ _ => rfl)) (pe_op op_add (pe_ix ix_seq (pv 11) pe_int (fun _ _ => rfl)) (pv 8)) set_list))
  (pss_one (ps_if (pt_cmpR (op_Q hu4) (pe_ix ix_seq (pv 12) pe_int (fun _ _ => rfl)) pe_str (nomark _)) (pss_one (ps_asg (pe_cmpR (op_Q hu4) (pe_ix ix_seq (pe_ix ix_seq (pe_ix ix_seq (pv 12) pe_int (fun _ _ => rfl)) (pv 9) (fun _ _ => rfl)) (pv 8) (fun _ _ => rfl)) pe_str (nomark _)) (pg_sub (pe_ix ix_seq (pv 7) (pe_op op_add (pe_ix ix_seq (pv 11) pe_int (fun _ _ => rfl)) (pv 9)) (fun _ _ => rfl)) (pe_op op_add (pe_ix ix_seq (pv 11) pe_int (fun _ _ => rfl)) (pv 8)) set_list))) pss_nil)))))))))
  (pss_c (ps_for PassesOwn.never rfl (pi_range1 (by rfl) B.range (pa_cons (C8.pe_c c__law_draw hr (by omega) rfl (pa_cons (pv 0) (pa_cons pe_int pa_nil))) pa_nil)) (pg_name (i := 13) sc__law_picture.nd rfl (Or.inl rfl)) (pss_c (ps_set (i := 9) sc__law_picture.nd rfl (Or.inl rfl) (pe_op op_mod (pe_callTy call_int1 (by rfl) B.int (by decide +kernel) (pa_cons (C8.pe_c c__law_draw hr (by omega) rfl (pa_cons (pv 0) (pa_cons pe_int pa_nil))) pa_nil)) (pv 6)))
  (pss_c (ps_set (i := 8) sc__law_picture.nd rfl (Or.inl rfl) (pe_op op_mod (pe_callTy call_int1 (by rfl) B.int (by decide +kernel) (pa_cons (C8.pe_c c__law_draw hr (by omega) rfl (pa_cons (pv 0) (pa_cons pe_int pa_nil))) pa_nil)) (pv 5)))
  (pss_one (ps_asg (pe_not (pe_ix ix_seq (pe_ix ix_seq (pv 7) (pv 9) (fun _ _ => rfl)) (pv 8) (fun _ _ => rfl))) (pg_sub (pe_ix ix_seq (pv 7) (pv 9) (fun _ _ => rfl)) (pv 8) set_list))))))
  (pss_one (ps_ret (pe_callTy call_tuple_of (by rfl) B.tuple (by decide +kernel) (pa_cons (pe_lc (own := [("_law_row", 15)]) rfl sc__law_picture.nd (pi_list (pv 7)) (blkOk_by (N := N__law_picture) (sc := defScope s__law_picture) (by decide +kernel)) (fun _ _ _ _ _ => (pg_name (i := 15) sc__law_picture.nd rfl (Or.inl rfl))) (fun _ _ _ _ _ => pts_nil) (fun _ _ _ _ _ => by exact pe_joinB (K := K) rfl pe_str (by exact rfl) (by exact rfl) (by exact rfl) (by exact (pe_lc (own := [("_law_black_here", 14)]) rfl sc__law_picture.nd (show PI _ _ _ (iList K _) from pi_list (pv 15)) (blkOk_in (N := N__law_picture) rfl (by decide +kernel)) (fun _ _ _ _ _ => (pg_name (i := 14) sc__law_picture.nd rfl (Or.inl rfl))) (fun _ _ _ _ _ => pts_nil) (fun _ _ _ _ _ => (pe_ix (r := rIx K) ix_seq pe_str (pe_callTy call_int1 (by rfl) B.int (by decide +kernel) (pa_cons (pv 14) pa_nil)) (fun _ _ => rfl))))))) pa_nil))))))))))), ?_⟩
  have gi := g.ins
  have gw := gi.w0
  have gh := gi.h0
  have gw6 := g.w
  have gh4 := g.h
  have gp0 := gi.p0
  have gp1 := gi.p1
  have hfew := G.few
  refine s_set o (z_max2 o (R := fun i => 1 ≤ i ∧ i ≤ 30) (z_int (P := fun i => i = 1) (e_int o) rfl) (z_op0 o (R := fun i => i ≤ 30) (z_op0 o (R := fun i => i ≤ 30) (z_int (P := fun i => i = r.x + r.w) (e_add o (e_rg o (r := r) (e_var o S rfl) 1) (e_rg o (r := r) (e_var o S rfl) 3)) rfl) (z_drawI hb bx S rfl (by decide)) (fun i j h1 h2 => by omega)) (z_int (P := fun i => i = 1) (e_int o) rfl) (fun i j h1 h2 => by omega)) (fun i j h1 h2 => by omega)) fun v1 H1 w1 hz => ?_
  obtain ⟨_, ⟨wd, rfl, hwd0, hwd1⟩, r1⟩ := hz
  have S1 := (S.mono o w1).putD (i := 5) r1
  have bx1 := w1.2 bx
  refine s_set o (z_max2 o (R := fun i => 1 ≤ i ∧ i ≤ 30) (z_int (P := fun i => i = 1) (e_int o) rfl) (z_op0 o (R := fun i => i ≤ 30) (z_op0 o (R := fun i => i ≤ 30) (z_int (P := fun i => i = r.y + r.h) (e_add o (e_rg o (r := r) (e_var o S1 rfl) 2) (e_rg o (r := r) (e_var o S1 rfl) 4)) rfl) (z_drawI hb bx1 S1 rfl (by decide)) (fun i j h1 h2 => by omega)) (z_int (P := fun i => i = 1) (e_int o) rfl) (fun i j h1 h2 => by omega)) (fun i j h1 h2 => by omega)) fun v2 H2 w2 hz => ?_
  obtain ⟨_, ⟨hg, rfl, hhg0, hhg1⟩, r2⟩ := hz
  have S2 := (S1.mono o w2).putD (i := 6) r2
  have bx2 := w2.2 bx1
  have w02 := o.trans w1 w2
  have un2 := o.un w02 hL
  -- the rows, new
  let LA : Addr → Prop := fun c => H2 c ≠ none
  have hbA : LA b := fun e => by obtain ⟨_, z, _⟩ := bx2; rw [e] at z; cases z
  have oA : (Wb K LA b a zs).Ok := wb K hbA
  have SA : Sl (Wb K LA b a zs) H2 _ _ := S2.bare
  refine s_set oA (z_lcR (n := hg) (Z := zL wd.toNat zB) hbA (fun _ h => h) bx2 (az_cons oA (z_eq (e_var oA SA rfl)) (az_nil oA)) (by omega) (by omega) (fun v => wipe_one _ _ _) fun D H' unD bxD kS i hi => ?_) fun v3 H3 w3 hz => ?_
  · have oD : (Wb K (Lp LA D) b a zs).Ok := wb K (.inl hbA)
    have SD := (kS _ SA).putD (i := 9) (.int (i : Int))
    refine z_lcR (n := wd) (Z := zB) (.inl hbA) unD bxD (az_cons oD (z_eq (e_var oD SD rfl)) (az_nil oD)) (by omega) (by omega) (fun v => wipe_one _ _ _) fun D2 H'' unD2 bxD2 kS2 j hj => ?_
    exact z_of (e_bl (wb K (.inl (.inl hbA)))) ⟨false, rfl⟩
  obtain ⟨_, ⟨dsr, rfl, hlr, hzr⟩, r3⟩ := hz
  obtain ⟨q, xs, rfl, hqA, hq3, rx3⟩ := r3.lstI
  obtain ⟨rs, rfl, hrl, hrs⟩ := grid_of rx3 hzr
  have hq2 : H2 q = none := by
    cases e : H2 q with
    | none => rfl
    | some _ => exact absurd (fun z => by rw [e] at z; cases z) hqA
  have hr2 : ∀ p ∈ rs, H2 p = none := fun p hp => by
    cases e : H2 p with
    | none => rfl
    | some _ => exact absurd (fun z => by rw [e] at z; cases z) (hrs p hp).1
  have gr3 : Grid H3 q rs hg.toNat wd.toNat := ⟨hq3, by rw [hrl, hlr], fun p hp => (hrs p hp).2⟩
  have hw1 : 1 ≤ wd.toNat := by omega
  let L1 : Addr → Prop := fun c => L c ∨ c = q ∨ c ∈ rs
  have o1 : (Wb K L1 b a zs).Ok := wb K (.inl hb)
  have o0 := w0 K L1
  have S3 : Sl (Wb K L1 b a zs) H3 _ _ := ((S2.to (C' := Wb K L1 b a zs) fun v d h => DT.more (M := L1) (fun c z => z.elim .inl fun z => .inr (z.elim (fun e => e ▸ hq2) (hr2 c))) h).mono o1 w3).putV (i := 7) (v := .ref q)
  have bx3 := w3.2 bx2
  have un3 : ∀ c, L1 c → H3 c ≠ none := fun c z => by
    rcases z with z | rfl | z
    · exact o.un w3 un2 c z
    · rw [hq3]; exact fun z => by cases z
    · obtain ⟨_, bs, e, _⟩ := hrs c z
      rw [e]; exact fun z => by cases z
  have hqb : q ≠ b := fun e => hbA (e ▸ hq2)
  have hrb : ∀ p ∈ rs, p ≠ b := fun p hp e => hbA (e ▸ hr2 p hp)
  have hra : ∀ p ∈ rs, p ≠ a := fun p hp e => by
    obtain ⟨_, _, z⟩ := bx2
    have := hr2 p hp
    rw [e, z] at this
    cases this
  have kend : ∀ {H'}, Kp (fun c => c ∈ rs ∨ c = b) H3 H' → Kp (· = b) H H' := fun {H'} k' => w02.1.hide ((w3.1.mono fun _ z => .inr z).trans k') fun c z => z.elim (fun z => .inl (w02.1.free (hr2 c z))) .inr
  refine s_ifZ o1 (t_zorF o1 (t_test o1 (e_eqI o1 (by have := e_lenL o1 (ds := rds.map Rd.d) (e_var o1 S3 (i := 4) rfl); rw [List.length_map] at this; exact this) (e_int o1))) fun _ => t_zB (z_eqI o1 (z_drawI (.inl hb) bx3 S3 rfl (by decide)) (z_int (P := fun _ => True) (e_int o1) trivial))) (fun _ H4 w4 => ?_) (fun hne H4 w4 => ?_)
  · have S4 := S3.mono o1 w4
    have bx4 := w4.2 bx3
    refine s_ret o1 (z_tupL o1 (z_lcR (n := hg) (Z := zS fun s => s.length = wd.toNat) (.inl hb) (o1.un w4 un3) bx4 (az_cons o1 (z_eq (e_var o1 S4 rfl)) (az_nil o1)) (by omega) (by omega) (fun v => wipe_one _ _ _) fun D H' unD bxD kS i hi => ?_)) fun v5 H5 w5 hz => ?_
    · have oD : (Wb K (Lp L1 D) b a zs).Ok := wb K (.inl (.inl hb))
      have SD := (kS _ S4).putD (i := 9) (.int (i : Int))
      refine z_join oD (z_lcR (n := wd) (Z := zS fun s => s.length = 1) (.inl (.inl hb)) unD bxD (az_cons oD (z_eq (e_var oD SD rfl)) (az_nil oD)) (by omega) (by omega) (fun v => wipe_one _ _ _) fun D2 H'' unD2 bxD2 kS2 j hj => ?_) (by omega)
      have oD2 : (Wb K (Lp (Lp L1 D) D2) b a zs).Ok := wb K (.inl (.inl (.inl hb)))
      have SD2 := (kS2 _ SD).putD (i := 8) (.int (j : Int))
      exact z_ixS oD2 (e_str oD2) (z_drawI (.inl (.inl (.inl hb))) bxD2 SD2 rfl (by decide)) (by decide)
    · obtain ⟨_, ⟨ds5, rfl, hl5, hz5⟩, r5⟩ := hz
      obtain ⟨rows, rfl, hrw⟩ := rows_of hz5
      rw [List.length_map] at hl5
      exact k v5 H5 _ ⟨rows, img_of (hg := hg.toNat) (wd := wd.toNat) (by omega) (by omega) (by omega) hl5 hrw, rfl⟩ (kend ((o1.trans w4 w5).1.mono fun _ z => .inr z)) ((o1.trans w4 w5).2 bx3) (DT.less (fun c z => .inl z) r5)
  have hpos : 0 < (rds.length : Int) := by
    have := of_decide_eq_false (hne rfl)
    omega
  have S4 := S3.mono o1 w4
  have bx4 := w4.2 bx3
  have un4 := o1.un w4 un3
  have gr4 := gr3.keep w4.1 hqb hrb
  unfold tNext
  dsimp only
  refine s_set o1 (z_call o1 (Z := fun d => ∃ rd ∈ rds, d = .list ((regs ps ms rd r).map Rg.d)) un4 (az_cons o1 (z_eq (e_var o1 S4 rfl)) (az_cons o1 (z_eq (e_var o1 S4 rfl)) (az_cons o1 (z_eq (e_var o1 S4 rfl)) (az_cons o1 (z_ixL o1 (ds := rds.map Rd.d) (Z := fun d => ∃ rd ∈ rds, d = rd.d) (e_var o1 S4 rfl) (z_imp (z_modN (n := (rds.length : Int)) (.inl hb) bx4 S4 rfl (by have := e_lenL o1 (ds := rds.map Rd.d) (e_var o1 S4 (i := 4) rfl); rw [List.length_map] at this; exact this) hpos (by decide)) fun d hz => by rw [List.length_map]; exact hz) (fun d hd => by obtain ⟨rd, h1, h2⟩ := List.mem_map.mp hd; exact ⟨rd, h1, h2.symm⟩)) (az_nil o1))))) (R := R_law_regions 6) fun ds hz => ?_) fun v5 H5 w5 hz => ?_
  · obtain ⟨_, _, rfl, rfl, _, _, rfl, rfl, _, _, rfl, rfl, _, _, rfl, ⟨rd, hrd, rfl⟩, rfl⟩ := hz
    exact ⟨_, ⟨ps, ms, r, r, rd, G, g, gi, hoks rd hrd, by omega, rfl, rfl⟩, rd, hrd, rfl⟩
  obtain ⟨_, ⟨rd, hrd, rfl⟩, r5⟩ := hz
  have S5 := (S4.mono o1 w5).putD (i := 10) r5
  have bx5 := w5.2 bx4
  have gr5 := gr4.keep w5.1 hqb hrb
  have un5 := o1.un w5 un4
  have w35 := o1.trans w4 w5
  have hmem := regs_mem G g (r.p.toNat + 1) r rd (by omega) gi (hoks rd hrd)
  have hlen := regs_small G g gi (hoks rd hrd)
  generalize regs ps ms rd r = rgs at hmem hlen S5 r5
  have S5' := S5.cast (C' := W0 K L1) rfl rfl
  refine s_forN o0 (M := fun c => c ∈ rs) (ds := (leavesOf ps rgs).map Rg.d) (e_call o0 un5 (a_cons o0 (e_var o0 S5' rfl) (a_cons o0 (e_var o0 S5' rfl) (a_nil o0))) ⟨ps, rgs, by omega, fun x hx => ⟨(hmem x hx).1.p0, (hmem x hx).1.part⟩, rfl, rfl⟩)
    (fun i σ' H' => Kp (fun c => c ∈ rs ∨ c = b) H3 H' ∧ BoxAt H' b a zs ∧ Grid H' q rs hg.toNat wd.toNat ∧ ∃ b8 b9 b11 b12 : Ds, Sl (W0 K L1) H' σ' [.va (.ref b), .da (pts ps), .da (mcs ms), .da r.d, .da (.list (rds.map Rd.d)), .da (.int wd), .da (.int hg), .va (.ref q), b8, b9, .da (.list (rgs.map Rg.d)), b11, b12, .un, .un, .un]) (fun c z => .inr (.inr z))
    (fun H' w' => ⟨(w35.1.mono fun _ z => .inr z).trans (w'.mono fun _ z => z.elim), bx5.keep w' (fun z => z.elim) (fun z => z.elim), gr5.keep w' (fun z => z.elim) (fun _ _ z => z.elim), .un, .un, .un, .un, S5'.mono o0 w'⟩) (fun H6 w6 i d v σ7 H7 hi rd7 k67 ⟨k7, bx7, gr7, b8, b9, b11, b12, S7⟩ => ?_) (fun H6 w6 σ7 H7 k67 ⟨k7, bx7, gr7, b8, b9, b11, b12, S7⟩ => ?_)
  · rw [List.getElem?_map] at hi
    cases hx : (leavesOf ps rgs)[i]? with
    | none => rw [hx] at hi; cases hi
    | some x =>
      rw [hx] at hi
      cases hi
      obtain ⟨hxr, hxs⟩ := List.mem_filter.mp (List.mem_of_getElem? hx)
      obtain ⟨xin, xf⟩ := hmem x hxr
      obtain ⟨p, hp⟩ := xin.part
      have hs : p.isStrip = false := by
        unfold stripR at hxs
        rw [hp] at hxs
        simpa using hxs
      have hf := xf p hp hs
      have lf := (G.leaf _ p hp hs).2
      have hpd : (ps.map Pt.d)[x.p.toNat]? = some p.d := by rw [List.getElem?_map, hp]; rfl
      have xw := xin.w0; have xh := xin.h0; have xx0 := xin.x0; have xx1 := xin.x1; have xy0 := xin.y0; have xy1 := xin.y1
      have S8 := S7.putD (i := 11) rd7
      refine s_set o0 (e_ixTz o0 (ds := ps.map Pt.d) (e_var o0 S8 rfl) (e_rg o0 (r := x) (e_var o0 S8 rfl) 0) xin.p0 hpd) fun v9 H9 w9 r9 => ?_
      have S9 := (S8.mono o0 w9).putD (i := 12) r9
      have k9 := k7.trans (w9.mono (M := fun c => c ∈ rs ∨ c = b) fun _ z => z.elim)
      have k69 := k67.trans (w9.mono (M := fun c => c ∈ rs) fun _ z => z.elim)
      have hMw : ∀ {Ha Hb : Hp}, Kp (fun c => c ∈ rs) Ha Hb → Kp (fun c => c ∈ rs ∨ c = b) Ha Hb := fun k => k.mono fun _ z => .inl z
      have bxk : ∀ {Ha Hb : Hp}, Kp (fun c => c ∈ rs) Ha Hb → BoxAt Ha b a zs → BoxAt Hb b a zs := fun k h => h.keep k (fun z => hrb b z rfl) (fun z => hra a z rfl)
      let ρ9 (b8 b9 : Ds) : List Ds := [.va (.ref b), .da (pts ps), .da (mcs ms), .da r.d, .da (.list (rds.map Rd.d)), .da (.int wd), .da (.int hg), .va (.ref q), b8, b9, .da (.list (rgs.map Rg.d)), .da x.d, .da p.d, .un, .un, .un]
      refine s_for1 o0 (n := min x.h (max 0 (hg - x.y))) (a_cons o0 (e_min2 o0 (e_rg o0 (r := x) (e_var o0 S9 rfl) 4) (e_max2 o0 (e_int o0) (e_sub o0 (e_var o0 S9 rfl) (e_rg o0 (r := x) (e_var o0 S9 rfl) 2)))) (a_nil o0)) (by omega) (by omega)
        (fun y σ' H' => Kp (fun c => c ∈ rs) H6 H' ∧ Kp (fun c => c ∈ rs ∨ c = b) H3 H' ∧ BoxAt H' b a zs ∧ Grid H' q rs hg.toNat wd.toNat ∧ ∃ b8 b9 : Ds, Sl (W0 K L1) H' σ' (ρ9 b8 b9))
        (fun H' w' => ⟨k69.trans (w'.mono fun _ z => z.elim), k9.trans (w'.mono fun _ z => z.elim), bx7.keep (w9.trans w') (fun z => z.elim) (fun z => z.elim), gr7.keep (w9.trans w') (fun z => z.elim) (fun _ _ z => z.elim), b8, b9, S9.mono o0 w'⟩)
        (fun y σ10 H10 hy ⟨k610, k10, bx10, gr10, b8, b9, S10⟩ => ?_) (fun σ10 H10 ⟨k610, k10, bx10, gr10, b8, b9, S10⟩ => ⟨k610, k10, bx10, gr10, _, _, _, _, S10⟩)
      have S11 := S10.putD (i := 9) (.int (y : Int))
      refine s_for1 o0 (n := min x.w (max 0 (wd - x.x))) (a_cons o0 (e_min2 o0 (e_rg o0 (r := x) (e_var o0 S11 rfl) 3) (e_max2 o0 (e_int o0) (e_sub o0 (e_var o0 S11 rfl) (e_rg o0 (r := x) (e_var o0 S11 rfl) 1)))) (a_nil o0)) (by omega) (by omega)
        (fun z σ' H' => Kp (fun c => c ∈ rs) H6 H' ∧ Kp (fun c => c ∈ rs ∨ c = b) H3 H' ∧ BoxAt H' b a zs ∧ Grid H' q rs hg.toNat wd.toNat ∧ ∃ b8 : Ds, Sl (W0 K L1) H' σ' (ρ9 b8 (.da (.int (y : Int)))))
        (fun H' w' => ⟨k610.trans (w'.mono fun _ z => z.elim), k10.trans (w'.mono fun _ z => z.elim), bx10.keep w' (fun z => z.elim) (fun z => z.elim), gr10.keep w' (fun z => z.elim) (fun _ _ z => z.elim), b8, S11.mono o0 w'⟩)
        (fun z σ12 H12 hz ⟨k612, k12, bx12, gr12, b8, S12⟩ => ?_) (fun σ12 H12 ⟨k612, k12, bx12, gr12, b8, S12⟩ => ⟨k612, k12, bx12, gr12, _, _, S12⟩)
      have S13 := S12.putD (i := 8) (.int (z : Int))
      obtain ⟨Y, hY⟩ : ∃ Y : Nat, x.y + (y : Int) = (Y : Int) := ⟨(x.y + (y : Int)).toNat, by omega⟩
      obtain ⟨X, hX⟩ : ∃ X : Nat, x.x + (z : Int) = (X : Int) := ⟨(x.x + (z : Int)).toNat, by omega⟩
      have eY : ∀ {H' : Hp}, Kp No H12 H' → ∀ {σ : L2.St}, Sl (W0 K L1) H' σ (ρ9 (.da (.int (z : Int))) (.da (.int (y : Int)))) → Ed (W0 K L1) (tOp (rI0 fun i j => .int (i + j)) (tOp (rIx K) (tVar 11) (tC (.int 2))) (tVar 9)) σ H' (.int (Y : Int)) := fun _ _ S => by
        rw [← hY]
        exact e_add o0 (i := x.y) (j := (y : Int)) (e_rg o0 (r := x) (e_var o0 S rfl) 2) (e_var o0 S rfl)
      have eX : ∀ {H' : Hp} {σ : L2.St}, Sl (W0 K L1) H' σ (ρ9 (.da (.int (z : Int))) (.da (.int (y : Int)))) → Ed (W0 K L1) (tOp (rI0 fun i j => .int (i + j)) (tOp (rIx K) (tVar 11) (tC (.int 1))) (tVar 8)) σ H' (.int (X : Int)) := fun S => by
        rw [← hX]
        exact e_add o0 (i := x.x) (j := (z : Int)) (e_rg o0 (r := x) (e_var o0 S rfl) 1) (e_var o0 S rfl)
      have hYl : Y < hg.toNat := by omega
      have hXl : X < wd.toNat := by omega
      rcases lf.d with ⟨n, l, cc, bb, rfl⟩ | ⟨n, l, cc, prows, rfl⟩
      · refine s_asg o0 (e_ixT o0 (i := 4) (d := .bool bb) (e_var o0 S13 rfl) (e_int o0) rfl) fun v14 H14 w14 r14 => ?_
        have S14 := S13.mono o0 w14
        refine g_cell (gr12.keep w14 (fun z => z.elim) (fun _ _ z => z.elim)) S14 rfl (eY w14 S14) (fun H' w' => eX (S14.mono o0 w')) hYl hXl fun pr bs H15 hpr hpm w15 e15 hl15 => ?_
        rw [r14.blI, set_bl]
        have k16 : Kp (fun c => c ∈ rs) H15 (upd H15 pr (.lst ((bs.set X bb).map V.bl))) := (Kp.refl _ _).put (.inr hpm) (by rw [e15]; trivial)
        have gr16 : Grid (upd H15 pr (.lst ((bs.set X bb).map V.bl))) q rs hg.toNat wd.toNat := (gr12.keep (w14.trans w15) (fun z => z.elim) (fun _ _ z => z.elim)).set hpm hw1 (by rw [List.length_set]; exact hl15)
        have S16 : Sl (W0 K L1) (upd H15 pr (.lst ((bs.set X bb).map V.bl))) _ _ := (S14.mono o0 w15).step (M := fun c => c ∈ rs) (fun c z => .inr (.inr z)) k16
        generalize upd H15 pr (.lst ((bs.set X bb).map V.bl)) = H16 at k16 gr16 S16 ⊢
        refine s_if o0 (t_test o0 (e_eqS o0 (i := "plain") (j := "shape") (e_ixT o0 (i := 0) (e_var o0 S16 rfl) (e_int o0) rfl) (e_str o0))) (fun c H17 w17 => absurd c (by decide +kernel)) (fun c H17 w17 => ?_)
        have kk : Kp (fun c => c ∈ rs) H12 H17 := (((w14.trans w15).mono fun _ z => z.elim).trans k16).trans (w17.mono fun _ z => z.elim)
        exact ⟨k612.trans kk, k12.trans (hMw kk), bxk kk bx12, gr16.keep w17 (fun z => z.elim) (fun _ _ z => z.elim), _, S16.mono o0 w17⟩
      · obtain ⟨g1, g2⟩ : x.w = (wide prows : Int) ∧ x.h = (prows.length : Int) := by
          unfold Pt.fits at hf
          have hf' : (false || (decide (x.w = (wide prows : Int)) && decide (x.h = (prows.length : Int)))) = true := hf
          rw [Bool.false_or, Bool.and_eq_true, decide_eq_true_eq, decide_eq_true_eq] at hf'
          exact hf'
        refine s_asg o0 (e_ixT o0 (i := 4) (d := .tuple (prows.map .str)) (e_var o0 S13 rfl) (e_int o0) rfl) fun v14 H14 w14 r14 => ?_
        have S14 := S13.mono o0 w14
        refine g_cell (gr12.keep w14 (fun z => z.elim) (fun _ _ z => z.elim)) S14 rfl (eY w14 S14) (fun H' w' => eX (S14.mono o0 w')) hYl hXl fun pr bs H15 hpr hpm w15 e15 hl15 => ?_
        have gr15 := gr12.keep (w14.trans w15) (fun z => z.elim) (fun _ _ z => z.elim)
        have k16 : Kp (fun c => c ∈ rs) H15 (upd H15 pr (.lst ((bs.map V.bl).set X v14))) := (Kp.refl _ _).put (.inr hpm) (by rw [e15]; trivial)
        have S16 : Sl (W0 K L1) (upd H15 pr (.lst ((bs.map V.bl).set X v14))) _ _ := (S14.mono o0 w15).step (M := fun c => c ∈ rs) (fun c z => .inr (.inr z)) k16
        have q16 : upd H15 pr (.lst ((bs.map V.bl).set X v14)) q = some (.lst (rs.map V.ref)) := by rw [upd_ne (gr15.ne hpm hw1)]; exact gr15.q
        have e16 : upd H15 pr (.lst ((bs.map V.bl).set X v14)) pr = some (.lst ((bs.map V.bl).set X v14)) := upd_same
        have o16 : ∀ p' ∈ rs, p' ≠ pr → ∃ bs' : List Bool, upd H15 pr (.lst ((bs.map V.bl).set X v14)) p' = some (.lst (bs'.map V.bl)) ∧ bs'.length = wd.toNat := fun p' hp' ne => by
          obtain ⟨bs', h1, h2⟩ := gr15.row p' hp'
          exact ⟨bs', by rw [upd_ne ne]; exact h1, h2⟩
        have hqp := gr15.ne hpm hw1
        generalize upd H15 pr (.lst ((bs.map V.bl).set X v14)) = H16 at k16 S16 q16 e16 o16 ⊢
        refine s_if o0 (t_test o0 (e_eqS o0 (i := "shape") (j := "shape") (e_ixT o0 (i := 0) (e_var o0 S16 rfl) (e_int o0) rfl) (e_str o0))) (fun c H17 w17 => ?_) (fun c H17 w17 => absurd c (by decide +kernel))
        have S17 := S16.mono o0 w17
        obtain ⟨rr, ch, a1, a2, a3, a4⟩ := (lf.im rfl).at (y := y) (x := z) (by show y < prows.length; omega) (by show z < wide prows; omega)
        refine s_asg o0 (e_eqS o0 (i := ⟨#[ch]⟩) (j := "#") (e_ixS o0 (z := rr) (i := z) (e_ixT o0 (ds := prows.map .str) (i := y) (e_ixT o0 (i := 4) (e_var o0 S17 rfl) (e_int o0) rfl) (e_var o0 S17 rfl) (by rw [List.getElem?_map, show prows[y]? = some rr from a1]; rfl)) (e_var o0 S17 rfl) a3 a2) (e_str o0)) fun v18 H18 w18 r18 => ?_
        have S18 := S17.mono o0 w18
        have w1618 : Kp No H16 H18 := Kp.trans w17 w18
        refine g_setL (K := K) (L := L1) (p := pr) (xs := (bs.map V.bl).set X v14) (j := X) (e_ixQ o0 (a := q) (xs := rs.map V.ref) (i := Y) (v := .ref pr) (e_val o0 S18 rfl) (by
          rw [← hY]
          exact e_add o0 (i := x.y) (j := (y : Int)) (e_rg o0 (r := x) (e_var o0 S18 rfl) 2) (e_var o0 S18 rfl)) (fun H' w' => SqL.of ((w1618.trans w').lst (fun z => z.elim) q16)) (by rw [List.getElem?_map, hpr]; rfl)) (fun H' w' => eX (S18.mono o0 w')) (fun H' w' => (w1618.trans w').lst (fun z => z.elim) e16) (by rw [List.length_set, List.length_map, hl15]; exact hXl) fun H19 w19 e19 => ?_
        rw [r18.blI, List.set_set, set_bl]
        have k20 : Kp (fun c => c ∈ rs) H19 (upd H19 pr (.lst ((bs.set X (decide ((⟨#[ch]⟩ : Str) = "#"))).map V.bl))) := (Kp.refl _ _).put (.inr hpm) (by rw [e19]; trivial)
        have w1619 := w1618.trans w19
        have kk : Kp (fun c => c ∈ rs) H12 (upd H19 pr (.lst ((bs.set X (decide ((⟨#[ch]⟩ : Str) = "#"))).map V.bl))) := ((((w14.trans w15).mono fun _ z => z.elim).trans k16).trans (w1619.mono fun _ z => z.elim)).trans k20
        refine ⟨k612.trans kk, k12.trans (hMw kk), bxk kk bx12, ⟨by rw [upd_ne hqp]; exact w1619.lst (fun z => z.elim) q16, gr12.len, fun p' hp' => ?_⟩, _, (S18.mono o0 w19).step (M := fun c => c ∈ rs) (fun c z => .inr (.inr z)) k20⟩
        by_cases e : p' = pr
        · subst e
          exact ⟨_, upd_same, by rw [List.length_set]; exact hl15⟩
        · obtain ⟨bs', h1, h2⟩ := o16 p' hp' e
          exact ⟨bs', by rw [upd_ne e]; exact w1619.lst (fun z => z.elim) h1, h2⟩
  -- a few cells turned
  have S7W := S7.cast (C' := Wb K L1 b a zs) rfl rfl
  show tFor _ _ _ _ _ _
  refine s_for1Z o1 (az_cons o1 (z_drawI (.inl hb) bx7 S7W rfl (by decide)) (az_nil o1)) fun vs8 ds8 H8 w8 hz r8 => ?_
  obtain ⟨_, _, rfl, ⟨many, rfl, hm0, hm1⟩, rfl⟩ := hz
  refine s_for1 o1 (n := many) (a_ca o1 r8) (by omega) (by omega) (fun i σ' H' => Kp (fun c => c ∈ rs ∨ c = b) H3 H' ∧ BoxAt H' b a zs ∧ Grid H' q rs hg.toNat wd.toNat ∧ ∃ b8 b9 b13 : Ds, Sl (Wb K L1 b a zs) H' σ' [.va (.ref b), .da (pts ps), .da (mcs ms), .da r.d, .da (.list (rds.map Rd.d)), .da (.int wd), .da (.int hg), .va (.ref q), b8, b9, .da (.list (rgs.map Rg.d)), b11, b12, b13, .un, .un])
    (fun H' w' => ⟨k7.trans ((o1.trans w8 w').1.mono fun _ z => .inr z), (o1.trans w8 w').2 bx7, gr7.keep (o1.trans w8 w').1 hqb hrb, b8, b9, .un, S7W.mono o1 (o1.trans w8 w')⟩)
    (fun i σ9 H9 hi ⟨k9, bx9, gr9, b8, b9, b13, S9⟩ => ?_) (fun σ9 H9 ⟨k9, bx9, gr9, b8, b9, b13, S9⟩ => ?_)
  · have S10 := S9.putD (i := 13) (.int (i : Int))
    refine s_set o1 (z_modN (n := hg) (.inl hb) bx9 S10 rfl (e_var o1 S10 rfl) (by omega) (by decide)) fun v11 H11 w11 hz => ?_
    obtain ⟨_, ⟨y, rfl, hy0, hy1⟩, r11⟩ := hz
    obtain ⟨Y, rfl⟩ : ∃ Y : Nat, y = (Y : Int) := ⟨y.toNat, by omega⟩
    have S11 := (S10.mono o1 w11).putD (i := 9) r11
    have bx11 := w11.2 bx9
    refine s_set o1 (z_modN (n := wd) (.inl hb) bx11 S11 rfl (e_var o1 S11 rfl) (by omega) (by decide)) fun v12 H12 w12 hz => ?_
    obtain ⟨_, ⟨x, rfl, hx0, hx1⟩, r12⟩ := hz
    obtain ⟨X, rfl⟩ : ∃ X : Nat, x = (X : Int) := ⟨x.toNat, by omega⟩
    have S12 := ((S11.mono o1 w12).putD (i := 8) r12).cast (C' := W0 K L1) rfl rfl
    have bx12 := w12.2 bx11
    have w912 := o1.trans w11 w12
    have gr12 := gr9.keep w912.1 hqb hrb
    have hYl : Y < hg.toNat := by omega
    have hXl : X < wd.toNat := by omega
    have hYr : Y < rs.length := by rw [gr12.len]; exact hYl
    obtain ⟨bs0, hb0, hl0⟩ := gr12.row _ (List.getElem_mem hYr)
    refine s_asg o0 (e_not o0 (a := bs0[X]'(by omega)) (e_of o0 (v := .bl (bs0[X]'(by omega))) (e_ixQ o0 (a := rs[Y]) (xs := bs0.map V.bl) (i := X) (v := .bl (bs0[X]'(by omega))) (e_row gr12 S12 rfl (e_var o0 S12 rfl) (List.getElem?_eq_getElem hYr)) (e_var o0 S12 rfl) (fun H' w' => SqL.of (w'.lst (fun z => z.elim) hb0)) (by rw [List.getElem?_map, List.getElem?_eq_getElem (by omega)]; rfl)) (.bl _))) fun v13 H13 w13 r13 => ?_
    have S13 := S12.mono o0 w13
    refine g_cell (gr12.keep w13 (fun z => z.elim) (fun _ _ z => z.elim)) S13 rfl (e_var o0 S13 rfl) (fun H' w' => e_var o0 (S13.mono o0 w') rfl) hYl hXl fun pr bs H15 hpr hpm w15 e15 hl15 => ?_
    rw [r13.blI, set_bl]
    have k16 : Kp (fun c => c ∈ rs) H15 (upd H15 pr (.lst ((bs.set X (!(bs0[X]'(by omega)))).map V.bl))) := (Kp.refl _ _).put (.inr hpm) (by rw [e15]; trivial)
    have gr16 : Grid (upd H15 pr (.lst ((bs.set X (!(bs0[X]'(by omega)))).map V.bl))) q rs hg.toNat wd.toNat := (gr12.keep (w13.trans w15) (fun z => z.elim) (fun _ _ z => z.elim)).set hpm hw1 (by rw [List.length_set]; exact hl15)
    have kk : Kp (fun c => c ∈ rs) H12 (upd H15 pr (.lst ((bs.set X (!(bs0[X]'(by omega)))).map V.bl))) := ((w13.trans w15).mono fun _ z => z.elim).trans k16
    exact ⟨(k9.trans (w912.1.mono fun _ z => .inr z)).trans (kk.mono fun _ z => .inl z), bx12.keep kk (fun z => hrb b z rfl) (fun z => hra a z rfl), gr16, _, _, _, ((S13.mono o0 w15).step (M := fun c => c ∈ rs) (fun c z => .inr (.inr z)) k16).cast rfl rfl⟩
  · -- the texts of the rows
    have kH := kend k9
    have uL : ∀ c, L c → H9 c ≠ none := kH.un hL
    have hqL : ¬ L q := fun l => un2 q l hq2
    obtain ⟨bss, hbl, hbw, hbd⟩ := Grid.data (K := K) (L := L) (H := H9) (n := wd.toNat) (rs := rs) fun p hp => ⟨fun l => un2 p l (hr2 p hp), gr9.row p hp⟩
    have oL := w0 K L
    have SF : Sl (W0 K L) H9 _ _ := ((S9.cast (C' := W0 K L1) rfl rfl).lessL (N := L) fun c l => .inl l).reda (i := 7) rfl (DT.lst hqL gr9.q hbd : DT K L H9 (.ref q) (.list (bss.map fun bs => .list (bs.map .bool))))
    have hb30 : bss.length ≤ 30 := by rw [hbl, gr9.len]; omega
    refine s_ret oL (e_tupL oL (ds := lcF (bss.map fun bs => PyData.list (bs.map .bool)).length (fun _ => true) fun i => .str (rowS (bss.getD i []))) (e_lcL uL (e_var oL SF rfl) (by rw [List.length_map]; omega) (fun v => wipe_one _ _ _) fun D Ha Hb hD ka kb unD kS i d v hi rdv => ⟨fun H1 w Q q => q true H1 (Kp.refl _ _) rfl, fun _ H2 k2 => ?_⟩)) fun v10 H10 w10 r10 => ?_
    · have oD := w0 K (Lp L D)
      have SD := ((kS _ SF).putD (i := 15) rdv).mono oD k2
      rw [List.getElem?_map] at hi
      cases hx : bss[i]? with
      | none => rw [hx] at hi; cases hi
      | some bs =>
        rw [hx] at hi
        cases hi
        rw [getD_of hx]
        have hlb := hbw bs (List.mem_of_getElem? hx)
        have und2 := k2.un unD
        refine e_join oD (ys := bs.map pixS) ?_ (by rw [rowS_sum]; omega)
        have hgoal : lcF (bs.map PyData.bool).length (fun _ => true) (fun i => .str (pixS (bs.getD i false))) = (bs.map pixS).map .str := by
          have := lcF_list false (fun _ => true) (fun b => PyData.str (pixS b)) bs
          rw [List.filter_eq_self.mpr (fun _ _ => rfl)] at this
          rw [List.length_map, this, List.map_map]
          rfl
        rw [← hgoal]
        refine e_lcL und2 (e_var oD SD rfl) (by rw [List.length_map]; omega) (fun v => wipe_one _ _ _) fun D2 Ha2 Hb2 hD2 ka2 kb2 unD2 kS2 i2 d2 v2 hi2 rdv2 => ⟨fun H1 w Q q => q true H1 (Kp.refl _ _) rfl, fun _ H3 k3 => ?_⟩
        have oE := w0 K (Lp (Lp L D) D2)
        have SE := ((kS2 _ SD).putD (i := 14) rdv2).mono oE k3
        rw [List.getElem?_map] at hi2
        cases hx2 : bs[i2]? with
        | none => rw [hx2] at hi2; cases hi2
        | some bb =>
          rw [hx2] at hi2
          cases hi2
          rw [getD_of hx2]
          cases bb with
          | true => exact e_ixS oE (z := ".#") (i := 1) (c := 35) (e_str oE) (e_intB oE (b := true) (e_var oE SE rfl)) rfl (by decide)
          | false => exact e_ixS oE (z := ".#") (i := 0) (c := 46) (e_str oE) (e_intB oE (b := false) (e_var oE SE rfl)) rfl (by decide)
    · have hgoal : lcF (bss.map fun bs => PyData.list (bs.map .bool)).length (fun _ => true) (fun i => .str (rowS (bss.getD i []))) = (bss.map rowS).map .str := by
        have := lcF_list ([] : List Bool) (fun _ => true) (fun bs => PyData.str (rowS bs)) bss
        rw [List.filter_eq_self.mpr (fun _ _ => rfl)] at this
        rw [List.length_map, this, List.map_map]
        rfl
      rw [hgoal] at r10
      refine k v10 H10 _ ⟨bss.map rowS, img_of (hg := hg.toNat) (wd := wd.toNat) (by omega) (by omega) (by omega) (by rw [List.length_map, hbl, gr9.len]) (fun s hs => ?_), rfl⟩ (kH.trans (w10.mono fun _ z => z.elim)) (bx9.keep w10 (fun z => z.elim) (fun z => z.elim)) r10
      obtain ⟨bs, hbs, rfl⟩ := List.mem_map.mp hs
      rw [rowS_len]
      exact hbw bs hbs
end
end SR

namespace SR
open PySem PySem.Spec PyProof.Rows L2
section
variable {C : Wd} (o : C.Ok) {H : Hp} {σ : L2.St} {te ta tb ty tz : TE} {tx : TA} {Z : PyData → Prop} {Zs : List PyData → Prop} {n : Nat}
include o
theorem z_lst (hL : ∀ a, C.L a → H a ≠ none) (h : AZ C tx σ H Zs) (hl : ∀ ds, Zs ds → ds.length = n ∧ ∀ e ∈ ds, Z e) (hn : n ≤ 1000) : EZ C (tLst tx) σ H (zL n Z) := fun H1 w Q q =>
  h H1 w _ fun vs H2 w2 ⟨ds, z, p⟩ => by
    obtain ⟨h1, h2⟩ := hl ds z
    exact ⟨by rw [p.length, h1]; exact Nat.le_trans hn (by decide), fun a ha => q _ _ (o.trans w2 (o.new ha)) ⟨_, ⟨ds, rfl, h1, h2⟩, .lst (fun z => hL a z (o.free (o.trans w w2) ha)) upd_same (DTs.mono o (o.new ha) p)⟩⟩
theorem z_ixLZ (ha : EZ C ta σ H (zL n Z)) (hb : EZ C tb σ H (zI fun i => 0 ≤ i ∧ i < n)) : EZ C (tOp (rIx C.K) ta tb) σ H Z := fun H1 w Q q =>
  ha H1 w _ fun x H2 w2 hz => hb H2 (o.trans w w2) _ fun y H3 w3 hy => by
    obtain ⟨_, ⟨ds, rfl, hl, hz⟩, r⟩ := hz
    obtain ⟨i, rfl, h0, h1⟩ := zI_v hy
    obtain ⟨a, xs, rfl, nn, e, rx⟩ := r.lstI
    have hlt : i.toNat < ds.length := by omega
    obtain ⟨v, hv, rv⟩ := rx.get (i := i.toNat) (d := ds[i.toNat]) (List.getElem?_eq_getElem hlt)
    exact .inl ⟨a, xs, i, v, rfl, rfl, SqL.of (o.lst w3 nn e), by have := atI_nat hv; rwa [Int.toNat_of_nonneg h0] at this, q v H3 (o.trans w2 w3) ⟨_, hz _ (List.getElem_mem hlt), DT.mono o w3 rv⟩⟩
/-- list(xs), new -/
theorem e_listN {ds : List PyData} (h : Ed C te σ H (.list ds)) : EvP C (tCB (fun xs H Q => ∃ p ys, xs = [.ref p] ∧ (SqL C.K H p ys ∨ SqT C.K H p ys) ∧ ∀ l, H l = none → Q (.ref l) (upd H l (.lst ys))) (tCons te tNil)) σ H fun v H' => ∃ q xs, v = .ref q ∧ H q = none ∧ H' q = some (.lst xs) ∧ Dws C H' xs ds := fun H1 w Q q =>
  a_cons o h (a_nil o) H1 w _ fun vs H2 w2 p => by
    obtain ⟨v, rfl, r⟩ := p.one
    obtain ⟨a, xs, rfl, _, e, rx⟩ := r.lstI
    exact ⟨a, xs, rfl, .inl (SqL.of e), fun l hl => q _ _ (o.trans w2 (o.new hl)) ⟨l, xs, rfl, o.free (o.trans w w2) hl, upd_same, DTs.mono o (o.new hl) rx⟩⟩
omit o in
theorem cut_take (xs : List V) (n : Nat) : cutV xs none (some (n : Int)) = xs.take n := by
  unfold cutV
  rw [HT.sIx_nat, HT.sIx_none, List.drop_zero, Nat.sub_zero]
  rcases Nat.le_total n xs.length with c | c
  · rw [Nat.min_eq_left c]
  · rw [Nat.min_eq_right c, List.take_length, List.take_of_length_le c]
omit o in
theorem cut_drop (xs : List V) (n : Nat) : cutV xs (some (n : Int)) none = xs.drop n := by
  unfold cutV
  rw [HT.sIx_nat, HT.sIx_none]
  rcases Nat.le_total n xs.length with c | c
  · rw [Nat.min_eq_left c, ← List.length_drop, List.take_length]
  · rw [Nat.min_eq_right c, Nat.sub_self, List.take_zero, List.drop_eq_nil_of_le c]
/-- xs[:n] + xs[m:], new -/
theorem e_cutCat {q : Addr} {xs : List V} {n m : Nat} (hL : ∀ a, C.L a → H a ≠ none) (ha : Ee C ta σ H (.ref q)) (hx : ∀ H', C.W H H' → H' q = some (.lst xs)) (hn : Ed C ty σ H (.int (n : Int))) (hm : Ed C tz σ H (.int (m : Int))) (hl : xs.length ≤ 8000000) :
    EvP C (tOp rCat (tSl (rSlL C.K) ta tNoPart (tPart ty)) (tSl (rSlL C.K) ta (tPart tz) tNoPart)) σ H fun v H' => ∃ q2, v = .ref q2 ∧ H q2 = none ∧ H' q2 = some (.lst (xs.take n ++ xs.drop m)) := fun H1 w Q k =>
  ha H1 w _ fun x H2 w2 e => by
    subst e
    refine hn H2 (o.trans w w2) _ fun y H3 w3 ry => ⟨n, ry.intI, q, xs, rfl, SqL.of (hx H3 (o.trans (o.trans w w2) w3)), fun p hp => ?_⟩
    have w03 := o.trans (o.trans w w2) w3
    have w4 : C.W H3 (upd H3 p (.lst (cutV xs none (some (n : Int))))) := o.new hp
    have w04 := o.trans w03 w4
    refine ha _ w04 _ fun x H5 w5 e => ?_
    subst e
    refine hm H5 (o.trans w04 w5) _ fun z H6 w6 rz => ⟨m, rz.intI, q, xs, rfl, SqL.of (hx H6 (o.trans (o.trans w04 w5) w6)), fun p2 hp2 => ?_⟩
    have hnp : ¬ C.L p := fun l => hL p l (o.free w03 hp)
    have w46 := o.trans w5 w6
    have e6 : H6 p = some (.lst (xs.take n)) := by
      rw [← cut_take]
      exact o.lst w46 hnp upd_same
    have ne : p ≠ p2 := fun e => by rw [← e, e6] at hp2; cases hp2
    have w7 : C.W H6 (upd H6 p2 (.lst (cutV xs (some (m : Int)) none))) := o.new hp2
    refine ⟨p, p2, xs.take n, xs.drop m, rfl, rfl, by rw [upd_ne ne]; exact e6, by rw [upd_same, cut_drop], Nat.le_of_lt (lt_size (by rw [List.length_take, List.length_drop]; omega)), fun c hc => ?_⟩
    have w8 := o.trans (o.trans (o.trans w3 w4) w46) w7
    exact k _ _ (o.trans (o.trans w2 w8) (o.new hc)) ⟨c, rfl, o.free (o.trans (o.trans w w2) w8) hc, upd_same⟩
end
theorem z_cat {C : Wd} (o : C.Ok) {H : Hp} {σ : L2.St} {ta tb : TE} {ds : List PyData} {Zs : List PyData → Prop} (ha : Ed C ta σ H (.tuple ds)) (hb : EZ C tb σ H fun d => ∃ es, d = .tuple es ∧ Zs es) (hl : ∀ es, Zs es → ds.length + es.length ≤ 1000) : EZ C (tOp (rCatA C.K) ta tb) σ H fun d => ∃ es, Zs es ∧ d = .tuple (ds ++ es) := fun H1 w Q q =>
  ha H1 w _ fun x H2 w2 p => hb H2 (o.trans w w2) _ fun y H3 w3 hz => by
    obtain ⟨_, ⟨es, rfl, hz⟩, p'⟩ := hz
    obtain ⟨a, xs, rfl, hs0, r0⟩ := p.tupX
    have hs := (o.kp w3).tup _ _ hs0
    have r := DTs.mono o w3 r0
    obtain ⟨b, ys, rfl, hs', r'⟩ := p'.tupX
    have hl' := hl es hz
    refine ⟨a, b, xs, ys, rfl, rfl, SqT.of hs, SqT.of hs', by rw [r.length, r'.length]; exact Nat.le_trans hl' (by decide), fun e => ?_, fun _ e => ?_, fun _ _ c hc => ?_⟩
    · subst e
      cases r
      exact q _ H3 (o.trans w2 w3) ⟨_, ⟨es, hz, rfl⟩, .tup hs' r'⟩
    · subst e
      cases r'
      exact q _ H3 (o.trans w2 w3) ⟨_, ⟨[], hz, rfl⟩, .tup hs (by rw [List.append_nil]; exact r)⟩
    · exact q _ _ (o.trans (o.trans w2 w3) (o.new hc)) ⟨_, ⟨es, hz, rfl⟩, .tup upd_same (DTs.mono o (o.new hc) (r.append r'))⟩
/-- a bound, its number at most m -/
def Bd.cap (b : Bd) (m : Int) : Bd := { b with least := some (match b.least with | none => m | some l => min l m) }
theorem tz_of {C : Wd} {tt : TT} {σ : L2.St} {H : Hp} {T : Bool → Prop} (h : EtP C tt σ H T) : TZ C tt σ H := fun H1 w Q q => h H1 w _ fun c H2 w2 _ => q c H2 w2 trivial
theorem bd_nl (b : Bd) : nl b.d = true := by
  obtain ⟨r, at_, l⟩ := b
  unfold Bd.d Bd.key
  cases at_ <;> cases l <;> rfl
theorem bds_nls : ∀ bs : List Bd, nls (bs.map Bd.d) = true
  | [] => rfl
  | b :: bs => by rw [List.map_cons, nls, bd_nl, bds_nls bs]; rfl
theorem Bd.key_len (b : Bd) : b.key.length = 7 := rfl
theorem Bd.take7 (b : Bd) : (b.key ++ [oi b.least]).take 7 = b.key := rfl
theorem Bd.take5 (b : Bd) : PyData.tuple ((b.key ++ [oi b.least]).take 5) = b.r.d := rfl
section
variable {P : Program} {w : World} {K : PySem.W.Frag} {mg : Str → Option Value} {base : Heap}
abbrev N__law_spoilt : List Str := ["_law_box", "_law_bounds", "_law_found_here", "_law_turn", "_law_at", "_law_kind", "_law_least"]
abbrev s__law_spoilt : Stmt := top 78
theorem sc__law_spoilt : FnScope ["_law_box", "_law_bounds", "_law_found_here", "_law_turn", "_law_at", "_law_kind", "_law_least"] ["_law_box", "_law_bounds"] (defScope s__law_spoilt) := ⟨rfl, rfl, rfl, by decide +kernel, rfl, by decide +kernel, by decide +kernel⟩
def R_law_spoilt (ds : List PyData) (Z : PyData → Prop) : Prop := ∃ (ps : List Pt) (r : Rg) (bs : List Bd), (∀ b ∈ bs, BdOk ps r b) ∧ bs.length ≤ 2000 ∧ ds = [.list (bs.map Bd.d)] ∧ Z = fun d => ∃ bs' : List Bd, (∀ b ∈ bs', BdOk ps r b) ∧ bs'.length ≤ 2000 ∧ d = .list (bs'.map Bd.d)
theorem ok__law_spoilt (F : DefA K mg "_law_spoilt" s__law_spoilt) (B : Blt mg) (c__law_draw : C8.Cal P w K mg base 1 "_law_draw" (spDraw K) []) : C8.Cal P w K mg base 2 "_law_spoilt" (spB K R_law_spoilt) [] := by
  refine cal_by F sc__law_spoilt rfl rfl rfl (fun _ _ _ _ _ _ us hl => match us, hl with | [_, _], _ => rfl) (spB_len fun ds Z ⟨_, _, _, _, _, e, _⟩ => by rw [e]; rfl) fun f cdv A outer s H vs Q E hr h => ?_
  obtain ⟨L, b, a, zs, vs', ds, Z, rfl, hL, hb, bx, hd, ⟨ps, r, bs, hbs, hl, rfl, rfl⟩, k⟩ := h
  have o := wb K (a := a) (zs := zs) hb
  have hu4 : _ + 64 < cLine := hr.units
  have hu := hu_of hr
  have hu5 := u65 hr
  have S := Sl.startB (C := Wb K L b a zs) (N := N__law_spoilt) (b := b) hd
  refine ⟨_, (pss_c (ps_set (i := 2) sc__law_spoilt.nd rfl (Or.inl rfl) (pe_callTy call_list_of (by rfl) B.list (by decide +kernel) (pa_cons (pv 1) pa_nil)))
  (pss_c (ps_for PassesOwn.never rfl (pi_range1 (by rfl) B.range (pa_cons (C8.pe_c c__law_draw hr (by omega) rfl (pa_cons (pv 0) (pa_cons pe_int pa_nil))) pa_nil)) (pg_name (i := 3) sc__law_spoilt.nd rfl (Or.inl rfl)) (pss_one (ps_if (pt_cmpR op_gt (pe_callB call_len (by rfl) B.len PySem.boot_len (pa_cons (pv 2) pa_nil)) pe_int (nomark _)) (pss_c (ps_set (i := 4) sc__law_spoilt.nd rfl (Or.inl rfl) (pe_op op_mod (pe_callTy call_int1 (by rfl) B.int (by decide +kernel) (pa_cons (pe_op op_add (pe_op op_mul (C8.pe_c c__law_draw hr (by omega) rfl (pa_cons (pv 0) (pa_cons pe_int pa_nil))) pe_int) (pv 3)) pa_nil)) (pe_callB call_len (by rfl) B.len PySem.boot_len (pa_cons (pv 2) pa_nil))))
  (pss_c (ps_set (i := 5) sc__law_spoilt.nd rfl (Or.inl rfl) (C8.pe_c c__law_draw hr (by omega) rfl (pa_cons (pv 0) (pa_cons pe_int pa_nil))))
  (pss_one (ps_if (pt_cmpR (op_Q hu4) (pv 5) pe_int (nomark _)) (pss_one (ps_set (i := 2) sc__law_spoilt.nd rfl (Or.inl rfl) (pe_op op_cat (pe_slice sl_list (pv 2) po_none (po_some (pv 4))) (pe_slice sl_list (pv 2) (po_some (pe_op op_add (pv 4) pe_int)) po_none)))) (pss_c (ps_set (i := 6) sc__law_spoilt.nd rfl (Or.inl rfl) (pe_ix ix_seq (pe_lst (pa_cons pe_non (pa_cons pe_int (pa_cons (C8.pe_c c__law_draw hr (by omega) rfl (pa_cons (pv 0) (pa_cons pe_int pa_nil))) (pa_cons (C8.pe_c c__law_draw hr (by omega) rfl (pa_cons (pv 0) (pa_cons pe_int pa_nil))) pa_nil))))) (pe_op op_sub (pv 5) pe_int) (fun _ _ => rfl)))
  (pss_one (ps_asg (pe_op op_catA (pe_slice sl_tupA (pe_ix ix_seq (pv 2) (pv 4) (fun _ _ => rfl)) po_none (po_some pe_int)) (pe_tup (pa_cons (pv 6) pa_nil))) (pg_sub (pv 2) (pv 4) set_list)))))))) pss_nil)))
  (pss_one (ps_ret (pv 2))))), ?_⟩
  have hbH : H b ≠ none := hL b hb
  have haH : H a ≠ none := by obtain ⟨_, _, z⟩ := bx; rw [z]; exact fun z => by cases z
  let LB : Addr → Addr → Prop := fun q c => c = b ∨ c = q
  let M : Addr → Prop := fun c => c = b ∨ H c = none
  have oB : ∀ q, (Wb K (LB q) b a zs).Ok := fun q => wb K (.inl rfl)
  refine s_set o (e_listN o (e_var o S rfl)) fun v1 H1 w1 hz => ?_
  obtain ⟨q1, xs1, rfl, hq1, hx1, rx1⟩ := hz
  have S1 := ((S.mono o w1).putV (i := 2) (v := .ref q1)).bare (C' := Wb K (LB q1) b a zs)
  have bx1 := w1.2 bx
  have kM : ∀ {Ha Hb : Hp}, Kp (· = b) Ha Hb → Kp M Ha Hb := fun k => k.mono fun _ e => .inl e
  have kend : ∀ {H'}, Kp M H H' → Kp (· = b) H H' := fun k => (Kp.refl (· = b) H).hide k fun c e => e.elim .inr .inl
  have o1 := oB q1
  refine s_for1Z o1 (az_cons o1 (z_drawI (.inl rfl) bx1 S1 rfl (by decide)) (az_nil o1)) fun vs2 ds2 H2 w2 hz r2 => ?_
  obtain ⟨_, _, rfl, ⟨many, rfl, hm0, hm1⟩, rfl⟩ := hz
  have q1b : q1 ≠ b := fun e => hbH (e ▸ hq1)
  refine s_for1 o1 (n := many) (a_ca o1 r2) (by omega) (by omega) (fun i σ' H' => Kp M H H' ∧ BoxAt H' b a zs ∧ ∃ (q : Addr) (xs : List V) (bs' : List Bd) (b3 b4 b5 b6 : Ds), H q = none ∧ H' q = some (.lst xs) ∧ DTs K (LB q) H' xs (bs'.map Bd.d) ∧ Sl (Wb K (LB q) b a zs) H' σ' [.va (.ref b), .un, .va (.ref q), b3, b4, b5, b6] ∧ (∀ b ∈ bs', BdOk ps r b) ∧ bs'.length ≤ 2000)
    (fun H' w' => ⟨(kM w1.1).trans ((kM w2.1).trans (kM w'.1)), w'.2 (w2.2 bx1), q1, xs1, bs, .un, .un, .un, .un, hq1, (w2.1.trans w'.1).lst q1b hx1, DTs.mono (o1) (o1.trans w2 w') (DTs.nl (bds_nls bs) rx1), S1.mono o1 (o1.trans w2 w'), hbs, hl⟩)
    (fun i σ3 H3 hi ⟨k3, bx3, q, xs, bs', b3, b4, b5, b6, hq, hx3, rx3, S3, hbs3, hl3⟩ => ?_) (fun σ3 H3 ⟨k3, bx3, q, xs, bs', b3, b4, b5, b6, hq, hx3, rx3, S3, hbs3, hl3⟩ => ?_)
  · have oq := oB q
    have S4 := S3.putD (i := 3) (.int (i : Int))
    have qb : q ≠ b := fun e => hbH (e ▸ hq)
    have qa : q ≠ a := fun e => haH (e ▸ hq)
    have un3 : ∀ c, LB q c → H3 c ≠ none := fun c z => by
      rcases z with rfl | rfl
      · obtain ⟨_, z, _⟩ := bx3; rw [z]; exact fun z => by cases z
      · rw [hx3]; exact fun z => by cases z
    have hlx : xs.length = bs'.length := by rw [rx3.length, List.length_map]
    refine s_if oq (t_test oq (e_cmp oq (i := (xs.length : Int)) (j := 0) (e_lenO oq (e_val oq S4 rfl) fun H' w' => w'.1.lst qb hx3) (e_int oq))) (fun c H5 w5 => ?_) (fun c H5 w5 => ?_)
    · have hpos : 0 < (xs.length : Int) := of_decide_eq_true c
      have S5 := S4.mono oq w5
      have bx5 := w5.2 bx3
      have hx5 : H5 q = some (.lst xs) := w5.1.lst qb hx3
      refine s_set oq (z_opc oq (P := fun _ => True) (P' := fun j => j = (xs.length : Int)) (R := fun i => 0 ≤ i ∧ i < (xs.length : Int)) (z_intI oq (z_op0 oq (P := fun _ => True) (P' := fun _ => True) (z_opc oq (P := fun _ => True) (P' := fun j => j = 3) (z_imp (z_drawI (.inl rfl) bx5 S5 rfl (by decide)) fun d ⟨i, e, _⟩ => ⟨i, e, trivial⟩) (z_int (e_int oq) rfl) (fun i j _ h => by subst h; exact .inr ⟨by decide, by decide⟩) (R := fun _ => True) (fun _ _ _ _ => trivial)) (z_int (e_var oq S5 rfl) trivial) (fun _ _ _ _ => trivial))) (z_int (e_lenO oq (e_val oq S5 rfl) fun H' w' => w'.1.lst qb hx5) rfl) (fun i j _ h => by omega) fun i j _ h => by subst h; exact ⟨Int.emod_nonneg _ (by omega), Int.emod_lt_of_pos _ (by omega)⟩) fun v6 H6 w6 hz => ?_
      obtain ⟨_, ⟨at_, rfl, ha0, ha1⟩, r6⟩ := hz
      obtain ⟨at_, rfl⟩ : ∃ n : Nat, at_ = (n : Int) := ⟨at_.toNat, by omega⟩
      have S6 := (S5.mono oq w6).putD (i := 4) r6
      have bx6 := w6.2 bx5
      refine s_set oq (z_drawI (.inl rfl) bx6 S6 rfl (by decide)) fun v7 H7 w7 hz => ?_
      obtain ⟨_, ⟨kd, rfl, hk0, hk1⟩, r7⟩ := hz
      have S7 := (S6.mono oq w7).putD (i := 5) r7
      have bx7 := w7.2 bx6
      have w37 := oq.trans (oq.trans w5 w6) w7
      have hx7 : H7 q = some (.lst xs) := w37.1.lst qb hx3
      have rx7 := DTs.mono oq w37 rx3
      have k7 := k3.trans (kM w37.1)
      refine s_if oq (t_test oq (e_eqI oq (e_var oq S7 rfl) (e_int oq))) (fun c2 H8 w8 => ?_) (fun c2 H8 w8 => ?_)
      · have S8 := S7.mono oq w8
        have w38 := oq.trans w37 w8
        refine s_set oq (e_cutCat oq (n := at_) (m := at_ + 1) (oq.un w38 un3) (e_val oq S8 rfl) (fun H' w' => (w8.1.trans w'.1).lst qb hx7) (e_var oq S8 rfl) (by
          have := e_add oq (i := (at_ : Int)) (j := 1) (e_var oq S8 (i := 4) rfl) (e_int oq)
          exact this) (by omega)) fun v9 H9 w9 hz => ?_
        obtain ⟨q2, rfl, hq2, hx9⟩ := hz
        have w39 := oq.trans w38 w9
        have k9 := k3.trans (kM w39.1)
        refine ⟨k9, w39.2 bx3, q2, _, bs'.take at_ ++ bs'.drop (at_ + 1), _, _, _, _, ((k3.trans (kM w38.1)).free hq2), hx9, ?_, ((S8.mono oq w9).putV (i := 2) (v := .ref q2)).bare (C' := Wb K (LB q2) b a zs), fun x hx => ?_, ?_⟩
        · rw [List.map_append, List.map_take, List.map_drop]
          have rx9 := DTs.nl (L' := LB q2) (bds_nls bs') (DTs.mono oq w39 rx3)
          exact (rx9.take at_).append (rx9.drop (at_ + 1))
        · rcases List.mem_append.mp hx with h | h
          · exact hbs3 x (List.mem_of_mem_take h)
          · exact hbs3 x (List.mem_of_mem_drop h)
        · rw [List.length_append, List.length_take, List.length_drop]
          omega
      · have hkd : 1 ≤ kd := by have := of_decide_eq_false c2; omega
        have S8 := S7.mono oq w8
        have bx8 := w8.2 bx7
        have w38 := oq.trans w37 w8
        refine s_set oq (z_ixLZ oq (n := 4) (Z := fun d => ∃ l : Option Int, d = oi l) (z_lst oq (n := 4) (Z := fun d => ∃ l : Option Int, d = oi l) (oq.un w38 un3) (az_cons oq (z_eq (e_non oq)) (az_cons oq (z_eq (e_int oq)) (az_cons oq (z_drawI (.inl rfl) bx8 S8 rfl (by decide)) (az_cons oq (z_drawI (.inl rfl) bx8 S8 rfl (by decide)) (az_nil oq))))) (fun ds hz => ?_) (by decide)) (z_int (e_sub oq (i := kd) (j := 1) (e_var oq S8 rfl) (e_int oq)) (by omega))) fun v9 H9 w9 hz => ?_
        · obtain ⟨_, _, rfl, rfl, _, _, rfl, rfl, _, _, rfl, ⟨x1, rfl, _⟩, _, _, rfl, ⟨x2, rfl, _⟩, rfl⟩ := hz
          refine ⟨rfl, fun e he => ?_⟩
          simp only [List.mem_cons, List.not_mem_nil, or_false] at he
          rcases he with rfl | rfl | rfl | rfl
          · exact ⟨none, rfl⟩
          · exact ⟨some 0, rfl⟩
          · exact ⟨some x1, rfl⟩
          · exact ⟨some x2, rfl⟩
        obtain ⟨_, ⟨l, rfl⟩, r9⟩ := hz
        have S9 := ((S8.mono oq w9).putD (i := 6) r9).cast (C' := W0 K (LB q)) rfl rfl
        have w39 := oq.trans w38 w9
        have bx9 := w39.2 bx3
        have hx9 : H9 q = some (.lst xs) := w39.1.lst qb hx3
        have rx9 := DTs.mono oq w39 rx3
        have k9 := k3.trans (kM w39.1)
        have o0 := w0 K (LB q)
        have hat : at_ < bs'.length := by omega
        obtain ⟨vv, hvv, rvv⟩ := rx9.get (i := at_) (d := (bs'[at_]).d) (by rw [List.getElem?_map, List.getElem?_eq_getElem hat]; rfl)
        refine s_asg o0 (e_cat o0 (ds := (bs'[at_]).key) (es := [oi l]) (e_slT o0 (n := 7) (ds := (bs'[at_]).key ++ [oi (bs'[at_]).least]) (e_of o0 (v := vv) (e_ixQ o0 (a := q) (xs := xs) (i := at_) (v := vv) (e_val o0 S9 rfl) (e_var o0 S9 rfl) (fun H' w' => SqL.of (w'.lst (fun z => z.elim) hx9)) hvv) rvv)) (e_tup o0 (a_cons o0 (e_var o0 S9 rfl) (a_nil o0))) (by show 7 + 1 ≤ 1000; decide)) fun v10 H10 w10 r10 => ?_
        have S10 := S9.mono o0 w10
        have hx10 : H10 q = some (.lst xs) := w10.lst (fun z => z.elim) hx9
        refine g_setL (K := K) (L := LB q) (p := q) (xs := xs) (j := at_) (e_val o0 S10 rfl) (fun H' w' => e_var o0 (S10.mono o0 w') rfl) (fun H' w' => w'.lst (fun z => z.elim) hx10) (by omega) fun H11 w11 hx11 => ?_
        have k12 : Kp (· = q) H11 (upd H11 q (.lst (xs.set at_ v10))) := (Kp.refl _ _).app hx11
        have w911 := Kp.trans w10 w11
        have kq : ∀ {Ha Hb : Hp}, Kp (· = q) Ha Hb → Kp M Ha Hb := fun k => k.mono fun c e => .inr (e ▸ hq)
        refine ⟨(k9.trans (w911.mono fun _ z => z.elim)).trans (kq k12), (bx9.keep w911 (fun z => z.elim) (fun z => z.elim)).keep k12 (fun e => qb e.symm) (fun e => qa e.symm), q, _, bs'.set at_ { bs'[at_] with least := l }, _, _, _, _, hq, upd_same, ?_, (((S10.mono o0 w11).step (M := (· = q)) (fun c e => .inr e) k12).cast (C' := Wb K (LB q) b a zs) rfl rfl).un 1, fun x hx => ?_, by rw [List.length_set]; exact hl3⟩
        · rw [List.map_set]
          exact DTs.step (M := (· = q)) (fun c e => .inr e) k12 (DTs.set (DT.mono o0 w11 r10) at_ (DTs.mono o0 w911 rx9))
        · rcases List.mem_or_eq_of_mem_set hx with h | rfl
          · exact hbs3 x h
          · have := hbs3 _ (List.getElem_mem hat)
            exact ⟨this.ins, this.at_⟩
    · exact ⟨k3.trans (kM w5.1), w5.2 bx3, q, xs, bs', _, _, _, _, hq, w5.1.lst qb hx3, DTs.mono oq w5 rx3, S4.mono oq w5, hbs3, hl3⟩
  · have oq := oB q
    have qb : q ≠ b := fun e => hbH (e ▸ hq)
    refine s_ret oq (e_val oq S3 rfl) fun v4 H4 w4 e4 => ?_
    subst e4
    exact k _ H4 _ ⟨bs', hbs3, hl3, rfl⟩ (kend (k3.trans (kM w4.1))) (w4.2 bx3) (.lst (fun l => hL q l hq) (w4.1.lst qb hx3) (DTs.nl (bds_nls bs') (DTs.mono oq w4 rx3)))
abbrev N__law_list : List Str := ["_law_box", "_law_told", "_law_region_here", "_law_wishes_here", "_law_kind", "_law_most", "_law_bound", "_law_found_here", "_law_one"]
abbrev s__law_list : Stmt := top 79
theorem sc__law_list : FnScope ["_law_box", "_law_told", "_law_region_here", "_law_wishes_here", "_law_kind", "_law_most", "_law_bound", "_law_found_here", "_law_one"] ["_law_box", "_law_told", "_law_region_here", "_law_wishes_here"] (defScope s__law_list) := ⟨rfl, rfl, rfl, by decide +kernel, rfl, by decide +kernel, by decide +kernel⟩
def R_law_list (ds : List PyData) (Z : PyData → Prop) : Prop := ∃ (ps : List Pt) (r : Rg) (bs : List Bd) (fixed forb : List Rg), (∀ b ∈ bs, BdOk ps r b) ∧ bs.length ≤ 1500 ∧ Ins ps r r ∧ (∀ x ∈ forb, Ins ps r x) ∧ forb.length ≤ 4 ∧ ds = [.list (bs.map Bd.d), r.d, wish fixed forb] ∧ Z = fun d => ∃ bs' : List Bd, (∀ b ∈ bs', BdOk ps r b) ∧ bs'.length ≤ 2000 ∧ d = .list (bs'.map Bd.d)
theorem ok__law_list (F : DefA K mg "_law_list" s__law_list) (B : Blt mg) (c__law_draw : C8.Cal P w K mg base 1 "_law_draw" (spDraw K) []) (c__law_spoilt : C8.Cal P w K mg base 2 "_law_spoilt" (spB K R_law_spoilt) []) : C8.Cal P w K mg base 3 "_law_list" (spB K R_law_list) [] := by
  refine cal_by F sc__law_list rfl rfl rfl (fun _ _ _ _ _ _ us hl => match us, hl with | [_, _, _, _], _ => rfl) (spB_len fun ds Z ⟨_, _, _, _, _, _, _, _, _, _, e, _⟩ => by rw [e]; rfl) fun f cdv A outer s H vs Q E hr h => ?_
  obtain ⟨L, b, a, zs, vs', ds, Z, rfl, hL, hb, bx, hd, ⟨ps, r, bs, fixed, forb, hbs, hl, gi, hfi, hfl, rfl, rfl⟩, k⟩ := h
  have o := wb K (a := a) (zs := zs) hb
  have hu4 : _ + 64 < cLine := hr.units
  have hu := hu_of hr
  have hu5 := u65 hr
  have S := Sl.startB (C := Wb K L b a zs) (N := N__law_list) (b := b) hd
  refine ⟨_, (pss_c (ps_set (i := 4) sc__law_list.nd rfl (Or.inl rfl) (C8.pe_c c__law_draw hr (by omega) rfl (pa_cons (pv 0) (pa_cons pe_int pa_nil))))
  (pss_c (ps_if (pt_cmpR (op_Q hu4) (pv 4) pe_int (nomark _)) (pss_one (ps_ret (C8.pe_c c__law_spoilt hr (by omega) rfl (pa_cons (pv 0) (pa_cons (pv 1) pa_nil))))) pss_nil)
  (pss_c (ps_if (pt_cmpR (op_Q hu4) (pv 4) pe_int (nomark _)) (pss_c (ps_set (i := 5) sc__law_list.nd rfl (Or.inr rfl) (C8.pe_c c__law_draw hr (by omega) rfl (pa_cons (pv 0) (pa_cons pe_int pa_nil))))
  (pss_one (ps_ret (C8.pe_c c__law_spoilt hr (by omega) rfl (pa_cons (pv 0) (pa_cons (pe_lc (own := [("_law_bound", 6)]) rfl sc__law_list.nd (pi_list (pv 1)) (blkOk_by (N := N__law_list) (sc := defScope s__law_list) (by decide +kernel)) (fun _ _ _ _ _ => (pg_name (i := 6) sc__law_list.nd rfl (Or.inl rfl))) (fun _ _ _ _ _ => pts_nil) (fun _ _ _ _ _ => (pe_op (r := rCatA K) op_catA (pe_slice (show SlR _ (rSlA K) from sl_tupA) (pv 6) po_none (po_some pe_int)) (pe_tup (pa_cons (pe_ifExp (pt_cmpR op_isN (pe_ix (r := rIx K) ix_seq (pv 6) pe_int (fun _ _ => rfl)) pe_non (nomark _)) (pv 5) (pe_callB (call_min2 rfl) (by rfl) B.min (by decide +kernel) (pa_cons (pe_ix (r := rIx K) ix_seq (pv 6) pe_int (fun _ _ => rfl)) (pa_cons (pv 5) pa_nil)))) pa_nil))))) pa_nil)))))) pss_nil)
  (pss_c (ps_set (i := 7) sc__law_list.nd rfl (Or.inl rfl) (pe_lst pa_nil))
  (pss_c (ps_for PassesOwn.never rfl (pi_list (pv 1)) (pg_name (i := 6) sc__law_list.nd rfl (Or.inl rfl)) (pss_one (ps_if (PW.pt (pw_or (pt_cmpR (op_Q hu4) (pe_slice sl_tupA (pv 6) po_none (po_some pe_int)) (pv 2) (nomark _)) (pw_or1 (PW.pt (pw_and (pt_cmpR (op_Q hu4) (pv 4) pe_int (nomark _)) (pw_and1 (pt_cmpR op_gt (C8.pe_c c__law_draw hr (by omega) rfl (pa_cons (pv 0) (pa_cons pe_int pa_nil))) pe_int (nomark _)))))))) (pss_one (ps_expr (pe_bm PySem.F.plainAttrs_list PySem.F.slot_list_append PySem.F.type_list_append mt_append (pv 7) (pa_cons (pe_op op_catA (pe_slice sl_tupA (pv 6) po_none (po_some pe_int)) (pe_tup (pa_cons (pe_ix ix_seq (pe_lst (pa_cons pe_non (pa_cons pe_int (pa_cons pe_int (pa_cons pe_int (pa_cons pe_int (pa_cons (pe_ix ix_seq (pv 6) pe_int (fun _ _ => rfl)) pa_nil))))))) (C8.pe_c c__law_draw hr (by omega) rfl (pa_cons (pv 0) (pa_cons pe_int pa_nil))) (fun _ _ => rfl)) pa_nil))) pa_nil)))) pss_nil)))
  (pss_c (ps_for PassesOwn.never rfl (pi_tup (pe_ix ix_seq (pv 3) pe_int (fun _ _ => rfl))) (pg_name (i := 8) sc__law_list.nd rfl (Or.inl rfl)) (pss_one (ps_expr (pe_bm PySem.F.plainAttrs_list PySem.F.slot_list_append PySem.F.type_list_append mt_append (pv 7) (pa_cons (pe_op op_catA (pv 8) (pe_tup (pa_cons pe_non (pa_cons pe_non (pa_cons (C8.pe_c c__law_draw hr (by omega) rfl (pa_cons (pv 0) (pa_cons pe_int pa_nil))) pa_nil))))) pa_nil)))))
  (pss_one (ps_ret (pe_op op_cat (pv 7) (pe_lst (pa_cons (pe_op op_catA (pv 2) (pe_tup (pa_cons pe_int (pa_cons pe_int (pa_cons pe_non pa_nil))))) (pa_cons (pe_op op_catA (pv 2) (pe_tup (pa_cons pe_int (pa_cons pe_int (pa_cons pe_non pa_nil))))) pa_nil)))))))))))), ?_⟩
  refine s_set o (z_drawI hb bx S rfl (by decide)) fun v1 H1 w1 hz => ?_
  obtain ⟨_, ⟨kd, rfl, hk0, hk1⟩, r1⟩ := hz
  have S1 := (S.mono o w1).putD (i := 4) r1
  have bx1 := w1.2 bx
  have un1 := o.un w1 hL
  refine s_if o (t_test o (e_eqI o (e_var o S1 rfl) (e_int o))) (fun _ H2 w2 => ?_) (fun c2 H2 w2 => ?_)
  · have S2 := S1.mono o w2
    have w02 := o.trans w1 w2
    refine s_ret o (z_callB hb (o.un w02 hL) (w02.2 bx) S2 rfl (az_cons o (z_eq (e_var o S2 rfl)) (az_nil o)) (Z := fun d => ∃ bs' : List Bd, (∀ b ∈ bs', BdOk ps r b) ∧ bs'.length ≤ 2000 ∧ d = .list (bs'.map Bd.d)) (R := R_law_spoilt) fun ds hz => ?_) fun v3 H3 w3 hz => ?_
    · obtain ⟨_, _, rfl, rfl, rfl⟩ := hz
      exact ⟨ps, r, bs, hbs, by omega, rfl, rfl⟩
    · obtain ⟨d, hd', r3⟩ := hz
      have w03 := o.trans w02 w3
      exact k v3 H3 d hd' w03.1 (w03.2 bx) r3
  have S2 := S1.mono o w2
  have w02 := o.trans w1 w2
  have bx2 := w02.2 bx
  unfold tNext
  dsimp only
  refine s_if o (t_test o (e_eqI o (e_var o S2 rfl) (e_int o))) (fun _ H3 w3 => ?_) (fun c3 H3 w3 => ?_)
  · have S3 := S2.mono o w3
    have w03 := o.trans w02 w3
    have bx3 := w03.2 bx
    refine s_set o (z_drawI hb bx3 S3 rfl (by decide)) fun v4 H4 w4 hz => ?_
    obtain ⟨_, ⟨most, rfl, hm0, hm1⟩, r4⟩ := hz
    have S4 := (S3.mono o w4).putD (i := 5) r4
    have w04 := o.trans w03 w4
    have bx4 := w04.2 bx
    have un4 := o.un w04 hL
    let b0 : Bd := ⟨⟨0, 0, 0, 0, 0⟩, none, none⟩
    have hgoal : lcF (bs.map Bd.d).length (fun _ => true) (fun i => ((bs.getD i b0).cap most).d) = (bs.map fun b => b.cap most).map Bd.d := by
      have := lcF_list b0 (fun _ => true) (fun b => (b.cap most).d) bs
      rw [List.filter_eq_self.mpr (fun _ _ => rfl)] at this
      rw [List.length_map, this, List.map_map]
      rfl
    refine s_ret o (z_callB hb un4 bx4 S4 rfl (az_cons o (z_eq (d := .list (lcF (bs.map Bd.d).length (fun _ => true) (fun i => ((bs.getD i b0).cap most).d))) (e_lift0 o fun H5 w5 => e_lcL (o.un w5 un4) (e_var (w0 K L) ((S4.mono o w5).cast (C' := W0 K L) rfl rfl) rfl) (by rw [List.length_map]; omega) (fun v => wipe_one _ _ _) fun D Ha Hb hD ka kb unD kS i d v hi rdv => ⟨fun H1 w Q q => q true H1 (Kp.refl _ _) rfl, fun _ H2 k2 => ?_⟩)) (az_nil o)) (Z := fun d => ∃ bs' : List Bd, (∀ b ∈ bs', BdOk ps r b) ∧ bs'.length ≤ 2000 ∧ d = .list (bs'.map Bd.d)) (R := R_law_spoilt) fun ds hz => ?_) fun v6 H6 w6 hz => ?_
    · have oD := w0 K (Lp L D)
      have SD := ((kS _ ((S4.mono o w5).cast (C' := W0 K L) rfl rfl)).putD (i := 6) rdv).mono oD k2
      rw [List.getElem?_map] at hi
      cases hx : bs[i]? with
      | none => rw [hx] at hi; cases hi
      | some x =>
        rw [hx] at hi
        cases hi
        rw [getD_of hx]
        refine e_cat oD (ds := x.key) (es := [oi (x.cap most).least]) (e_slT oD (n := 7) (ds := x.key ++ [oi x.least]) (e_var oD SD rfl)) (e_tup oD (a_cons oD ?_ (a_nil oD))) (by show 7 + 1 ≤ 1000; decide)
        have e7 : Ed (W0 K (Lp L D)) (tOp (rIx K) (tVar 6) (tC (.int 7))) _ H2 (oi x.least) := e_ixT oD (i := 7) (ds := x.key ++ [oi x.least]) (e_var oD SD (i := 6) rfl) (e_int oD) rfl
        refine e_if oD (b := isND (oi x.least)) (P := fun v H' => Dw (W0 K (Lp L D)) H' v (oi (x.cap most).least)) (t_test oD (e_isN oD e7)) (fun c => ?_) (fun c => ?_)
        · rw [isND_oi] at c
          have e : (x.cap most).least = some most := by
            unfold Bd.cap
            cases h : x.least with
            | none => rfl
            | some l => rw [h] at c; cases c
          rw [e]
          exact e_var oD SD rfl
        · rw [isND_oi] at c
          cases h : x.least with
          | none => rw [h] at c; cases c
          | some l =>
            rw [h] at e7
            have e : (x.cap most).least = some (min l most) := by unfold Bd.cap; rw [h]
            rw [e]
            exact e_min2 oD e7 (e_var oD SD rfl)
    · obtain ⟨_, _, rfl, rfl, rfl⟩ := hz
      rw [hgoal]
      refine ⟨ps, r, bs.map fun b => b.cap most, fun x hx => ?_, by rw [List.length_map]; omega, rfl, rfl⟩
      obtain ⟨y, hy, rfl⟩ := List.mem_map.mp hx
      exact ⟨(hbs y hy).ins, (hbs y hy).at_⟩
    · obtain ⟨d, hd', r6⟩ := hz
      have w06 := o.trans w04 w6
      exact k v6 H6 d hd' w06.1 (w06.2 bx) r6
  have S3 := S2.mono o w3
  have w03 := o.trans w02 w3
  have bx3 := w03.2 bx
  have un3 := o.un w03 hL
  dsimp only
  refine s_new (L := L) (i := 7) (S3.cast (C' := W0 K L) rfl rfl) fun q hq S4 => ?_
  have hqb : q ≠ b := fun e => by obtain ⟨_, z, _⟩ := bx3; rw [e, z] at hq; cases hq
  have hqa : q ≠ a := fun e => by obtain ⟨_, _, z⟩ := bx3; rw [e, z] at hq; cases hq
  have hqL : ¬ L q := fun l => un3 q l hq
  have oq : (Wb K (Lp L q) b a zs).Ok := wb K (.inl hb)
  have un4 : ∀ c, Lp L q c → upd H3 q (.lst []) c ≠ none := own_un un3 _
  have hq4 : upd H3 q (.lst []) q = some (.lst []) := upd_same
  have bx4 := bx3.new hq (u := .lst [])
  have kend : ∀ {H'}, Kp (fun c => c = q ∨ c = b) (upd H3 q (.lst [])) H' → Kp (· = b) H H' := fun {H'} k' => w03.1.trans ((Kp.new (L := (· = b)) (o := .lst []) hq).hide k' fun c e => e.elim (fun e => .inl (e ▸ hq)) .inr)
  have hM2 : ∀ c, (c = q ∨ c = b) → Lp L q c := fun c e => e.elim .inr fun e => .inl (e ▸ hb)
  generalize upd H3 q (.lst []) = H4 at S4 un4 hq4 bx4 kend ⊢
  have S4 := S4.cast (C' := Wb K (Lp L q) b a zs) rfl rfl
  let PvL : Nat → L2.St → Hp → Prop := fun i σ' H' => Kp (fun c => c = q ∨ c = b) H4 H' ∧ BoxAt H' b a zs ∧ ∃ (b6 b8 : Ds) (xs : List V) (bs' : List Bd), Sl (Wb K (Lp L q) b a zs) H' σ' [.va (.ref b), .da (.list (bs.map Bd.d)), .da r.d, .da (wish fixed forb), .da (.int kd), .un, b6, .va (.ref q), b8] ∧ H' q = some (.lst xs) ∧ DTs K (Lp L q) H' xs (bs'.map Bd.d) ∧ (∀ b ∈ bs', BdOk ps r b) ∧ bs'.length ≤ i
  -- one more bound
  have app : ∀ {σ : L2.St} {H5 : Hp} {te : TE} {i : Nat} {b6 b8 : Ds} {xs : List V} {bs' : List Bd} {nx bk ct : L2.St → Hp → Prop} {rt : VK}, Kp (fun c => c = q ∨ c = b) H4 H5 → BoxAt H5 b a zs → Sl (Wb K (Lp L q) b a zs) H5 σ [.va (.ref b), .da (.list (bs.map Bd.d)), .da r.d, .da (wish fixed forb), .da (.int kd), .un, b6, .va (.ref q), b8] → H5 q = some (.lst xs) → DTs K (Lp L q) H5 xs (bs'.map Bd.d) → (∀ b ∈ bs', BdOk ps r b) → bs'.length ≤ i → i ≤ 1000000 →
      EZ (Wb K (Lp L q) b a zs) te σ H5 (fun d => ∃ b : Bd, BdOk ps r b ∧ d = b.d) → (∀ H', Kp (fun c => c = q ∨ c = b) H5 H' → PvL (i + 1) σ H' → nx σ H') → tDrop (tBM K "list" rAppend (tVar 7) (tCons te tNil)) ⟨nx, rt, bk, ct⟩ σ H5 := fun {σ H5 te i b6 b8 xs bs' nx bk ct rt} k5 bx5 S5 hq5 rx5 hb5 hl5 hi5 he hnx => by
    refine s_appB S5 rfl hq5 hqb (lt_size (by rw [rx5.length, List.length_map]; omega)) he fun v H6 w6 hz hq6 => ?_
    obtain ⟨_, ⟨x, hx, rfl⟩, r6⟩ := hz
    have k6 : Kp (fun c => c = q ∨ c = b) H6 (upd H6 q (.lst (xs ++ [v]))) := (Kp.refl _ _).put (.inr (.inl rfl)) (by rw [hq6]; trivial)
    obtain ⟨nn, g1, g2⟩ := w6.2 bx5
    have k56 := (w6.1.mono (M := fun c => c = q ∨ c = b) fun _ z => .inr z).trans k6
    refine hnx _ k56 ⟨k5.trans k56, ⟨nn, by rw [upd_ne hqb.symm]; exact g1, by rw [upd_ne hqa.symm]; exact g2⟩, b6, b8, _, bs' ++ [x], (((S5.mono oq w6).cast (C' := W0 K (Lp L q)) rfl rfl).step hM2 k6).cast rfl rfl, upd_same, ?_, fun y hy => ?_, by rw [List.length_append]; simp; omega⟩
    · rw [List.map_append]
      exact DTs.step hM2 k6 ((DTs.mono oq w6 rx5).snoc r6)
    · rcases List.mem_append.mp hy with h | h
      · exact hb5 y h
      · rw [List.mem_singleton.mp h]; exact hx
  refine s_forN oq (M := fun c => c = q ∨ c = b) (ds := bs.map Bd.d) (e_var oq S4 rfl) PvL hM2
    (fun H' w' => ⟨w'.1.mono fun _ z => .inr z, w'.2 bx4, .un, .un, [], [], S4.mono oq w', w'.1.lst hqb hq4, .nil, (fun x h => by cases h), Nat.le_refl _⟩) (fun H5 w5 i d v σ6 H6 hi rd6 k56 ⟨k6, bx6, b6, b8, xs, bs', S6, hq6, rx6, hb6, hl6⟩ => ?_) (fun H5 w5 σ6 H6 k56 ⟨k6, bx6, b6, b8, xs, bs', S6, hq6, rx6, hb6, hl6⟩ => ?_)
  · rw [List.getElem?_map] at hi
    cases hx : bs[i]? with
    | none => rw [hx] at hi; cases hi
    | some x =>
      rw [hx] at hi
      cases hi
      have hxm := hbs x (List.mem_of_getElem? hx)
      have hil : i < bs.length := (List.getElem?_eq_some_iff.mp hx).1
      have S7 := S6.putD (i := 6) rd6
      have un6 := k6.un un4
      refine s_ifZ oq (t_zor oq (t_test oq (e_eqD oq (shaped_rg x.r) (shaped_rg r) (e_slT oq (n := 5) (ds := x.key ++ [oi x.least]) (e_var oq S7 rfl)) (e_var oq S7 rfl))) fun _ => tz_of (t_zand oq (t_test oq (e_eqI oq (e_var oq S7 rfl) (e_int oq))) fun _ => t_zB (z_cmp oq (z_drawI (.inl hb) bx6 S7 rfl (by decide)) (z_int (P := fun _ => True) (e_int oq) trivial)))) (fun _ H8 w8 => ?_) (fun _ H8 w8 => ?_)
      · have S8 := S7.mono oq w8
        have bx8 := w8.2 bx6
        have un8 := oq.un w8 un6
        refine app (k6.trans (w8.1.mono fun _ z => .inr z)) bx8 S8 (w8.1.lst hqb hq6) (DTs.mono oq w8 rx6) hb6 hl6 (by omega) (z_imp (z_cat oq (ds := x.key) (Zs := zCons (fun d => ∃ l : Option Int, d = oi l) zNil) (e_slT oq (n := 7) (ds := x.key ++ [oi x.least]) (e_var oq S8 rfl)) (z_tup oq (az_cons oq (z_ixL oq (ds := [.none, .int 0, .int 0, .int 1, .int 2, oi x.least]) (Z := fun d => ∃ l : Option Int, d = oi l) (e_lst oq un8 (a_cons oq (e_non oq) (a_cons oq (e_int oq) (a_cons oq (e_int oq) (a_cons oq (e_int oq) (a_cons oq (e_int oq) (a_cons oq (e_ixT oq (i := 7) (ds := x.key ++ [oi x.least]) (e_var oq S8 rfl) (e_int oq) rfl) (a_nil oq)))))))) (z_drawI (.inl hb) bx8 S8 rfl (by decide)) (fun e he => by
          simp only [List.mem_cons, List.not_mem_nil, or_false] at he
          rcases he with rfl | rfl | rfl | rfl | rfl | rfl
          · exact ⟨none, rfl⟩
          · exact ⟨some 0, rfl⟩
          · exact ⟨some 0, rfl⟩
          · exact ⟨some 1, rfl⟩
          · exact ⟨some 2, rfl⟩
          · exact ⟨_, rfl⟩)) (az_nil oq)) (fun ds hz => by
            obtain ⟨_, _, rfl, _, rfl⟩ := hz
            show 1 ≤ 1000
            decide)) (fun es hz => by
            obtain ⟨_, _, rfl, _, rfl⟩ := hz
            show 7 + 1 ≤ 1000
            decide)) fun d hz => by
            obtain ⟨_, ⟨_, _, rfl, ⟨l, rfl⟩, rfl⟩, rfl⟩ := hz
            exact ⟨{ x with least := l }, ⟨hxm.ins, hxm.at_⟩, rfl⟩) fun H' kk pv => ⟨(k56.trans (w8.1.mono fun _ z => .inr z)).trans kk, pv⟩
      · exact ⟨k56.trans (w8.1.mono fun _ z => .inr z), k6.trans (w8.1.mono fun _ z => .inr z), w8.2 bx6, _, _, xs, bs', S7.mono oq w8, w8.1.lst hqb hq6, DTs.mono oq w8 rx6, hb6, by omega⟩
  · rw [List.length_map] at hl6
    show tFor _ _ _ _ _ _
    refine s_forTN oq (M := fun c => c = q ∨ c = b) (ds := forb.map Rg.d) (e_ixT oq (i := 1) (d := .tuple (forb.map Rg.d)) (e_var oq S6 rfl) (e_int oq) rfl) (fun i => PvL (bs.length + i)) hM2
      (fun H' w' => ⟨k6.trans (w'.1.mono fun _ z => .inr z), w'.2 bx6, b6, b8, xs, bs', S6.mono oq w', w'.1.lst hqb hq6, DTs.mono oq w' rx6, hb6, hl6⟩) (fun H7 w7 i d v σ8 H8 hi rd8 k78 ⟨k8, bx8, b6, b8, xs, bs', S8, hq8, rx8, hb8, hl8⟩ => ?_) (fun H7 w7 σ8 H8 k78 ⟨k8, bx8, b6, b8, xs, bs', S8, hq8, rx8, hb8, hl8⟩ => ?_)
    · rw [List.getElem?_map] at hi
      cases hx : forb[i]? with
      | none => rw [hx] at hi; cases hi
      | some x =>
        rw [hx] at hi
        cases hi
        have hxm := hfi x (List.mem_of_getElem? hx)
        have hil : i < forb.length := (List.getElem?_eq_some_iff.mp hx).1
        have S9 := S8.putD (i := 8) rd8
        refine app k8 bx8 S9 hq8 rx8 hb8 hl8 (by omega) (z_imp (z_cat oq (ds := x.ns.map .int) (Zs := zCons (fun d => d = .none) (zCons (fun d => d = .none) (zCons (zI fun _ => True) zNil))) (e_var oq S9 rfl) (z_tup oq (az_cons oq (z_eq (e_non oq)) (az_cons oq (z_eq (e_non oq)) (az_cons oq (z_imp (z_drawI (.inl hb) bx8 S9 rfl (by decide)) fun d ⟨i, e, _⟩ => ⟨i, e, trivial⟩) (az_nil oq)))) (fun ds hz => by
            obtain ⟨_, _, rfl, rfl, _, _, rfl, rfl, _, _, rfl, _, rfl⟩ := hz
            show 3 ≤ 1000
            decide)) (fun es hz => by
            obtain ⟨_, _, rfl, rfl, _, _, rfl, rfl, _, _, rfl, _, rfl⟩ := hz
            show 5 + 3 ≤ 1000
            decide)) fun d hz => by
            obtain ⟨_, ⟨_, _, rfl, rfl, _, _, rfl, rfl, _, _, rfl, ⟨l, rfl, _⟩, rfl⟩, rfl⟩ := hz
            exact ⟨⟨x, none, some l⟩, ⟨hxm, fun s o h => by cases h⟩, rfl⟩) fun H' kk pv => ⟨k78.trans kk, pv⟩
    · rw [List.length_map] at hl8
      have kH := kend k8
      have uL : ∀ c, L c → H8 c ≠ none := kH.un hL
      have oL := w0 K L
      have SF : Sl (W0 K L) H8 _ _ := ((S8.cast (C' := W0 K (Lp L q)) rfl rfl).lessL (N := L) fun c l => .inl l).reda (i := 7) rfl (DT.lst hqL hq8 (DTs.less (fun c l => .inl l) rx8) : DT K L H8 (.ref q) (.list (bs'.map Bd.d)))
      refine s_ret oL (e_catL uL (ds := bs'.map Bd.d) (es := [(⟨r, some (90, 0), none⟩ : Bd).d, (⟨r, some (0, 90), none⟩ : Bd).d]) (e_var oL SF rfl) (e_lst oL uL (a_cons oL (e_cat oL (ds := r.ns.map .int) (es := [.int 90, .int 0, .none]) (e_var oL SF rfl) (e_tup oL (a_cons oL (e_int oL) (a_cons oL (e_int oL) (a_cons oL (e_non oL) (a_nil oL))))) (by show 5 + 3 ≤ 1000; decide)) (a_cons oL (e_cat oL (ds := r.ns.map .int) (es := [.int 0, .int 90, .none]) (e_var oL SF rfl) (e_tup oL (a_cons oL (e_int oL) (a_cons oL (e_int oL) (a_cons oL (e_non oL) (a_nil oL))))) (by show 5 + 3 ≤ 1000; decide)) (a_nil oL)))) (by rw [List.length_map]; show bs'.length + 2 ≤ _; omega)) fun v9 H9 w9 r9 => ?_
      rw [show [(⟨r, some (90, 0), none⟩ : Bd).d, (⟨r, some (0, 90), none⟩ : Bd).d] = [(⟨r, some (90, 0), none⟩ : Bd), ⟨r, some (0, 90), none⟩].map Bd.d from rfl, ← List.map_append] at r9
      refine k v9 H9 _ ⟨_, fun x hx => ?_, ?_, rfl⟩ (kH.trans (w9.mono fun _ z => z.elim)) (bx8.keep w9 (fun z => z.elim) (fun z => z.elim)) r9
      · rcases List.mem_append.mp hx with h | h
        · exact hb8 x h
        · simp only [List.mem_cons, List.not_mem_nil, or_false] at h
          rcases h with rfl | rfl
          · exact ⟨gi, fun s o h => by cases h; decide⟩
          · exact ⟨gi, fun s o h => by cases h; decide⟩
      · rw [List.length_append]
        show bs'.length + 2 ≤ 2000
        omega
end
end SR

/-! Gmr: the grammars as the law makes them. -/
namespace SR
open PySem PySem.Spec PyProof.Rows L2
section
variable {Q : Plc → Prop}
mutual
theorem walkC_all : ∀ (c : Ch) (st : Pl), (∀ x ∈ st.places, Q x) → c.All Q → ∀ x ∈ (walkC c st).2.places, Q x
  | .place p l m c, st, h, hc => by
    unfold walkC
    intro x hx
    rcases List.mem_append.mp hx with hx | hx
    · exact h x hx
    · rw [List.mem_singleton.mp hx]; exact hc
  | .seq cs, st, h, hc => by
    unfold walkC
    exact walkS_all cs st _ h hc
  | .alt cs, st, h, hc => by
    unfold walkC
    exact walkA_all cs st _ h hc
  | .any c, st, h, hc => by
    unfold walkC
    exact walkC_all c st h hc
  | .some c, st, h, hc => by
    unfold walkC
    exact walkC_all c st h hc
  | .maybe c, st, h, hc => by
    unfold walkC
    exact walkC_all c st h hc
theorem walkS_all : ∀ (cs : List Ch) (st : Pl) (w : Wk), (∀ x ∈ st.places, Q x) → Ch.Alls Q cs → ∀ x ∈ (walkS cs st w).2.places, Q x
  | [], st, w, h, hc => by
    unfold walkS
    exact h
  | c :: cs, st, w, h, hc => by
    unfold walkS
    exact walkS_all cs _ _ (walkC_all c st h hc.1) hc.2
theorem walkA_all : ∀ (cs : List Ch) (st : Pl) (w : Wk), (∀ x ∈ st.places, Q x) → Ch.Alls Q cs → ∀ x ∈ (walkA cs st w).2.places, Q x
  | [], st, w, h, hc => by
    unfold walkA
    exact h
  | c :: cs, st, w, h, hc => by
    unfold walkA
    exact walkA_all cs _ _ (walkC_all c st h hc.1) hc.2
end
end
theorem nodup_dedup : ∀ (ks st : List Kst), st ≠ [] → (ks.foldl (fun st k => if k ∈ st then st else st ++ [k]) st) ≠ []
  | [], st, h => h
  | x :: r, st, h => by
    rw [List.foldl_cons]
    refine nodup_dedup r _ ?_
    split
    · exact h
    · simp
/-- a machine's bounds -/
structure MchOk (n : Nat) (M : Mch) : Prop where
  mv : Mvs M.moves
  e1 : 1 ≤ M.ends.length
  e5 : M.ends.length ≤ 5
  g : ∀ m ∈ M.moves, 0 ≤ m.p ∧ m.p < (n : Int) ∧ 0 ≤ m.o ∧ m.o < (M.ends.length : Int) ∧ m.t < (M.ends.length : Int) ∧ 0 ≤ m.c ∧ m.c ≤ 2
  out : ∀ s : Int, (M.moves.filter fun m => decide (m.o = s)).length ≤ 4
theorem movesTo_out (keys states : List Kst) (places : List Plc) (h4 : ∀ k ∈ states, k.2.length ≤ 4) : ∀ i : Nat, (∀ m ∈ movesTo keys states places i, 0 ≤ m.o ∧ m.o < (i : Int)) ∧ ∀ s : Int, ((movesTo keys states places i).filter fun m => decide (m.o = s)).length ≤ 4
  | 0 => ⟨fun m hm => (by simp [movesTo] at hm), fun s => Nat.zero_le _⟩
  | i + 1 => by
    obtain ⟨ha, hb⟩ := movesTo_out keys states places h4 i
    rw [movesTo_succ]
    have hl : (states.getD i (false, [])).2.length ≤ 4 := by
      rw [List.getD_eq_getElem?_getD]
      cases e : states[i]? with
      | none => exact Nat.zero_le _
      | some k => exact h4 k (List.mem_of_getElem? e)
    refine ⟨fun m hm => ?_, fun s => ?_⟩
    · rcases List.mem_append.mp hm with hm | hm
      · have := ha m hm; omega
      · obtain ⟨n, _, rfl⟩ := List.mem_map.mp hm
        show 0 ≤ (i : Int) ∧ (i : Int) < ((i + 1 : Nat) : Int)
        omega
    · rw [List.filter_append, List.length_append]
      by_cases hs : s = (i : Int)
      · have h1 : ((movesTo keys states places i).filter fun m => decide (m.o = s)) = [] := by
          rw [List.filter_eq_nil_iff]
          intro m hm
          have := ha m hm
          simp only [decide_eq_true_eq]
          omega
        rw [h1]
        have h2 := List.length_filter_le (fun m : Mv => decide (m.o = s)) (((states.getD i (false, [])).2).map fun n => movesOf keys states places i n)
        rw [List.length_map] at h2
        simp only [List.length_nil]
        omega
      · have h1 : ((((states.getD i (false, [])).2).map fun n => movesOf keys states places i n).filter fun m => decide (m.o = s)) = [] := by
          rw [List.filter_eq_nil_iff]
          intro m hm
          obtain ⟨n, _, rfl⟩ := List.mem_map.mp hm
          simp only [decide_eq_true_eq]
          show ¬ (i : Int) = s
          omega
        rw [h1]
        exact hb s
theorem movesTo_len (keys states : List Kst) (places : List Plc) (h4 : ∀ k ∈ states, k.2.length ≤ 4) : ∀ i : Nat, (movesTo keys states places i).length ≤ 4 * i
  | 0 => Nat.le_refl _
  | i + 1 => by
    rw [movesTo_succ, List.length_append, List.length_map]
    have := movesTo_len keys states places h4 i
    have hl : (states.getD i (false, [])).2.length ≤ 4 := by
      rw [List.getD_eq_getElem?_getD]
      cases e : states[i]? with
      | none => exact Nat.zero_le _
      | some k => exact h4 k (List.mem_of_getElem? e)
    omega
theorem mach_ok {n : Nat} {c : Ch} (hc : ChOk n 3 4 c) : MchOk n (mach c) := by
  have h0 : Pl.Ok ⟨[], [[]]⟩ := ⟨rfl, fun l hl => by rw [List.mem_singleton.mp hl]; exact NumL.nil _⟩
  have r := walkC_ok c ⟨[], [[]]⟩ h0
  have hall := walkC_all (Q := PlcOk n) c ⟨[], [[]]⟩ (fun x h => by cases h) hc.all
  have hcnt := hc.cnt
  have hlen : (walkC c ⟨[], [[]]⟩).2.places.length = c.cnt := by rw [r.len]; exact Nat.zero_add _
  unfold mach
  generalize walkC c ⟨[], [[]]⟩ = wr at r hall hlen
  obtain ⟨wk, st⟩ := wr
  dsimp only at r hall hlen ⊢
  have so2 := r.so.link (lasts := [0]) r.wk.f
  have fl := so2.len
  have fn := so2.num
  show MchOk n ⟨(dedup (keysTo wk.e wk.l (linkF st.fol [0] wk.f) (linkF st.fol [0] wk.f).length)).map (·.1), movesTo (keysTo wk.e wk.l (linkF st.fol [0] wk.f) (linkF st.fol [0] wk.f).length) (dedup (keysTo wk.e wk.l (linkF st.fol [0] wk.f) (linkF st.fol [0] wk.f).length)) st.places (dedup (keysTo wk.e wk.l (linkF st.fol [0] wk.f) (linkF st.fol [0] wk.f).length)).length⟩
  have fl : (linkF st.fol [0] wk.f).length = st.places.length + 1 := fl
  have fn : ∀ l ∈ linkF st.fol [0] wk.f, NumL st.places.length l := fn
  generalize linkF st.fol [0] wk.f = fol at fl fn
  have klen : (keysTo wk.e wk.l fol fol.length).length = fol.length := by unfold keysTo; rw [List.length_map, List.length_range]
  have kst : ∀ k ∈ keysTo wk.e wk.l fol fol.length, NumL st.places.length k.2 := fun k hk => by
    unfold keysTo at hk
    obtain ⟨i, hi, rfl⟩ := List.mem_map.mp hk
    have hi := List.mem_range.mp hi
    have hg : NumL st.places.length (fol.getD i []) := by
      rw [List.getD_eq_getElem?_getD, List.getElem?_eq_getElem hi]
      exact fn _ (List.getElem_mem hi)
    exact ⟨(sortI_perm _).nodup_iff.mpr hg.nd, fun x hx => hg.rg x ((sortI_perm _).mem_iff.mp hx)⟩
  generalize keysTo wk.e wk.l fol fol.length = keys at klen kst
  have dm := dedup_mem keys
  have dl : (dedup keys).length ≤ keys.length := by have := dedup_len keys []; simpa [dedup] using this
  have d1 : 1 ≤ (dedup keys).length := by
    cases keys with
    | nil => simp at klen; omega
    | cons k ks =>
      have : k ∈ dedup (k :: ks) := (dm k).mpr List.mem_cons_self
      exact List.length_pos_of_mem this
  generalize dedup keys = states at dm dl d1
  have sst : ∀ k ∈ states, NumL st.places.length k.2 := fun k hk => kst k ((dm k).mp hk)
  have s4 : ∀ k ∈ states, k.2.length ≤ 4 := fun k hk => by have := (sst k hk).len; omega
  obtain ⟨oa, ob⟩ := movesTo_out keys states st.places s4 states.length
  have ml := movesTo_len keys states st.places s4 states.length
  -- each move
  have each : ∀ m ∈ movesTo keys states st.places states.length, ∃ (s : Nat) (x : Plc), s < states.length ∧ PlcOk n x ∧ m.o = s ∧ 0 ≤ m.t ∧ m.t < (states.length : Int) ∧ m.p = x.p ∧ m.l = x.l ∧ m.m = x.m ∧ m.c = x.c := fun m hm => by
    unfold movesTo at hm
    obtain ⟨s, hs, hm⟩ := List.mem_flatMap.mp hm
    have hs := List.mem_range.mp hs
    obtain ⟨i, hi, rfl⟩ := List.mem_map.mp hm
    have hi' : i ∈ (states[s]).2 := by
      rw [List.getD_eq_getElem?_getD, List.getElem?_eq_getElem hs] at hi
      exact hi
    obtain ⟨h1, h2⟩ := (sst _ (List.getElem_mem hs)).rg i hi'
    have hpl : (i - 1).toNat < st.places.length := by omega
    have hkl : i.toNat < keys.length := by omega
    refine ⟨s, st.places.getD (i - 1).toNat ⟨0, 0, 0, 0⟩, hs, ?_, rfl, ?_, ?_, rfl, rfl, rfl, rfl⟩
    · rw [List.getD_eq_getElem?_getD, List.getElem?_eq_getElem hpl]
      exact hall _ (List.getElem_mem hpl)
    · show (0 : Int) ≤ (states.idxOf (keys.getD i.toNat (false, [])) : Nat)
      omega
    · show ((states.idxOf (keys.getD i.toNat (false, [])) : Nat) : Int) < _
      have : states.idxOf (keys.getD i.toNat (false, [])) < states.length := by
        rw [List.idxOf_lt_length_iff]
        rw [List.getD_eq_getElem?_getD, List.getElem?_eq_getElem hkl]
        exact (dm _).mpr (List.getElem_mem hkl)
      omega
  refine ⟨⟨?_, fun m hm => ?_, fun m hm => ?_⟩, ?_, ?_, fun m hm => ?_, ob⟩
  · show (movesTo keys states st.places states.length).length ≤ 1000
    omega
  · obtain ⟨s, x, hs, ⟨q1, q2, q3, q4, q5, q6, q7⟩, e1, e2, e3, e4, e5, e6, e7⟩ := each m hm
    omega
  · obtain ⟨s, x, hs, ⟨q1, q2, q3, q4, q5, q6, q7⟩, e1, e2, e3, e4, e5, e6, e7⟩ := each m hm
    omega
  · show 1 ≤ (states.map (·.1)).length
    rw [List.length_map]
    exact d1
  · show (states.map (·.1)).length ≤ 5
    rw [List.length_map]
    omega
  · obtain ⟨s, x, hs, ⟨q1, q2, q3, q4, q5, q6, q7⟩, e1, e2, e3, e4, e5, e6, e7⟩ := each m hm
    show 0 ≤ m.p ∧ m.p < (n : Int) ∧ 0 ≤ m.o ∧ m.o < ((states.map (·.1)).length : Nat) ∧ m.t < ((states.map (·.1)).length : Nat) ∧ 0 ≤ m.c ∧ m.c ≤ 2
    rw [List.length_map]
    omega
theorem machsOf_get {ps : List Pt} {i : Nat} {p : Pt} (h : ps[i]? = some p) : (machsOf ps)[i]? = some (if p.isStrip then some (mach p.ch) else none) := by
  unfold machsOf
  rw [List.getElem?_map, h]
  rfl
section
variable {ps : List Pt} {m : Nat} (g : GoodPs ps m)
include g
theorem GoodPs.leafAt {i : Nat} {p : Pt} (h : ps[i]? = some p) (hs : p.isStrip = false) : i < m ∧ LeafOk p := by
  rcases Nat.lt_or_ge i m with c | c
  · exact ⟨c, (g.to i p h).1 c⟩
  · obtain ⟨ac, nm, j, c, rfl, _⟩ := (g.to i p h).2 c
    cases hs
theorem GoodPs.stripAt {i : Nat} {p : Pt} (h : ps[i]? = some p) (hs : p.isStrip = true) : m ≤ i ∧ ChOk i 3 4 p.ch ∧ MchOk i (mach p.ch) := by
  rcases Nat.lt_or_ge i m with c | c
  · have := ((g.to i p h).1 c).1.ns
    rw [hs] at this
    cases this
  · obtain ⟨ac, nm, j, ch, rfl, hc⟩ := (g.to i p h).2 c
    exact ⟨c, hc, mach_ok hc⟩
theorem GoodPs.ok : PsOk ps := g.to.ok (by have := g.l1; have := g.lo; omega) (by have := g.l2; have := g.hi; omega)
theorem GoodPs.gram : Gram ps (machsOf ps) := by
  refine ⟨by unfold machsOf; rw [List.length_map], by have := g.l2; have := g.hi; omega, fun i p h hs => ?_, fun i p h hs => ?_⟩
  · rw [machsOf_get h, hs]
    exact ⟨rfl, (g.leafAt h hs).2.1⟩
  · have hm := (g.stripAt h hs).2.2
    rw [machsOf_get h, hs]
    exact ⟨_, rfl, hm.mv, hm.e1, hm.e5, hm.g⟩
theorem GoodPs.two : Two ps := ⟨m, g.hi, g.l2, fun i p h => ⟨fun hs => (g.stripAt h hs).1, fun hm => by
  cases e : p.isStrip with
  | true => rfl
  | false => have := (g.leafAt h e).1; omega⟩⟩
theorem GoodPs.ch : ∀ p ∈ ps, p.isStrip = true → p.ch.dep ≤ 3 ∧ p.ch.cnt ≤ 50 := fun p hp hs => by
  obtain ⟨i, hi, e⟩ := List.getElem_of_mem hp
  obtain ⟨_, hc, _⟩ := g.stripAt (by rw [List.getElem?_eq_getElem hi, e]) hs
  exact ⟨hc.dep, by have := hc.cnt; omega⟩
theorem GoodPs.out {i : Nat} {p : Pt} {M : Mch} (h : ps[i]? = some p) (hM : (machsOf ps)[i]? = some (some M)) (s : Int) : (M.moves.filter fun m => decide (m.o = s)).length ≤ 4 := by
  rw [machsOf_get h] at hM
  cases hs : p.isStrip with
  | false => rw [hs] at hM; cases hM
  | true =>
    rw [hs] at hM
    cases hM
    exact (g.stripAt h hs).2.2.out s
end
theorem sum_filter_le {α : Type} (f : α → Nat) (p : α → Bool) (n : Nat) : ∀ l : List α, (∀ x ∈ l, f x ≤ n) → (∀ x ∈ l, p x = false → f x = 0) → (l.map f).sum ≤ (l.filter p).length * n
  | [], _, _ => by simp
  | x :: l, h, h2 => by
    rw [List.map_cons, List.sum_cons]
    have h1 := h x List.mem_cons_self
    have h3 := sum_filter_le f p n l (fun y hy => h y (List.mem_cons_of_mem _ hy)) fun y hy => h2 y (List.mem_cons_of_mem _ hy)
    cases e : p x with
    | true =>
      rw [List.filter_cons_of_pos e, List.length_cons, Nat.add_mul, Nat.one_mul]
      omega
    | false =>
      rw [List.filter_cons_of_neg (by rw [e]; exact Bool.false_ne_true), h2 x List.mem_cons_self e]
      omega
/-- a region of one pixel has few readings -/
theorem cN_one {ps : List Pt} {k : Nat} (g : GoodPs ps k) : ∀ (n : Nat) (r : Rg), r.p.toNat < n → 0 ≤ r.p → r.p < (ps.length : Int) → r.w = 1 → r.h = 1 → cN ps (machsOf ps) r ≤ 4 ^ (r.p.toNat + 1 - k)
  | 0, r, h, _, _, _, _ => absurd h (by omega)
  | n + 1, r, h, h0, h1, hw, hh => by
    have G := g.gram
    obtain ⟨p, hp⟩ : ∃ p, ps[r.p.toNat]? = some p := ⟨ps[r.p.toNat]'(by omega), List.getElem?_eq_getElem _⟩
    have hpos : 1 ≤ 4 ^ (r.p.toNat + 1 - k) := Nat.one_le_pow _ _ (by decide)
    cases hs : p.isStrip with
    | false =>
      rw [cN_leaf G hp hs]
      split <;> omega
    | true =>
      obtain ⟨M, hM, _⟩ := G.strip _ p hp hs
      obtain ⟨_, gm, _, _, gg⟩ := G.mch hp hM
      have hk := (g.stripAt hp hs).1
      have hext : p.ext r = 1 := by unfold Pt.ext; split <;> assumption
      rw [cN_strip G hp hM, hext]
      have hz : ∀ t : Int, spN' ps (machsOf ps) p M r 0 t ≤ 1 := fun t => by
        unfold spN'
        rw [spC_eq gm]
        have hb : baseN M 0 t ≤ 1 := by unfold baseN; split <;> omega
        have : (M.moves.map (stepN (cN ps (machsOf ps)) (spC (cN ps (machsOf ps)) p M r (p.ext r).toNat) p r (p.ext r).toNat 0 t)).sum ≤ M.moves.length * 0 := sum_le' _ 0 _ fun m hm => by
          have := gm.g m hm
          unfold stepN
          split
          · have e : m.sizes ((0 : Nat) : Int) = [] := by
              unfold Mv.sizes
              rw [show (min m.m ((0 : Nat) : Int) + 1 - m.l).toNat = 0 by omega]
              rfl
            rw [e]
            exact Nat.le_refl _
          · exact Nat.le_refl _
        omega
      show spN' ps (machsOf ps) p M r 1 0 ≤ _
      unfold spN' at hz ⊢
      rw [spC_eq gm]
      have hb : baseN M 1 0 = 0 := rfl
      rw [hb, Nat.zero_add]
      have hout := g.out hp hM 0
      have hsum := sum_filter_le (stepN (cN ps (machsOf ps)) (spC (cN ps (machsOf ps)) p M r (p.ext r).toNat) p r (p.ext r).toNat 1 0) (fun m => decide (m.o = 0)) (4 ^ (r.p.toNat - k)) M.moves (fun m hm => by
        obtain ⟨a1, a2, a3⟩ := gm.g m hm
        obtain ⟨q0, q1, _⟩ := gg m hm
        unfold stepN
        split
        · by_cases hl : m.l = 1
          · have e : m.sizes ((1 : Nat) : Int) = [1] := by
              unfold Mv.sizes
              rw [show (min m.m ((1 : Nat) : Int) + 1 - m.l).toNat = 1 by omega, hl]
              rfl
            rw [e]
            simp only [List.map_cons, List.map_nil, List.sum_cons, List.sum_nil, Nat.add_zero]
            have hz' := hz m.t
            have ih := cN_one g n (p.piece r ((((p.ext r).toNat : Nat) : Int) - (1 : Nat)) m.p 1) (by rw [piece_p]; omega) (by rw [piece_p]; exact q0) (by rw [piece_p]; omega) (by unfold Pt.piece; split; rfl; exact hw) (by unfold Pt.piece; split; exact hh; rfl)
            rw [piece_p] at ih
            have hpow : 4 ^ (m.p.toNat + 1 - k) ≤ 4 ^ (r.p.toNat - k) := Nat.pow_le_pow_right (by decide) (by omega)
            have := Nat.mul_le_mul hz' (Nat.le_trans ih hpow)
            rw [Nat.one_mul] at this
            exact this
          · have e : m.sizes ((1 : Nat) : Int) = [] := by
              unfold Mv.sizes
              rw [show (min m.m ((1 : Nat) : Int) + 1 - m.l).toNat = 0 by omega]
              rfl
            rw [e]
            exact Nat.zero_le _
        · exact Nat.zero_le _) (fun m hm e => by
          unfold stepN
          rw [if_neg (of_decide_eq_false e)])
      refine Nat.le_trans hsum ?_
      rw [show r.p.toNat + 1 - k = (r.p.toNat - k) + 1 by omega, Nat.pow_succ, Nat.mul_comm]
      exact Nat.mul_le_mul_left _ hout
theorem cN_one16 {ps : List Pt} {k : Nat} (g : GoodPs ps k) {r : Rg} (h0 : 0 ≤ r.p) (h1 : r.p < (ps.length : Int)) (hw : r.w = 1) (hh : r.h = 1) : cN ps (machsOf ps) r ≤ 16 := by
  have h := cN_one g (r.p.toNat + 1) r (by omega) h0 h1 hw hh
  have : 4 ^ (r.p.toNat + 1 - k) ≤ 4 ^ 2 := Nat.pow_le_pow_right (by decide) (by have := g.l2; omega)
  omega
end SR

/-! Snd: whatever certifies is true. -/
namespace SR
open PySem PySem.Spec PyProof.Rows L2
theorem atMost_trans {a b : Option Int} {c : Option Int} (h1 : atMost a b = true) (h2 : atMost b c = true) : atMost a c = true := by
  cases c with
  | none => rfl
  | some c =>
    cases b with
    | none => cases h2
    | some b =>
      cases a with
      | none => cases h1
      | some a =>
        simp only [atMost, decide_eq_true_eq] at h1 h2 ⊢
        omega
theorem atMost_sum {c x y u v : Int} {a b : Option Int} (h1 : atMost a (some u) = true) (h2 : atMost b (some v) = true) : atMost (sumOf c a b) (some (c + u + v)) = true := by
  cases a with
  | none => cases h1
  | some a =>
    cases b with
    | none => cases h2
    | some b =>
      simp only [atMost, sumOf, decide_eq_true_eq] at h1 h2 ⊢
      omega
theorem kyOf_inj {r r' : Rg} {a a' : Option (Int × Int)} (h : kyOf r a = kyOf r' a') : r = r' ∧ a = a' := by
  obtain ⟨p, x, y, w, hh⟩ := r
  obtain ⟨p', x', y', w', hh'⟩ := r'
  unfold kyOf at h
  simp only [List.cons.injEq, Option.some.injEq, and_true] at h
  obtain ⟨rfl, rfl, rfl, rfl, rfl, h1, h2⟩ := h
  refine ⟨rfl, ?_⟩
  cases a with
  | none =>
    cases a' with
    | none => rfl
    | some a' => cases h1
  | some a =>
    cases a' with
    | none => cases h1
    | some a' =>
      obtain ⟨a1, a2⟩ := a
      obtain ⟨b1, b2⟩ := a'
      simp only [Option.map_some, Option.some.injEq] at h1 h2
      rw [h1, h2]
theorem boundOf_cases (bs : List Bd) (r : Rg) (at_ : Option (Int × Int)) : boundOf bs (kyOf r at_) = some 0 ∨ ∃ b ∈ bs, b.r = r ∧ b.at_ = at_ ∧ boundOf bs (kyOf r at_) = b.least := by
  unfold boundOf
  cases e : bs.find? fun b => decide (b.ky = kyOf r at_) with
  | none => exact .inl rfl
  | some b =>
    have h1 := List.mem_of_find?_eq_some e
    have h2 := List.find?_some e
    have h2 := of_decide_eq_true h2
    obtain ⟨h3, h4⟩ := kyOf_inj h2
    exact .inr ⟨b, h1, h3, h4, rfl⟩
/-- the cost of the rows -/
def costRows (ps : List Pt) (ms : List (Option Mch)) (rows : List Str) (p : Pt) (M : Mch) (r : Rg) (l : List (Nat × Int × Rd)) (o : Int) : Int := movedRows ms l r.p + ((leavesOf ps (regRows ps ms p M r l o)).map (leafC ps rows)).sum
theorem costR_leaf {ps : List Pt} {ms : List (Option Mch)} {rows : List Str} (G : Gram ps ms) {r : Rg} {p : Pt} (hp : ps[r.p.toNat]? = some p) (hs : p.isStrip = false) : costR ps ms rows (.mk []) r = leafCost p r rows := by
  unfold costR
  rw [regs_leaf G hp hs, movedR, movedRows]
  have e : leavesOf ps [r] = [r] := by
    unfold leavesOf
    rw [List.filter_cons_of_pos (by unfold stripR; rw [hp]; simp [hs])]
    rfl
  rw [e]
  simp only [List.map_cons, List.map_nil, List.sum_cons, List.sum_nil]
  unfold leafC
  rw [hp]
  show 0 + (leafCost p r rows + 0) = _
  omega
theorem costR_strip {ps : List Pt} {ms : List (Option Mch)} {rows : List Str} {r : Rg} {p : Pt} {M : Mch} {l : List (Nat × Int × Rd)} (hp : ps[r.p.toNat]? = some p) (hs : p.isStrip = true) (hM : ms[r.p.toNat]? = some (some M)) : costR ps ms rows (.mk l) r = costRows ps ms rows p M r l 0 := by
  unfold costR costRows
  rw [regs_strip hp hM, movedR]
  have e : leavesOf ps (r :: regRows ps ms p M r l 0) = leavesOf ps (regRows ps ms p M r l 0) := by
    unfold leavesOf
    rw [List.filter_cons_of_neg (by unfold stripR; rw [hp]; simp [hs])]
  rw [e]
theorem costRows_cons {ps : List Pt} {ms : List (Option Mch)} {rows : List Str} {r : Rg} {p : Pt} {M : Mch} {n : Nat} {m : Mv} {z o : Int} {rd : Rd} {l : List (Nat × Int × Rd)} (hM : ms[r.p.toNat]? = some (some M)) (hm : M.moves[n]? = some m) :
    costRows ps ms rows p M r ((n, z, rd) :: l) o = m.c + costR ps ms rows rd (p.piece r o m.p z) + costRows ps ms rows p M r l (o + z) := by
  unfold costRows costR
  rw [movedRows_cons hM hm, regRows_cons hm, piece_p]
  unfold leavesOf
  rw [List.filter_append, List.map_append, List.sum_append]
  omega
theorem costRows_nil {ps : List Pt} {ms : List (Option Mch)} {rows : List Str} {r : Rg} {p : Pt} {M : Mch} {o : Int} : costRows ps ms rows p M r [] o = 0 := by
  unfold costRows
  rw [movedRows, regRows]
  rfl
theorem allowedL_app {ps : List Pt} {fixed forb a b : List Rg} (h : allowedL ps fixed forb (a ++ b) = true) : allowedL ps fixed forb a = true ∧ allowedL ps fixed forb b = true := by
  unfold allowedL at h ⊢
  rw [List.all_append, Bool.and_eq_true] at h
  exact h
theorem allowedL_cons {ps : List Pt} {fixed forb b : List Rg} {x : Rg} {p : Pt} (hp : ps[x.p.toNat]? = some p) (h : allowedL ps fixed forb (x :: b) = true) : allowedB p x fixed forb = true ∧ allowedL ps fixed forb b = true := by
  unfold allowedL at h ⊢
  rw [List.all_cons, Bool.and_eq_true, hp] at h
  exact h
theorem leafC_ge {p : Pt} {x : Rg} {rows : List Str} (h : 0 ≤ p.cost) : 0 ≤ leafCost p x rows := by
  unfold leafCost
  omega
/-- no reading costs less than nothing -/
theorem cost_pos {ps : List Pt} {ms : List (Option Mch)} {R0 : Rg} (G : Gram ps ms) (hc : ∀ p ∈ ps, p.isStrip = false → 0 ≤ p.cost) (rows : List Str) : ∀ (n : Nat) (r : Rg) (rd : Rd), r.p.toNat < n → 0 ≤ r.p → RdOk ps ms r rd → 0 ≤ costR ps ms rows rd r
  | 0, _, _, h, _, _ => absurd h (by omega)
  | n + 1, r, rd, h, h0, hok => by
    cases hok with
    | @leaf _ p hp hs hf =>
      rw [costR_leaf G hp hs]
      exact leafC_ge (hc p (List.mem_of_getElem? hp) hs)
    | @strip _ p M l hp hM hr =>
      obtain ⟨hs, gm, _, _, gg⟩ := G.mch hp hM
      rw [costR_strip hp hs hM]
      have each : ∀ (l : List (Nat × Int × Rd)) (s o : Int), RsOk ps ms p M r s o l → 0 ≤ costRows ps ms rows p M r l o := fun l => by
        induction l with
        | nil => intro s o _; rw [costRows_nil]; exact Int.le_refl _
        | cons y l ih =>
          intro s o hr
          cases hr with
          | @cons _ _ _ _ _ k m z rd' _ hm h2 h3 h4 h5 h6 h7 =>
            obtain ⟨q0, q1, _, _, _, q5, _⟩ := gg m (List.mem_of_getElem? hm)
            rw [costRows_cons hM hm]
            have h8 := cost_pos (R0 := R0) G hc rows n (p.piece r o m.p z) rd' (by rw [piece_p]; omega) (by rw [piece_p]; exact q0) h6
            have := ih _ _ h7
            omega
      exact each l 0 0 hr
/-- the bounds of all regions of a reading are at most its cost -/
theorem sound {ps : List Pt} {ms : List (Option Mch)} {rows : List Str} {fixed forb : List Rg} {bs : List Bd} (G : Gram ps ms) (hc : ∀ p ∈ ps, p.isStrip = false → 0 ≤ p.cost) (hb : ∀ b ∈ bs, rightBound ps ms rows fixed forb bs b = true) :
    ∀ (n : Nat) (r : Rg) (rd : Rd), r.p.toNat < n → 0 ≤ r.p → RdOk ps ms r rd → allowedL ps fixed forb (regs ps ms rd r) = true → atMost (boundOf bs (kyOf r none)) (some (costR ps ms rows rd r)) = true
  | 0, _, _, h, _, _, _ => absurd h (by omega)
  | n + 1, r, rd, h, h0, hok, ha => by
    have hpos := cost_pos (R0 := r) G hc rows (n + 1) r rd h h0 hok
    rcases boundOf_cases bs r none with e | ⟨b, hbm, hbr, hba, e⟩
    · rw [e]
      simp only [atMost, decide_eq_true_eq]
      exact hpos
    rw [e]
    have hrb := hb b hbm
    unfold rightBound at hrb
    rw [hbr, hba] at hrb
    cases hok with
    | @leaf _ p hp hs hf =>
      rw [regs_leaf G hp hs] at ha
      obtain ⟨ha, _⟩ := allowedL_cons hp ha
      rw [costR_leaf G hp hs]
      rw [hp] at hrb
      simp only [hs, Bool.not_false, if_true, Option.isSome_none, Bool.false_or] at hrb
      unfold rightLeaf at hrb
      rw [ha, hf] at hrb
      simpa using hrb
    | @strip _ p M l hp hM hr =>
      obtain ⟨hs, gm, _, _, gg⟩ := G.mch hp hM
      rw [regs_strip hp hM] at ha
      obtain ⟨ha, hal⟩ := allowedL_cons hp ha
      rw [costR_strip hp hs hM]
      rw [hp] at hrb
      simp only [hs, Bool.not_true, Bool.false_eq_true, if_false] at hrb
      rw [ha] at hrb
      simp only [Bool.not_true, Bool.false_or] at hrb
      refine atMost_trans hrb ?_
      have each : ∀ (l : List (Nat × Int × Rd)) (s o : Int), RsOk ps ms p M r s o l → allowedL ps fixed forb (regRows ps ms p M r l o) = true → 0 ≤ costRows ps ms rows p M r l o ∧ atMost (boundOf bs (kyOf r (some (s, o)))) (some (costRows ps ms rows p M r l o)) = true := fun l => by
        induction l with
        | nil =>
          intro s o hr _
          rw [costRows_nil]
          refine ⟨Int.le_refl _, ?_⟩
          cases hr with
          | nil ho he h1 h2 =>
            rcases boundOf_cases bs r (some (s, o)) with e | ⟨b, hbm, hbr, hba, e⟩
            · rw [e]; rfl
            · rw [e]
              have hrb := hb b hbm
              unfold rightBound at hrb
              rw [hbr, hba, hp, hM] at hrb
              simp only [hs, Bool.not_true, Bool.false_eq_true, if_false] at hrb
              unfold rightSpot at hrb
              rw [if_neg (by rw [decide_eq_false (by omega)]; exact Bool.false_ne_true), ← ho, he] at hrb
              cases hl : decide (b.least = some 0) with
              | true => rw [of_decide_eq_true hl]; rfl
              | false =>
                rw [hl] at hrb
                simp at hrb
        | cons y l ih =>
          intro s o hr hal
          cases hr with
          | @cons _ _ _ _ _ k m z rd' _ hm h2 h3 h4 h5 h6 h7 =>
            obtain ⟨q0, q1, q2, q3, q4, q5, _⟩ := gg m (List.mem_of_getElem? hm)
            rw [regRows_cons hm] at hal
            obtain ⟨hal1, hal2⟩ := allowedL_app hal
            rw [costRows_cons hM hm]
            have hpn : (p.piece r o m.p z).p.toNat < n := by rw [piece_p]; omega
            have hp0 : 0 ≤ (p.piece r o m.p z).p := by rw [piece_p]; exact q0
            have h8 := cost_pos (R0 := r) G hc rows n (p.piece r o m.p z) rd' hpn hp0 h6
            have h9 := sound G hc hb n (p.piece r o m.p z) rd' hpn hp0 h6 hal1
            obtain ⟨h10, h11⟩ := ih _ _ h7 hal2
            refine ⟨by omega, ?_⟩
            rcases boundOf_cases bs r (some (s, o)) with e | ⟨b, hbm, hbr, hba, e⟩
            · rw [e]
              simp only [atMost, decide_eq_true_eq]
              omega
            · rw [e]
              have hrb := hb b hbm
              unfold rightBound at hrb
              rw [hbr, hba, hp, hM] at hrb
              simp only [hs, Bool.not_true, Bool.false_eq_true, if_false] at hrb
              unfold rightSpot at hrb
              rw [if_neg (by rw [decide_eq_false (by omega)]; exact Bool.false_ne_true)] at hrb
              split at hrb
              · cases hrb
              · rw [List.all_eq_true] at hrb
                have hz := hrb (k, z) (mem_looks.mpr ⟨m, hm, h2, h3, by omega⟩)
                unfold spotOk at hz
                rw [hm] at hz
                exact atMost_trans hz (atMost_sum (x := 0) (y := 0) h9 h11)
      exact (each l 0 0 hr hal).2
theorem wrongIn_le (p : Pt) (r : Rg) (rows : List Str) (y n : Nat) : wrongIn p r rows y n ≤ n := by
  unfold wrongIn
  have := sum_le' (fun x : Nat => if pixB rows (r.x + x) (r.y + y) != p.pix x y then 1 else 0) 1 (List.range n) fun x _ => by split <;> omega
  rw [List.length_range] at this
  omega
theorem wrongs_le (p : Pt) (r : Rg) (rows : List Str) (m : Nat) : wrongs p r rows m ≤ m * r.w.toNat := by
  unfold wrongs
  have := sum_le' (fun y : Nat => wrongIn p r rows y r.w.toNat) r.w.toNat (List.range m) fun y _ => wrongIn_le p r rows y _
  rw [List.length_range] at this
  exact this
def capN : Nat → Int
  | 0 => 3
  | n + 1 => 6 * (2 + capN n)
theorem capN_pos : ∀ n, 3 ≤ capN n
  | 0 => by decide
  | n + 1 => by have := capN_pos n; unfold capN; omega
/-- no reading costs much -/
theorem cost_le {ps : List Pt} {ms : List (Option Mch)} {R0 : Rg} (G : Gram ps ms) (g : Page ps R0) (hc : ∀ p ∈ ps, p.isStrip = false → p.cost ≤ 3) (rows : List Str) : ∀ (n : Nat) (r : Rg) (rd : Rd), r.p.toNat < n → Ins ps R0 r → RdOk ps ms r rd → costR ps ms rows rd r ≤ capN n
  | 0, _, _, h, _, _ => absurd h (by omega)
  | n + 1, r, rd, h, hin, hok => by
    have hcap := capN_pos n
    cases hok with
    | @leaf _ p hp hs hf =>
      rw [costR_leaf G hp hs]
      have h1 := hc p (List.mem_of_getElem? hp) hs
      have h2 := wrongs_le p r rows r.h.toNat
      have := g.w; have := g.h; have := hin.x0; have := hin.x1; have := hin.y0; have := hin.y1; have := hin.w0; have := hin.h0
      have h3 : r.h.toNat * r.w.toNat ≤ 4 * 6 := Nat.mul_le_mul (by omega) (by omega)
      unfold leafCost capN
      omega
    | @strip _ p M l hp hM hr =>
      obtain ⟨hs, gm, _, _, gg⟩ := G.mch hp hM
      rw [costR_strip hp hs hM]
      have hx := hin.ext g p
      have hl := hr.len gm
      have each : ∀ (l : List (Nat × Int × Rd)) (s o : Int), 0 ≤ o → RsOk ps ms p M r s o l → costRows ps ms rows p M r l o ≤ l.length * (2 + capN n) := fun l => by
        induction l with
        | nil => intro s o _ _; rw [costRows_nil]; simp
        | cons y l ih =>
          intro s o ho hr
          cases hr with
          | @cons _ _ _ _ _ k m z rd' _ hm h2 h3 h4 h5 h6 h7 =>
            obtain ⟨q0, q1, _, _, _, q5, q6⟩ := gg m (List.mem_of_getElem? hm)
            have hml := (gm.g m (List.mem_of_getElem? hm)).1
            rw [costRows_cons hM hm]
            have h8 := cost_le G g hc rows n (p.piece r o m.p z) rd' (by rw [piece_p]; omega) (hin.piece G hp hM (List.mem_of_getElem? hm) ho (by omega) h5) h6
            have := ih _ _ (by omega) h7
            rw [List.length_cons, show ((l.length + 1 : Nat) : Int) = (l.length : Int) + 1 by omega, Int.add_mul, Int.one_mul]
            omega
      have h1 := each l 0 0 (Int.le_refl _) hr
      have h2 : (l.length : Int) * (2 + capN n) ≤ 6 * (2 + capN n) := Int.mul_le_mul_of_nonneg_right (by omega) (by omega)
      unfold capN
      omega
theorem cost_mil {ps : List Pt} {ms : List (Option Mch)} {R0 : Rg} (G : Gram ps ms) (g : Page ps R0) (hc : ∀ p ∈ ps, p.isStrip = false → p.cost ≤ 3) (rows : List Str) {r : Rg} {rd : Rd} (hin : Ins ps R0 r) (hok : RdOk ps ms r rd) : costR ps ms rows rd r ≤ 1000000 := by
  have := G.few
  have := hin.p0
  have := hin.p1
  have h := cost_le G g hc rows 6 r rd (by omega) hin hok
  exact Int.le_trans h (by decide)
/-! what the answers may be -/
theorem certB_mono {ps : List Pt} {r : Rg} {rows : List Str} {fixed forb : List Rg} {bs : List Bd} {c d : Int} (h : certB ps r rows fixed forb bs (some d) = true) (hcd : c ≤ d) : certB ps r rows fixed forb bs (some c) = true := by
  unfold certB at h ⊢
  split at h
  · cases h
  · rename_i hn
    rw [if_neg hn]
    refine atMost_trans ?_ h
    simp only [atMost, decide_eq_true_eq]
    exact hcd
theorem certB_le {ps : List Pt} {r : Rg} {rows : List Str} {fixed forb : List Rg} {bs : List Bd} {c : Option Int} {rd : Rd} (G : Gram ps (machsOf ps)) (hc : ∀ p ∈ ps, p.isStrip = false → 0 ≤ p.cost) (h0 : 0 ≤ r.p) (hok : RdOk ps (machsOf ps) r rd) (ha : allowedL ps fixed forb (regs ps (machsOf ps) rd r) = true) (h : certB ps r rows fixed forb bs c = true) : atMost c (some (costR ps (machsOf ps) rows rd r)) = true := by
  unfold certB at h
  split at h
  · cases h
  · rename_i hn
    have hb : ∀ b ∈ bs, rightBound ps (machsOf ps) rows fixed forb bs b = true := by
      rw [← List.all_eq_true]
      simpa using hn
    exact atMost_trans h (sound G hc hb (r.p.toNat + 1) r rd (by omega) h0 hok ha)
end SR

namespace SR
open PySem PySem.Spec PyProof.Rows L2
theorem Sl.more1 {K : PySem.W.Frag} {L : Addr → Prop} {b : Addr} {H : Hp} {σ : L2.St} {ρ : List Ds} (S : Sl (W0 K L) H σ ρ) (hb : H b = none) : Sl (W0 K (Lp L b)) H σ ρ := S.to fun _ _ h => DT.more (M := Lp L b) (fun c z => z.elim .inl fun e => .inr (by rw [e]; exact hb)) h
/-- a new box -/
theorem e_newBox {K : PySem.W.Frag} {L : Addr → Prop} {H : Hp} {σ : L2.St} {ρ : List Ds} {i : Nat} {sa : Addr} {zs : List Int} {x y : Nat} (hL : ∀ c, L c → H c ≠ none) (hs : Scr K H sa zs) (S : Sl (W0 K L) H σ ρ) (hi : ρ[i]? = some (.va (.ref sa))) (hx : x ≤ 1000) (hy : y ≤ 1000) :
    EvP (W0 K L) (tLst (tCons (tCall (spDigits K) [] E0 (tCons (tVar i) (tCons (tC (.int (x : Nat))) (tCons (tC (.int (y : Nat))) tNil)))) (tCons (tC (.int 0)) tNil))) σ H fun v H' => ∃ b a ds, v = .ref b ∧ H b = none ∧ H a = none ∧ BoxAt H' b a ds := fun H1 w1 Q q =>
  ⟨_, S.va hi, L, sa, zs, x, y, rfl, hx, hy, w1.un hL, hs.keep w1, fun p ds H' k hp hp' => ⟨by show 2 ≤ sizeLine; rw [sizeLine_eq]; decide, fun b hb => by
    have ne : p ≠ b := fun e => by rw [← e, hp'] at hb; cases hb
    exact q _ _ (k.trans (Kp.new hb)) ⟨b, p, ds, rfl, (w1.trans k).free hb, w1.free hp, 0, upd_same, by rw [upd_ne ne]; exact hp'⟩⟩⟩
def spWorld (K : PySem.W.Frag) : Sp := fun vs H Q _ => ∃ (L : Addr → Prop) (sa : Addr) (zs : List Int), vs = [.ref sa, .int 100] ∧ (∀ c, L c → H c ≠ none) ∧ Scr K H sa zs ∧
  ∀ (q b a t : Addr) (ds : List Int) (v1 v2 v3 v4 : V) (ps : List Pt) (m : Nat) (r : Rg) (rds : List Rd) (H' : Hp), Kp No H H' → H q = none → H' q = some (.lst [v1, v2, v3, v4, .ref t, .ref b]) → H b = none → H a = none → BoxAt H' b a ds → DT K (Lp L b) H' v1 (pts ps) → DT K (Lp L b) H' v2 (mcs (machsOf ps)) → DT K (Lp L b) H' v3 r.d → DT K (Lp L b) H' v4 (.list (rds.map Rd.d)) →
    GoodPs ps m → Page ps r → 0 ≤ r.x → r.x ≤ 10 → 0 ≤ r.y → r.y ≤ 10 → (∀ rd ∈ rds, RdOk ps (machsOf ps) r rd) → rds.length ≤ 100 → Q (.ref q) H'
section
variable {P : Program} {w : World} {K : PySem.W.Frag} {mg : Str → Option Value} {base : Heap}
abbrev N__law_world : List Str := ["_law_script", "_law_limit", "_law_box", "_law_parts_here", "_law_ways", "_law_width", "_law_height", "_law_place_here", "_law_table", "_law_turn", "_law_region_here", "_law_readings"]
abbrev s__law_world : Stmt := top 71
theorem sc__law_world : FnScope ["_law_script", "_law_limit", "_law_box", "_law_parts_here", "_law_ways", "_law_width", "_law_height", "_law_place_here", "_law_table", "_law_turn", "_law_region_here", "_law_readings"] ["_law_script", "_law_limit"] (defScope s__law_world) := ⟨rfl, rfl, rfl, by decide +kernel, rfl, by decide +kernel, by decide +kernel⟩
theorem ok__law_world (F : DefA K mg "_law_world" s__law_world) (B : Blt mg) (c__law_digits : C8.Cal P w K mg base 2 "_law_digits" (spDigits K) []) (c__law_draw : C8.Cal P w K mg base 1 "_law_draw" (spDraw K) []) (c__law_parts : C8.Cal P w K mg base 6 "_law_parts" (spB K R_law_parts) []) (c_machines : C8.Cal P w K mg base 12 "machines" (spD K Rmachines) []) (c__law_count : C8.Cal P w K mg base 14 "_law_count" (spCount K 6) []) (c__law_all : C8.Cal P w K mg base 51 "_law_all" (spAll K 6) []) : C8.Cal P w K mg base 52 "_law_world" (spWorld K) [] := by
  refine cal_by F sc__law_world rfl rfl rfl (fun _ _ _ _ _ _ us hl => match us, hl with | [_, _], _ => rfl) (fun vs H Q E ⟨_, _, _, e, _⟩ => by rw [e]; rfl) fun f cdv A outer s H vs Q E hr h => ?_
  obtain ⟨L, sa, zsS, rfl, hL, hs, k⟩ := h
  have hu4 : _ + 64 < cLine := hr.units
  have hu5 := u65 hr
  refine ⟨_, (pss_c (ps_set (i := 2) sc__law_world.nd rfl (Or.inl rfl) (pe_lst (pa_cons (C8.pe_c c__law_digits hr (by omega) rfl (pa_cons (pv 0) (pa_cons pe_int (pa_cons pe_int pa_nil)))) (pa_cons pe_int pa_nil))))
  (pss_c (ps_set (i := 3) sc__law_world.nd rfl (Or.inl rfl) (C8.pe_c c__law_parts hr (by omega) rfl (pa_cons (pv 2) (pa_cons pe_int (pa_cons (pe_op op_add pe_int (C8.pe_c c__law_draw hr (by omega) rfl (pa_cons (pv 2) (pa_cons pe_int pa_nil)))) pa_nil)))))
  (pss_c (ps_set (i := 4) sc__law_world.nd rfl (Or.inl rfl) (C8.pe_c c_machines hr (by omega) rfl (pa_cons (pv 3) pa_nil)))
  (pss_c (ps_set (i := 2) sc__law_world.nd rfl (Or.inl rfl) (pe_lst (pa_cons (C8.pe_c c__law_digits hr (by omega) rfl (pa_cons (pv 0) (pa_cons pe_int (pa_cons pe_int pa_nil)))) (pa_cons pe_int pa_nil))))
  (pss_c (ps_set (i := 5) sc__law_world.nd rfl (Or.inl rfl) (pe_op op_add pe_int (C8.pe_c c__law_draw hr (by omega) rfl (pa_cons (pv 2) (pa_cons pe_int pa_nil)))))
  (pss_c (ps_set (i := 6) sc__law_world.nd rfl (Or.inl rfl) (pe_op op_add pe_int (C8.pe_c c__law_draw hr (by omega) rfl (pa_cons (pv 2) (pa_cons pe_int pa_nil)))))
  (pss_c (ps_set (i := 7) sc__law_world.nd rfl (Or.inl rfl) (pe_ix ix_seq (pe_lst (pa_cons (pe_lst (pa_cons pe_int (pa_cons pe_int pa_nil))) (pa_cons (pe_lst (pa_cons pe_int (pa_cons pe_int pa_nil))) (pa_cons (pe_lst (pa_cons pe_int (pa_cons pe_int pa_nil))) (pa_cons (pe_lst (pa_cons pe_int (pa_cons pe_int pa_nil))) pa_nil))))) (C8.pe_c c__law_draw hr (by omega) rfl (pa_cons (pv 2) (pa_cons pe_int pa_nil))) (fun _ _ => rfl)))
  (pss_c (ps_set (i := 8) sc__law_world.nd rfl (Or.inl rfl) pe_dnewT)
  (pss_c (ps_for PassesOwn.never rfl (pi_range1 (by rfl) B.range (pa_cons pe_int pa_nil)) (pg_name (i := 9) sc__law_world.nd rfl (Or.inl rfl)) (pss_c (ps_set (i := 10) sc__law_world.nd rfl (Or.inl rfl) (pe_tup (pa_cons (pe_op op_sub (pe_callB call_len (by rfl) B.len PySem.boot_len (pa_cons (pv 3) pa_nil)) pe_int) (pa_cons (pe_ix ix_seq (pv 7) pe_int (fun _ _ => rfl)) (pa_cons (pe_ix ix_seq (pv 7) pe_int (fun _ _ => rfl)) (pa_cons (pv 5) (pa_cons (pv 6) pa_nil)))))))
  (pss_one (ps_if (pt_cmpR op_gt (C8.pe_c c__law_count hr (by omega) rfl (pa_cons (pv 3) (pa_cons (pv 4) (pa_cons (pv 10) (pa_cons (pv 8) pa_nil))))) (pv 1) (nomark _)) (pss_one (ps_if (pt_cmpR op_ge (pv 5) (pv 6) (nomark _)) (pss_one (ps_set (i := 5) sc__law_world.nd rfl (Or.inl rfl) (pe_op op_sub (pv 5) pe_int))) (pss_one (ps_set (i := 6) sc__law_world.nd rfl (Or.inl rfl) (pe_op op_sub (pv 6) pe_int))))) pss_nil))))
  (pss_c (ps_set (i := 11) sc__law_world.nd rfl (Or.inl rfl) (C8.pe_c c__law_all hr (by omega) rfl (pa_cons (pv 3) (pa_cons (pv 4) (pa_cons (pv 10) (pa_cons (pv 8) pa_nil))))))
  (pss_one (ps_ret (pe_lst (pa_cons (pv 3) (pa_cons (pv 4) (pa_cons (pv 10) (pa_cons (pv 11) (pa_cons (pv 8) (pa_cons (pv 2) pa_nil))))))))))))))))))), ?_⟩
  have o := w0 K L
  have S : Sl (W0 K L) H (start N__law_world [.ref sa, .int 100]) [.va (.ref sa), .da (.int 100), .un, .un, .un, .un, .un, .un, .un, .un, .un, .un] := .cons (s := .va _) rfl (.cons ⟨_, rfl, .int _⟩ (Sl.ofD (vs := []) (ds := []) 10 .nil))
  refine s_set o (e_newBox hL hs S rfl (x := 0) (y := 16) (by decide) (by decide)) fun v1 H1 w1 hz => ?_
  obtain ⟨b1, a1, z1, rfl, hb1, ha1, bx1⟩ := hz
  have o1 : (Wb K (Lp L b1) b1 a1 z1).Ok := wb K (.inr rfl)
  have S1 : Sl (Wb K (Lp L b1) b1 a1 z1) H1 _ _ := (((S.more1 hb1).mono (w0 K (Lp L b1)) w1).putV (i := 2) (v := .ref b1)).cast rfl rfl
  have un1 : ∀ c, Lp L b1 c → H1 c ≠ none := fun c z => by
    rcases z with z | rfl
    · exact w1.un hL c z
    · obtain ⟨_, z, _⟩ := bx1; rw [z]; exact fun z => by cases z
  -- the parts
  refine s_set o1 (z_callB (.inr rfl) un1 bx1 S1 rfl (az_cons o1 (z_eq (e_int o1)) (az_cons o1 (z_op0 o1 (R := fun i => 1 ≤ i ∧ i ≤ 2) (z_int (P := fun i => i = 1) (e_int o1) rfl) (z_drawI (.inr rfl) bx1 S1 rfl (by decide)) (fun i j h1 h2 => by omega)) (az_nil o1))) (Z := fun d => ∃ (ps : List Pt) (m : Nat), GoodPs ps m ∧ d = pts ps) (R := R_law_parts) fun ds hz => ?_) fun v2 H2 w2 hz => ?_
  · obtain ⟨_, _, rfl, rfl, _, _, rfl, ⟨n, rfl, hn1, hn2⟩, rfl⟩ := hz
    obtain ⟨n, rfl⟩ : ∃ k : Nat, n = (k : Int) := ⟨n.toNat, by omega⟩
    exact ⟨n, by omega, by omega, rfl, rfl⟩
  obtain ⟨_, ⟨ps, m, good, rfl⟩, r2⟩ := hz
  have S2 := (S1.mono o1 w2).putD (i := 3) r2
  have k02 : Kp No H H2 := w1.loc hb1 w2.1
  have un2 := o1.un w2 un1
  have G := good.gram
  have hfew := G.few
  have hlo := good.lo
  have hl1 := good.l1
  refine s_set o1 (e_call o1 un2 (a_cons o1 (e_var o1 S2 rfl) (a_nil o1)) ⟨ps, by omega, good.ch, rfl, rfl⟩) fun v3 H3 w3 r3 => ?_
  have S3 := ((S2.mono o1 w3).putD (i := 4) r3).cast (C' := W0 K (Lp L b1)) rfl rfl
  have k03 : Kp No H H3 := w1.loc hb1 (w2.1.trans w3.1)
  have un3 := o1.un w3 un2
  -- the second box
  refine s_set (w0 K (Lp L b1)) (e_newBox un3 (hs.keep k03) S3 rfl (x := 16) (y := 28) (by decide) (by decide)) fun v4 H4 w4 hz => ?_
  obtain ⟨b2, a2, z2, rfl, hb2, ha2, bx4⟩ := hz
  have o2 : (Wb K (Lp (Lp L b1) b2) b2 a2 z2).Ok := wb K (.inr rfl)
  have S4 : Sl (Wb K (Lp (Lp L b1) b2) b2 a2 z2) H4 _ _ := (((S3.more1 hb2).mono (w0 K (Lp (Lp L b1) b2)) w4).putV (i := 2) (v := .ref b2)).cast rfl rfl
  have k04 : Kp No H H4 := k03.trans w4
  have un4 : ∀ c, Lp (Lp L b1) b2 c → H4 c ≠ none := fun c z => by
    rcases z with z | rfl
    · exact w4.un un3 c z
    · obtain ⟨_, z, _⟩ := bx4; rw [z]; exact fun z => by cases z
  refine s_set o2 (z_op0 o2 (R := fun i => 1 ≤ i ∧ i ≤ 6) (z_int (P := fun i => i = 1) (e_int o2) rfl) (z_drawI (.inr rfl) bx4 S4 rfl (by decide)) (fun i j h1 h2 => by omega)) fun v5 H5 w5 hz => ?_
  obtain ⟨_, ⟨wd0, rfl, hw1, hw6⟩, r5⟩ := hz
  have S5 := (S4.mono o2 w5).putD (i := 5) r5
  have bx5 := w5.2 bx4
  refine s_set o2 (z_op0 o2 (R := fun i => 1 ≤ i ∧ i ≤ 4) (z_int (P := fun i => i = 1) (e_int o2) rfl) (z_drawI (.inr rfl) bx5 S5 rfl (by decide)) (fun i j h1 h2 => by omega)) fun v6 H6 w6 hz => ?_
  obtain ⟨_, ⟨hg0, rfl, hh1, hh4⟩, r6⟩ := hz
  have S6 := (S5.mono o2 w6).putD (i := 6) r6
  have bx6 := w6.2 bx5
  have w46 := o2.trans w5 w6
  have un6 := o2.un w46 un4
  refine s_set o2 (z_ixL o2 (ds := [.list [.int 0, .int 0], .list [.int 0, .int 0], .list [.int 1, .int 0], .list [.int 2, .int 3]]) (Z := fun d => ∃ x y : Int, d = .list [.int x, .int y] ∧ 0 ≤ x ∧ x ≤ 10 ∧ 0 ≤ y ∧ y ≤ 10) (e_lst o2 un6 (a_cons o2 (e_lst o2 un6 (a_cons o2 (e_int o2) (a_cons o2 (e_int o2) (a_nil o2)))) (a_cons o2 (e_lst o2 un6 (a_cons o2 (e_int o2) (a_cons o2 (e_int o2) (a_nil o2)))) (a_cons o2 (e_lst o2 un6 (a_cons o2 (e_int o2) (a_cons o2 (e_int o2) (a_nil o2)))) (a_cons o2 (e_lst o2 un6 (a_cons o2 (e_int o2) (a_cons o2 (e_int o2) (a_nil o2)))) (a_nil o2)))))) (z_drawI (.inr rfl) bx6 S6 rfl (by decide)) (fun e he => by
    simp only [List.mem_cons, List.not_mem_nil, or_false] at he
    rcases he with rfl | rfl | rfl | rfl
    · exact ⟨0, 0, rfl, by decide⟩
    · exact ⟨0, 0, rfl, by decide⟩
    · exact ⟨1, 0, rfl, by decide⟩
    · exact ⟨2, 3, rfl, by decide⟩)) fun v7 H7 w7 hz => ?_
  obtain ⟨_, ⟨px, py, rfl, hx0, hx1, hy0, hy1⟩, r7⟩ := hz
  have S7 := (S6.mono o2 w7).putD (i := 7) r7
  have bx7 := w7.2 bx6
  have un7 := o2.un w7 un6
  have w47 := o2.trans w46 w7
  have hb0 : H b2 = none := k03.free hb2
  have ha0 : H a2 = none := k03.free ha2
  have k07 : Kp No H H7 := k04.loc hb0 w47.1
  -- the table
  refine s_newD (i := 8) (S7.cast (C' := W0 K (Lp (Lp L b1) b2)) rfl rfl) fun t ht S8 => ?_
  have tb : t ≠ b2 := fun e => by obtain ⟨_, z, _⟩ := bx7; rw [e, z] at ht; cases ht
  have ta : t ≠ a2 := fun e => by obtain ⟨_, _, z⟩ := bx7; rw [e, z] at ht; cases ht
  let L3 : Addr → Prop := Lp (Lp (Lp L b1) b2) t
  have lt : L3 t := .inr rfl
  have un8 : ∀ c, L3 c → upd H7 t (.dT []) c ≠ none := own_un un7 _
  have bx8 : BoxAt (upd H7 t (.dT [])) b2 a2 z2 := bx7.new ht
  have k08 : Kp No H (upd H7 t (.dT [])) := k07.trans (Kp.new ht)
  have ht0 : H t = none := k07.free ht
  let ms := machsOf ps
  let R0 : Rg := ⟨(ps.length : Int) - 1, px, py, wd0, hg0⟩
  let reg : Int → Int → Rg := fun w h => ⟨(ps.length : Int) - 1, px, py, w, h⟩
  have hins : ∀ {w h : Int}, 1 ≤ w → 1 ≤ h → w ≤ wd0 → h ≤ hg0 → Ins ps R0 (reg w h) := fun {w h} h1 h2 h3 h4 => ⟨by show 0 ≤ (ps.length : Int) - 1; omega, by show (ps.length : Int) - 1 < _; omega, Int.le_refl _, by show px + w ≤ px + wd0; omega, Int.le_refl _, by show py + h ≤ py + hg0; omega, h1, h2⟩
  have g : Page ps R0 := ⟨hins hw1 hh1 (Int.le_refl _) (Int.le_refl _), hw6, hh4⟩
  have tab8 : TabC ps ms R0 L3 (upd H7 t (.dT [])) t := ⟨[], upd_same, .nil, fun e he => by cases he⟩
  generalize upd H7 t (.dT []) = H8 at S8 un8 bx8 k08 tab8 ⊢
  have o0 := w0 K L3
  have oW : (Wt K L3 t ps ms R0).Ok := wt K lt
  let ρ : Int → Int → Ds → Ds → List Ds := fun w h b9 b10 => [.va (.ref sa), .da (.int 100), .va (.ref b2), .da (pts ps), .da (mcs ms), .da (.int w), .da (.int h), .da (.list [.int px, .int py]), .va (.ref t), b9, b10, .un]
  refine s_for1 o0 (n := 9) (a_cons o0 (e_int o0) (a_nil o0)) (by omega) (by omega)
    (fun i σ' H' => ∃ (w h : Int) (b9 b10 : Ds), RC K L3 t ps ms R0 H8 H' σ' (ρ w h b9 b10) ∧ 1 ≤ w ∧ 1 ≤ h ∧ w ≤ wd0 ∧ h ≤ hg0 ∧ ((cN ps ms (reg w h) ≤ 100 ∧ b10 = .da (reg w h).d) ∨ w + h + (i : Int) ≤ 10))
    (fun H' w' => ⟨wd0, hg0, .un, .un, ⟨w'.mono fun _ z => z.elim, tab8.keep w' (fun _ z => z.elim) (fun z => z.elim), fun r' h => h.keep w' (fun z => z.elim), S8.mono o0 w'⟩, hw1, hh1, Int.le_refl _, Int.le_refl _, .inr (by omega)⟩)
    (fun i σ9 H9 hi ⟨w, h, b9, b10, C9, h1, h2, h3, h4, hc⟩ => ?_) (fun σ9 H9 ⟨w, h, b9, b10, C9, h1, h2, h3, h4, hc⟩ => ?_)
  · have S10 := C9.sl.putD (i := 9) (.int (i : Int))
    refine s_set o0 (e_tup o0 (ds := [.int ((ps.length : Int) - 1), .int px, .int py, .int w, .int h]) (a_cons o0 (e_sub o0 (i := (ps.length : Int)) (j := 1) (by have := e_lenT o0 (ds := ps.map Pt.d) (e_var o0 S10 (i := 3) rfl); rw [List.length_map] at this; exact this) (e_int o0)) (a_cons o0 (e_ixL o0 (i := 0) (e_var o0 S10 rfl) (e_int o0) rfl) (a_cons o0 (e_ixL o0 (i := 1) (e_var o0 S10 rfl) (e_int o0) rfl) (a_cons o0 (e_var o0 S10 rfl) (a_cons o0 (e_var o0 S10 rfl) (a_nil o0))))))) fun v11 H11 w11 r11 => ?_
    have r11 : Dw (W0 K L3) H11 v11 (reg w h).d := r11
    have C11 := (C9.w0 w11).set ((S10.mono o0 w11).putD (i := 10) r11)
    have SW := C11.sl.cast (C' := Wt K L3 t ps ms R0) rfl rfl
    have un11 : ∀ c, L3 c → H11 c ≠ none := C11.kp.un un8
    have hin := hins h1 h2 h3 h4
    have hpn : (reg w h).p.toNat < 6 := by show ((ps.length : Int) - 1).toNat < 6; omega
    refine s_if oW (t_test oW (e_cmp oW (i := (cN ps ms (reg w h) : Nat)) (j := 100) ((e_callCt (n := 6) un11 lt C11.tab G g hin hpn SW rfl (e_var oW SW rfl) (e_var oW SW rfl) (e_var oW SW rfl)).imp (fun v H' _ e => by rw [e.1]; exact .int _) oW) (e_var oW SW rfl))) (fun c H12 w12 => ?_) (fun c H12 w12 => ?_)
    · have C12 := C11.wt lt w12
      have hbig : (100 : Int) < (cN ps ms (reg w h) : Nat) := of_decide_eq_true c
      have hB : w + h + (i : Int) ≤ 10 := hc.resolve_left fun z => by omega
      have hne : ¬ (w = 1 ∧ h = 1) := fun ⟨e1, e2⟩ => by
        have := cN_one16 (r := reg w h) good hin.p0 hin.p1 e1 e2
        have h16 : cN ps ms (reg w h) ≤ 16 := this
        omega
      have S12 := C12.sl
      refine s_if o0 (t_test o0 (e_cmp o0 (i := w) (j := h) (e_var o0 S12 rfl) (e_var o0 S12 rfl))) (fun c2 H13 w13 => ?_) (fun c2 H13 w13 => ?_)
      · have c2 := of_decide_eq_true c2
        have C13 := C12.w0 w13
        refine s_set o0 (e_sub o0 (i := w) (j := 1) (e_var o0 C13.sl rfl) (e_int o0)) fun v14 H14 w14 r14 => ?_
        exact ⟨w - 1, h, _, _, (C13.w0 w14).set ((C13.sl.mono o0 w14).putD (i := 5) r14), by omega, h2, by omega, h4, .inr (by omega)⟩
      · have c2 := of_decide_eq_false c2
        have C13 := C12.w0 w13
        refine s_set o0 (e_sub o0 (i := h) (j := 1) (e_var o0 C13.sl rfl) (e_int o0)) fun v14 H14 w14 r14 => ?_
        exact ⟨w, h - 1, _, _, (C13.w0 w14).set ((C13.sl.mono o0 w14).putD (i := 6) r14), h1, by omega, h3, by omega, .inr (by omega)⟩
    · have hsm := of_decide_eq_false c
      exact ⟨w, h, _, _, C11.wt lt w12, h1, h2, h3, h4, .inl ⟨by omega, rfl⟩⟩
  · obtain ⟨hsm, rfl⟩ := hc.resolve_right fun z => by
      have : ((9 : Int).toNat : Int) = 9 := rfl
      omega
    have hin := hins h1 h2 h3 h4
    have hpn : (reg w h).p.toNat < 6 := by show ((ps.length : Int) - 1).toNat < 6; omega
    have SW := C9.sl.cast (C' := Wt K L3 t ps ms R0) rfl rfl
    have un9 : ∀ c, L3 c → H9 c ≠ none := C9.kp.un un8
    refine s_set oW (e_callAl (n := 6) un9 lt C9.tab G g hin hpn hsm SW rfl (e_var oW SW rfl) (e_var oW SW rfl) (e_var oW SW rfl)) fun v10 H10 w10 hz => ?_
    obtain ⟨rds, r10, hok, hlen⟩ := hz
    have C10 := (C9.wt lt w10).set (((SW.mono oW w10).cast (C' := W0 K L3) rfl rfl).putD (i := 11) r10)
    have S10 := C10.sl
    obtain ⟨x1, e1, d1⟩ := S10.da (i := 3) rfl
    obtain ⟨x2, e2, d2⟩ := S10.da (i := 4) rfl
    obtain ⟨x3, e3, d3⟩ := S10.da (i := 10) rfl
    obtain ⟨x4, e4, d4⟩ := S10.da (i := 11) rfl
    refine ⟨_, e1, _, e2, _, e3, _, e4, _, S10.va (i := 8) rfl, _, S10.va (i := 2) rfl, by show 6 ≤ sizeLine; rw [sizeLine_eq]; decide, fun q hq => ?_⟩
    have kH : Kp No H H10 := k08.loc ht0 C10.kp
    have knew : Kp No H10 (upd H10 q (.lst [x1, x2, x3, x4, .ref t, .ref b2])) := Kp.new hq
    have dl : ∀ {v : V} {d : PyData}, DT K L3 H10 v d → DT K (Lp L b2) (upd H10 q (.lst [x1, x2, x3, x4, .ref t, .ref b2])) v d := fun h => DT.less (fun c z => z.elim (fun z => .inl (.inl (.inl z))) fun z => .inl (.inr z)) (DT.mono o0 knew h)
    exact k q b2 a2 t z2 x1 x2 x3 x4 ps m (reg w h) rds _ (kH.trans knew) (kH.free hq) upd_same hb0 ha0 ((bx8.keep C10.kp (fun e => tb e.symm) (fun e => ta e.symm)).keep knew (fun z => z.elim) (fun z => z.elim)) (dl d1) (dl d2) (dl d3) (dl d4) good ⟨⟨hin.p0, hin.p1, Int.le_refl _, Int.le_refl _, Int.le_refl _, Int.le_refl _, h1, h2⟩, by show w ≤ 6; omega, by show h ≤ 4; omega⟩ hx0 hx1 hy0 hy1 hok (by omega)
end
end SR

namespace SR
open PySem PySem.Spec PyProof.Rows L2
def spLaw (K : PySem.W.Frag) (Ts : List Addr) : Sp := fun vs H Q _ => ∃ (sa : Addr) (zs : List Int), vs = [.ref sa] ∧ (∀ P ∈ Ts, GxR.TabG H P) ∧ Scr K H sa zs ∧ ∀ H', Q (.bl true) H'
/-- all_bounds(..) called -/
theorem e_callAB {K : PySem.W.Frag} {Ts : List Addr} {L : Addr → Prop} {H : Hp} {σ : L2.St} {tx : TA} {ps : List Pt} {r : Rg} {rows : List Str} {fixed forb : List Rg} (hT : ∀ P ∈ Ts, GxR.TabG H P) (hL : ∀ c, L c → H c ≠ none) (h : Ea (W0 K L) tx σ H [pts ps, r.d, .tuple (rows.map .str), wish fixed forb]) (bp : BtPre ps r rows) (tw : Two ps) :
    EvP (W0 K L) (tCall (spAB K Ts) [] E0 tx) σ H fun v H' => ∃ bs : List Bd, DT K L H' v (.list (bs.map Bd.d)) ∧ bs.length ≤ 1500 ∧ ∀ b ∈ bs, BdOk ps r b := fun H1 w Q q =>
  h H1 w _ fun vs H2 w2 p => ⟨L, ps, r, rows, fixed, forb, fun P hP => (w.trans w2).tab P (hT P hP), (w.trans w2).un hL, by rw [List.append_nil]; exact p, bp, tw, fun v bs H' k' r' hl hb => q v H' (w2.trans k') ⟨bs, r', hl, hb⟩⟩
/-- min(xs) -/
theorem e_minL {K : PySem.W.Frag} {L : Addr → Prop} {H : Hp} {σ : L2.St} {te : TE} {ns : List Int} (h : Ed (W0 K L) te σ H (.list (ns.map .int))) (hn : 0 < ns.length) : EvP (W0 K L) (tCB (rMin K) (tCons te tNil)) σ H fun v H' => ∃ m, v = .int m ∧ m ∈ ns ∧ ∀ y ∈ ns, m ≤ y := fun H1 w Q q =>
  a_cons (w0 K L) h (a_nil (w0 K L)) H1 w _ fun vs H2 w2 p => by
    obtain ⟨v, rfl, r⟩ := p.one
    obtain ⟨a, xs, rfl, _, e, rx⟩ := r.lstI
    have := DTs.intsI rx
    subst this
    exact ⟨a, ns, rfl, SqL.of e, hn, fun m h1 h2 => q _ H2 w2 ⟨m, rfl, h1, h2⟩⟩
theorem ints_of : ∀ {ds : List PyData}, (∀ e ∈ ds, zI (fun _ => True) e) → ∃ ns : List Int, ds = ns.map .int
  | [], _ => ⟨[], rfl⟩
  | d :: ds, h => by
    obtain ⟨i, rfl, _⟩ := h d List.mem_cons_self
    obtain ⟨ns, e⟩ := ints_of fun e he => h e (List.mem_cons_of_mem _ he)
    exact ⟨i :: ns, by rw [e]; rfl⟩
/-- sorted([..]) of numbers drawn -/
theorem e_sortZ {C : Wd} (o : C.Ok) {H : Hp} {σ : L2.St} {te : TE} {n : Nat} (hL : ∀ c, C.L c → H c ≠ none) (h : EZ C te σ H (zL n (zI fun _ => True))) (hn : n < 64) : EvP C (tCB (rSorted C.K) (tCons te tNil)) σ H fun v H' => ∃ l : List Int, l.Pairwise (· ≤ ·) ∧ Dw C H' v (.list (l.map .int)) := fun H1 w Q q =>
  h H1 w _ fun v H2 w2 hz => by
    obtain ⟨_, ⟨ds, rfl, hl, hz⟩, r⟩ := hz
    obtain ⟨ns, rfl⟩ := ints_of hz
    obtain ⟨a, xs, rfl, _, e, rx⟩ := r.lstI
    have := DTs.intsI rx
    subst this
    rw [List.length_map] at hl
    exact ⟨a, ns, rfl, SqL.of e, by omega, fun ns' p _ hs hp => q _ _ (o.trans w2 (o.new hp)) ⟨ns', hs, .lst (fun z => hL p z (o.free (o.trans w w2) hp)) upd_same DTs.ints⟩⟩
/-- isinstance(x, bool) -/
theorem t_isB {C : Wd} (o : C.Ok) {H : Hp} {σ : L2.St} {ρ : List Ds} {i : Nat} {x : Bool} (S : Sl C H σ ρ) (hi : ρ[i]? = some (.da (.bool x))) : Et C (tB (tCB (rIsi C.K) (tCons (tVar i) (tCons (tC (.ty "bool")) tNil)))) σ H true := fun H1 w Q q => by
  obtain ⟨v, e, r⟩ := (S.mono o w).da hi
  rw [r.blI] at e
  exact ⟨_, e, _, _, _, _, true, rfl, .ty "bool", .base (.bl x), kit_ty (by decide +kernel), true, rfl, q true H1 (o.refl _) rfl⟩
/-- a def by its body: the object known -/
theorem fn_by {P : Program} {w : World} {K : PySem.W.Frag} {mg : Str → Option Value} {base : Heap} {x : Str} {st : Stmt} {f : Addr} {fd : FuncData} {N ps : List Str} {k : Nat} {sp : Sp} (F : C8.Def K mg x st f fd) (S : FnScope N ps (defScope st)) (eb : C8.fnBody st = defBody st) (es : C8.fnScope st = defScope st)
    (len : ∀ vs H Q E, sp vs H Q E → vs.length = ps.length)
    (hbody : ∀ (cdv : Value) (A : Around) (outer : List Env) (s : Shared) (H : Hp) (vs : List V) (Q : VK) (E : XK), Room k (A.deeper (envOfC x (defScope st) s.heap.objs.size f cdv)) → sp vs H Q E →
      ∃ t, PSs (cxOf CX0 P w K mg base N x (defScope st) f cdv A outer s H E).nox (defBody st) t ∧ t { nx := fun _ H' => Q .non H', rt := Q } (start N vs) H) : FnOk P w K mg base CX0 (k + 1) f fd ps sp := by
  refine C8.fn0 F.fn (by rw [es]; exact S) len (fun cdv A outer s H vs Q E hr h => ?_)
  rw [es, eb] at *
  exact hbody cdv A outer s H vs Q E hr h
section
variable {P : Program} {w : World} {K : PySem.W.Frag} {mg : Str → Option Value} {base : Heap}
abbrev N_law : List Str := ["_law_script", "_law_parts_here", "_law_ways", "_law_region_here", "_law_readings", "_law_table", "_law_box", "_law_rows", "_law_wishes_here", "_law_costs", "_law_row", "_law_told", "_law_least", "_law_turn", "_law_bounds", "_law_before", "_law_cost_here", "_law_answer"]
abbrev s_law : Stmt := top 80
theorem sc_law : FnScope ["_law_script", "_law_parts_here", "_law_ways", "_law_region_here", "_law_readings", "_law_table", "_law_box", "_law_rows", "_law_wishes_here", "_law_costs", "_law_row", "_law_told", "_law_least", "_law_turn", "_law_bounds", "_law_before", "_law_cost_here", "_law_answer"] ["_law_script"] (defScope s_law) := ⟨rfl, rfl, rfl, by decide +kernel, rfl, by decide +kernel, by decide +kernel⟩
theorem ok_law {Ts : List Addr} {f : Addr} {fd : FuncData} (F : C8.Def K mg "law" s_law f fd) (B : Blt mg) (c__law_world : C8.Cal P w K mg base 52 "_law_world" (spWorld K) []) (c__law_picture : C8.Cal P w K mg base 8 "_law_picture" (spB K R_law_picture) []) (c__law_digits : C8.Cal P w K mg base 2 "_law_digits" (spDigits K) []) (c__law_wishes : C8.Cal P w K mg base 8 "_law_wishes" (spB K R_law_wishes) []) (c__law_found : C8.Cal P w K mg base 9 "_law_found" (spD K R_law_found) []) (c_all_bounds : C8.Cal P w K mg base 14 "all_bounds" (spAB K Ts) []) (c__law_list : C8.Cal P w K mg base 3 "_law_list" (spB K R_law_list) []) (c__law_draw : C8.Cal P w K mg base 1 "_law_draw" (spDraw K) []) (c_certifies : C8.Cal P w K mg base 14 "certifies" (spG K Ts Rcertifies) []) : FnOk P w K mg base CX0 53 f fd ["_law_script"] (spLaw K Ts) := by
  refine fn_by F sc_law rfl rfl (fun vs H Q E ⟨_, _, e, _⟩ => by rw [e]; rfl) fun cdv A outer s H vs Q E hr h => ?_
  obtain ⟨sa, zsS, rfl, hTs, hs, k⟩ := h
  have hu4 : _ + 64 < cLine := hr.units
  have hu5 := u65 hr
  refine ⟨_, (pss_c (ps_asg (C8.pe_c c__law_world hr (by omega) rfl (pa_cons (pv 0) (pa_cons pe_int pa_nil))) (pg_unl rfl (pgs_cons (pg_name (i := 1) sc_law.nd rfl (Or.inl rfl)) (pgs_cons (pg_name (i := 2) sc_law.nd rfl (Or.inl rfl)) (pgs_cons (pg_name (i := 3) sc_law.nd rfl (Or.inl rfl)) (pgs_cons (pg_name (i := 4) sc_law.nd rfl (Or.inl rfl)) (pgs_cons (pg_name (i := 5) sc_law.nd rfl (Or.inl rfl)) (pgs_cons (pg_name (i := 6) sc_law.nd rfl (Or.inl rfl)) pgs_nil))))))))
  (pss_c (ps_set (i := 7) sc_law.nd rfl (Or.inl rfl) (C8.pe_c c__law_picture hr (by omega) rfl (pa_cons (pv 6) (pa_cons (pv 1) (pa_cons (pv 2) (pa_cons (pv 3) (pa_cons (pv 4) pa_nil)))))))
  (pss_c (ps_set (i := 6) sc_law.nd rfl (Or.inl rfl) (pe_lst (pa_cons (C8.pe_c c__law_digits hr (by omega) rfl (pa_cons (pv 0) (pa_cons pe_int (pa_cons pe_int pa_nil)))) (pa_cons pe_int pa_nil))))
  (pss_c (ps_set (i := 8) sc_law.nd rfl (Or.inl rfl) (C8.pe_c c__law_wishes hr (by omega) rfl (pa_cons (pv 6) (pa_cons (pv 1) (pa_cons (pv 2) (pa_cons (pv 3) (pa_cons (pv 4) (pa_cons pe_int pa_nil))))))))
  (pss_c (ps_setLc (i := 9) (own := [("_law_row", 10)]) rfl sc_law.nd rfl rfl (sw_true rfl rfl rfl (by decide +kernel)) (pi_list (C8.pe_c c__law_found hr (by omega) rfl (pa_cons (pv 1) (pa_cons (pv 2) (pa_cons (pv 3) (pa_cons (pv 4) (pa_cons (pv 7) (pa_cons (pv 8) pa_nil)))))))) (blkOk_by (N := N_law) (sc := defScope s_law) (by decide +kernel)) (fun _ _ _ _ _ => (pg_name (i := 10) sc_law.nd rfl (Or.inl rfl))) (fun _ _ _ _ _ => pts_nil) (fun _ _ _ _ _ => (pe_ix (r := rIx K) ix_seq (pv 10) pe_int (fun _ _ => rfl))))
  (pss_c (ps_set (i := 11) sc_law.nd rfl (Or.inl rfl) (C8.pe_c c_all_bounds hr (by omega) rfl (pa_cons (pv 1) (pa_cons (pv 3) (pa_cons (pv 7) (pa_cons (pv 8) pa_nil))))))
  (pss_c (ps_set (i := 6) sc_law.nd rfl (Or.inl rfl) (pe_lst (pa_cons (C8.pe_c c__law_digits hr (by omega) rfl (pa_cons (pv 0) (pa_cons pe_int (pa_cons pe_int pa_nil)))) (pa_cons pe_int pa_nil))))
  (pss_c (ps_set (i := 12) sc_law.nd rfl (Or.inl rfl) (pe_callB (cr_min rfl) (by rfl) B.min (by decide +kernel) (pa_cons (pe_op op_cat (pv 9) (pe_lst (pa_cons (pe_op op_pow pe_int pe_int) pa_nil))) pa_nil)))
  (pss_c (ps_for PassesOwn.never rfl (pi_range1 (by rfl) B.range (pa_cons pe_int pa_nil)) (pg_name (i := 13) sc_law.nd rfl (Or.inl rfl)) (pss_c (ps_set (i := 14) sc_law.nd rfl (Or.inl rfl) (C8.pe_c c__law_list hr (by omega) rfl (pa_cons (pv 6) (pa_cons (pv 11) (pa_cons (pv 3) (pa_cons (pv 8) pa_nil))))))
  (pss_c (ps_set (i := 15) sc_law.nd rfl (Or.inl rfl) pe_bl)
  (pss_c (ps_for PassesOwn.never rfl (pi_list (pe_callB cr_sorted (by rfl) B.sorted (by decide +kernel) (pa_cons (pe_lst (pa_cons (pe_op op_add pe_int (C8.pe_c c__law_draw hr (by omega) rfl (pa_cons (pv 6) (pa_cons pe_int pa_nil)))) (pa_cons (C8.pe_c c__law_draw hr (by omega) rfl (pa_cons (pv 6) (pa_cons pe_int pa_nil))) (pa_cons (pv 12) (pa_cons (pe_op op_add (pv 12) pe_int) pa_nil))))) pa_nil))) (pg_name (i := 16) sc_law.nd rfl (Or.inl rfl)) (pss_c (ps_set (i := 17) sc_law.nd rfl (Or.inl rfl) (C8.pe_c c_certifies hr (by omega) rfl (pa_cons (pv 1) (pa_cons (pv 3) (pa_cons (pv 7) (pa_cons (pv 8) (pa_cons (pv 14) (pa_cons (pv 16) pa_nil))))))))
  (pss_c (ps_if (PW.pt (pw_or (pt_not (pt_val (pe_callB call_isi (by rfl) B.isinstance (by decide +kernel) (pa_cons (pv 17) (pa_cons (pe_bltn (v := .ty "bool") (u := .type "bool") rfl B.bool (by decide +kernel) rfl) pa_nil))))) (pw_or (PW.pt (pw_and (pt_val (pv 17)) (pw_and1 (pt_not (pt_val (pv 15)))))) (pw_or1 (PW.pt (pw_and (pt_val (pv 17)) (pw_and (pt_cmpR op_gt (pv 16) (pv 12) (nomark _)) (pw_and1 (pt_cmpR op_gt (pe_callB call_len (by rfl) B.len PySem.boot_len (pa_cons (pv 9) pa_nil)) pe_int (nomark _)))))))))) (pss_one (ps_ret pe_bl)) pss_nil)
  (pss_one (ps_set (i := 15) sc_law.nd rfl (Or.inl rfl) (pv 17))))))
  (pss_one (ps_if (PW.pt (pw_and (pt_val (C8.pe_c c_certifies hr (by omega) rfl (pa_cons (pv 1) (pa_cons (pv 3) (pa_cons (pv 7) (pa_cons (pv 8) (pa_cons (pv 14) (pa_cons pe_non pa_nil)))))))) (pw_and1 (pt_cmpR op_gt (pe_callB call_len (by rfl) B.len PySem.boot_len (pa_cons (pv 9) pa_nil)) pe_int (nomark _))))) (pss_one (ps_ret pe_bl)) pss_nil))))))
  (pss_one (ps_ret pe_bl))))))))))), ?_⟩
  have S : Sl (W0 K No) H (start N_law [.ref sa]) (.va (.ref sa) :: List.replicate 17 .un) := .cons (s := .va _) rfl (Sl.ofD (vs := []) (ds := []) 17 .nil)
  refine ⟨_, S.va rfl, No, sa, zsS, rfl, (fun _ z => z.elim), hs, fun q b1 a1 t z1 v1 v2 v3 v4 ps m r rds H1 k1 hq hxq hb1 ha1 bx1 d1 d2 d3 d4 good g hx0 hx1 hy0 hy1 hok hlen => ?_⟩
  refine ⟨q, _, rfl, SqL.of hxq, rfl, _, _, rfl, _, _, rfl, _, _, rfl, _, _, rfl, _, _, rfl, _, _, rfl, rfl, ?_⟩
  let ms := machsOf ps
  have G : Gram ps ms := good.gram
  have gi := g.ins
  have o1 : (Wb K (Lp No b1) b1 a1 z1).Ok := wb K (.inr rfl)
  have S1 : Sl (Wb K (Lp No b1) b1 a1 z1) H1 _ _ := ((((((((S.more1 hb1).mono (w0 K (Lp No b1)) k1).putD (i := 1) d1).putD (i := 2) d2).putD (i := 3) d3).putD (i := 4) d4).putV (i := 5) (v := .ref t)).putV (i := 6) (v := .ref b1)).cast rfl rfl
  have un1 : ∀ c, Lp No b1 c → H1 c ≠ none := fun c z => by
    rcases z with z | rfl
    · exact z.elim
    · obtain ⟨_, z, _⟩ := bx1; rw [z]; exact fun z => by cases z
  have hb1' : Lp No b1 b1 := .inr rfl
  -- the picture
  refine s_set o1 (z_callB hb1' un1 bx1 S1 rfl (az_cons o1 (z_eq (e_var o1 S1 rfl)) (az_cons o1 (z_eq (e_var o1 S1 rfl)) (az_cons o1 (z_eq (e_var o1 S1 rfl)) (az_cons o1 (z_eq (e_var o1 S1 rfl)) (az_nil o1))))) (Z := fun d => ∃ rows : List Str, Img rows ∧ d = .tuple (rows.map .str)) (R := R_law_picture) fun ds hz => ?_) fun v5 H2 w2 hz => ?_
  · obtain ⟨_, _, rfl, rfl, _, _, rfl, rfl, _, _, rfl, rfl, _, _, rfl, rfl, rfl⟩ := hz
    exact ⟨ps, ms, r, rds, good.ok, G, g, hx0, hx1, hy0, hy1, hok, rfl, rfl⟩
  obtain ⟨_, ⟨rows, im, rfl⟩, r2⟩ := hz
  have S2 := ((S1.mono o1 w2).putD (i := 7) r2).cast (C' := W0 K (Lp No b1)) rfl rfl
  have k02 : Kp No H H2 := k1.loc hb1 w2.1
  have un2 := o1.un w2 un1
  -- the second box
  refine s_set (w0 K (Lp No b1)) (e_newBox un2 (hs.keep k02) S2 rfl (x := 28) (y := 40) (by decide) (by decide)) fun v6 H3 w3 hz => ?_
  obtain ⟨b2, a2, z2, rfl, hb2, ha2, bx3⟩ := hz
  have o2 : (Wb K (Lp (Lp No b1) b2) b2 a2 z2).Ok := wb K (.inr rfl)
  have S3 : Sl (Wb K (Lp (Lp No b1) b2) b2 a2 z2) H3 _ _ := (((S2.more1 hb2).mono (w0 K (Lp (Lp No b1) b2)) w3).putV (i := 6) (v := .ref b2)).cast rfl rfl
  have k03 : Kp No H H3 := k02.trans w3
  have un3 : ∀ c, Lp (Lp No b1) b2 c → H3 c ≠ none := fun c z => by
    rcases z with z | rfl
    · exact w3.un un2 c z
    · obtain ⟨_, z, _⟩ := bx3; rw [z]; exact fun z => by cases z
  refine s_set o2 (z_callB (.inr rfl) un3 bx3 S3 rfl (az_cons o2 (z_eq (e_var o2 S3 rfl)) (az_cons o2 (z_eq (e_var o2 S3 rfl)) (az_cons o2 (z_eq (e_var o2 S3 rfl)) (az_cons o2 (z_eq (e_var o2 S3 rfl)) (az_cons o2 (z_eq (e_int o2)) (az_nil o2)))))) (Z := fun d => ∃ fixed forb : List Rg, fixed.length ≤ 4 ∧ forb.length ≤ 4 ∧ (∀ x ∈ fixed, Ins ps r x) ∧ (∀ x ∈ forb, Ins ps r x) ∧ d = wish fixed forb) (R := R_law_wishes) fun ds hz => ?_) fun v7 H4 w4 hz => ?_
  · obtain ⟨_, _, rfl, rfl, _, _, rfl, rfl, _, _, rfl, rfl, _, _, rfl, rfl, _, _, rfl, rfl, rfl⟩ := hz
    exact ⟨ps, ms, r, rds, good.ok, G, g, hok, rfl, rfl⟩
  obtain ⟨_, ⟨fixed, forb, hfl, hbl, hfi, hbi, rfl⟩, r4⟩ := hz
  have S4 := ((S3.mono o2 w4).putD (i := 8) r4).cast (C' := W0 K (Lp (Lp No b1) b2)) rfl rfl
  have hb20 : H b2 = none := k02.free hb2
  have k04 : Kp No H H4 := k03.loc hb20 w4.1
  have un4 := o2.un w4 un3
  have oL2 := w0 K (Lp (Lp No b1) b2)
  -- the costs
  generalize hoks : (rds.filter fun rd => allowedL ps fixed forb (regs ps ms rd r)) = oks
  have okm : ∀ rd ∈ oks, RdOk ps ms r rd ∧ allowedL ps fixed forb (regs ps ms rd r) = true := fun rd h => by
    rw [← hoks] at h
    obtain ⟨h1, h2⟩ := List.mem_filter.mp h
    exact ⟨hok rd h1, h2⟩
  have okl : oks.length ≤ 100 := by
    rw [← hoks]
    exact Nat.le_trans (List.length_filter_le _ _) hlen
  have hcgoal : lcF (oks.map fun rd => PyData.tuple [.int (costR ps ms rows rd r), rd.d]).length (fun _ => true) (fun i => .int (costR ps ms rows (oks.getD i (.mk [])) r)) = (oks.map fun rd => costR ps ms rows rd r).map .int := by
    have := lcF_list (Rd.mk []) (fun _ => true) (fun rd => PyData.int (costR ps ms rows rd r)) oks
    rw [List.filter_eq_self.mpr (fun _ _ => rfl)] at this
    rw [List.length_map, this, List.map_map]
    rfl
  refine s_set oL2 (e_lcL (ds := oks.map fun rd => PyData.tuple [.int (costR ps ms rows rd r), rd.d]) (b := fun _ => true) (e := fun i => .int (costR ps ms rows (oks.getD i (.mk [])) r)) un4 (e_call oL2 un4 (a_cons oL2 (e_var oL2 S4 rfl) (a_cons oL2 (e_var oL2 S4 rfl) (a_cons oL2 (e_var oL2 S4 rfl) (a_cons oL2 (e_var oL2 S4 rfl) (a_cons oL2 (e_var oL2 S4 rfl) (a_cons oL2 (e_var oL2 S4 rfl) (a_nil oL2))))))) ⟨ps, ms, r, r, rds, rows, fixed, forb, G, g, gi, hok, by omega, im, rfl, by rw [hoks]⟩) (by rw [List.length_map]; omega) (fun v => wipe_one _ _ _) fun D Ha Hb hD ka kb unD kS i d v hi rdv => ⟨fun H1 w Q q => q true H1 (Kp.refl _ _) rfl, fun _ H2 k2 => ?_⟩) fun v8 H5 w5 r5 => ?_
  · have oD := w0 K (Lp (Lp (Lp No b1) b2) D)
    have SD := ((kS _ S4).putD (i := 10) rdv).mono oD k2
    rw [List.getElem?_map] at hi
    cases hx : oks[i]? with
    | none => rw [hx] at hi; cases hi
    | some x =>
      rw [hx] at hi
      cases hi
      dsimp only
      rw [getD_of hx]
      exact e_ixT oD (i := 0) (e_var oD SD rfl) (e_int oD) rfl
  rw [hcgoal] at r5
  generalize hcs : (oks.map fun rd => costR ps ms rows rd r) = cs at r5
  have S5 := (S4.mono oL2 w5).putD (i := 9) r5
  have k05 : Kp No H H5 := k04.trans w5
  have un5 := w5.un un4
  have bp : BtPre ps r rows := ⟨good.ch, G, g, im⟩
  refine s_set oL2 (e_callAB (fun P hP => k05.tab P (hTs P hP)) un5 (a_cons oL2 (e_var oL2 S5 rfl) (a_cons oL2 (e_var oL2 S5 rfl) (a_cons oL2 (e_var oL2 S5 rfl) (a_cons oL2 (e_var oL2 S5 rfl) (a_nil oL2))))) bp good.two) fun v9 H6 w6 hz => ?_
  obtain ⟨told, r6, htl, hto⟩ := hz
  have S6 := (S5.mono oL2 w6).putD (i := 11) r6
  have k06 : Kp No H H6 := k05.trans w6
  have un6 := w6.un un5
  -- the third box
  refine s_set oL2 (e_newBox un6 (hs.keep k06) S6 rfl (x := 40) (y := 63) (by decide) (by decide)) fun v10 H7 w7 hz => ?_
  obtain ⟨b3, a3, z3, rfl, hb3, ha3, bx7⟩ := hz
  let L3 : Addr → Prop := Lp (Lp (Lp No b1) b2) b3
  have hb3' : L3 b3 := .inr rfl
  have o3 : (Wb K L3 b3 a3 z3).Ok := wb K hb3'
  have o0 := w0 K L3
  have S7 : Sl (W0 K L3) H7 _ _ := ((S6.more1 hb3).mono (w0 K L3) w7).putV (i := 6) (v := .ref b3)
  have k07 : Kp No H H7 := k06.trans w7
  have un7 : ∀ c, L3 c → H7 c ≠ none := fun c z => by
    rcases z with z | rfl
    · exact w7.un un6 c z
    · obtain ⟨_, z, _⟩ := bx7; rw [z]; exact fun z => by cases z
  have hb30 : H b3 = none := k06.free hb3
  have csl : cs.length ≤ 100 := by rw [← hcs, List.length_map]; exact okl
  refine s_set o0 (e_minL (ns := cs ++ [1000000]) (by
    have := e_catL (ds := cs.map .int) (es := [.int 1000000]) un7 (e_var o0 S7 (i := 9) rfl) (e_lst o0 un7 (a_cons o0 (e_pow o0 (i := 10) (j := 6) (e_int o0) (e_int o0) ⟨by decide, by decide, by decide⟩) (a_nil o0))) (by rw [List.length_map]; show cs.length + 1 ≤ _; omega)
    rw [show (cs ++ [(1000000 : Int)]).map PyData.int = cs.map .int ++ [.int 1000000] by rw [List.map_append]; rfl]
    exact this) (by rw [List.length_append]; simp)) fun v11 H8 w8 hz => ?_
  obtain ⟨least, rfl, hlm, hll⟩ := hz
  have S8 := ((S7.mono o0 w8).putD (i := 12) (.int least)).cast (C' := Wb K L3 b3 a3 z3) rfl rfl
  have bx8 : BoxAt H8 b3 a3 z3 := bx7.keep w8 (fun z => z.elim) (fun z => z.elim)
  have k08 : Kp No H H8 := k07.trans w8
  have un8 := w8.un un7
  -- what may be answered
  have cpos : ∀ p ∈ ps, p.isStrip = false → 0 ≤ p.cost ∧ p.cost ≤ 3 := fun p hp hs => by
    obtain ⟨i, hi, e⟩ := List.getElem_of_mem hp
    have := (good.leafAt (by rw [List.getElem?_eq_getElem hi, e]) hs).2
    exact ⟨this.2.1, this.2.2.1⟩
  have yes : ∀ {bs : List Bd} {c : Int}, certB ps r rows fixed forb bs (some c) = true → 0 < cs.length → c ≤ least := fun {bs c} hc hpos => by
    have each : ∀ rd ∈ oks, c ≤ costR ps ms rows rd r ∧ c ≤ 1000000 := fun rd hrd => by
      obtain ⟨h1, h2⟩ := okm rd hrd
      have h3 := certB_le G (fun p hp hs => (cpos p hp hs).1) gi.p0 h1 h2 hc
      simp only [atMost, decide_eq_true_eq] at h3
      have h4 := cost_mil G g (fun p hp hs => (cpos p hp hs).2) rows gi h1
      exact ⟨h3, Int.le_trans h3 h4⟩
    rcases List.mem_append.mp hlm with h | h
    · rw [← hcs] at h
      obtain ⟨rd, hrd, rfl⟩ := List.mem_map.mp h
      exact (each rd hrd).1
    · rw [List.mem_singleton.mp h]
      rw [← hcs, List.length_map] at hpos
      obtain ⟨rd, hrd⟩ := List.exists_mem_of_length_pos hpos
      exact (each rd hrd).2
  have nay : ∀ {bs : List Bd}, 0 < cs.length → certB ps r rows fixed forb bs none = false := fun {bs} hpos => by
    cases e : certB ps r rows fixed forb bs none with
    | false => rfl
    | true =>
      rw [← hcs, List.length_map] at hpos
      obtain ⟨rd, hrd⟩ := List.exists_mem_of_length_pos hpos
      obtain ⟨h1, h2⟩ := okm rd hrd
      have h3 := certB_le G (fun p hp hs => (cpos p hp hs).1) gi.p0 h1 h2 e
      cases h3
  let ρ0 : List Ds := [.va (.ref sa), .da (pts ps), .da (mcs ms), .da r.d, .da (.list (rds.map Rd.d)), .va (.ref t), .va (.ref b3), .da (.tuple (rows.map .str)), .da (wish fixed forb), .da (.list (cs.map .int)), .un, .da (.list (told.map Bd.d)), .da (.int least)]
  refine s_for1 o3 (n := 2) (a_cons o3 (e_int o3) (a_nil o3)) (by omega) (by omega)
    (fun i σ' H' => Kp (· = b3) H8 H' ∧ BoxAt H' b3 a3 z3 ∧ ∃ b13 b14 b15 b16 b17 : Ds, Sl (Wb K L3 b3 a3 z3) H' σ' (ρ0 ++ [b13, b14, b15, b16, b17]))
    (fun H' w' => ⟨w'.1, w'.2 bx8, .un, .un, .un, .un, .un, S8.mono o3 w'⟩) (fun i σ9 H9 hi ⟨k9, bx9, b13, b14, b15, b16, b17, S9⟩ => ?_) (fun σ9 H9 ⟨k9, bx9, b13, b14, b15, b16, b17, S9⟩ => s_ret o3 (e_bl o3) fun v H10 w10 r10 => by rw [r10.blI]; exact k H10)
  have S10 := S9.putD (i := 13) (.int (i : Int))
  have un9 := k9.un un8
  refine s_set o3 (z_callB hb3' un9 bx9 S10 rfl (az_cons o3 (z_eq (e_var o3 S10 rfl)) (az_cons o3 (z_eq (e_var o3 S10 rfl)) (az_cons o3 (z_eq (e_var o3 S10 rfl)) (az_nil o3)))) (Z := fun d => ∃ bs' : List Bd, (∀ b ∈ bs', BdOk ps r b) ∧ bs'.length ≤ 2000 ∧ d = .list (bs'.map Bd.d)) (R := R_law_list) fun ds hz => ?_) fun v11 H11 w11 hz => ?_
  · obtain ⟨_, _, rfl, rfl, _, _, rfl, rfl, _, _, rfl, rfl, rfl⟩ := hz
    exact ⟨ps, r, told, fixed, forb, hto, htl, gi, hbi, hbl, rfl, rfl⟩
  obtain ⟨_, ⟨bs, hbs, hbsl, rfl⟩, r11⟩ := hz
  have S11 := (S10.mono o3 w11).putD (i := 14) r11
  have bx11 := w11.2 bx9
  have un11 := o3.un w11 un9
  refine s_set o3 (e_bl o3) fun v12 H12 w12 r12 => ?_
  have S12 := (S11.mono o3 w12).putD (i := 15) r12
  have bx12 := w12.2 bx11
  have un12 := o3.un w12 un11
  refine s_forEv o3 (e_sortZ o3 (n := 4) un12 (z_lst o3 (n := 4) (Z := zI fun _ => True) un12 (az_cons o3 (z_op0 o3 (R := fun _ => True) (z_int (P := fun i => i = 1) (e_int o3) rfl) (z_drawI hb3' bx12 S12 rfl (by decide)) (fun i j h1 h2 => trivial)) (az_cons o3 (z_drawI hb3' bx12 S12 rfl (by decide)) (az_cons o3 (z_int (P := fun _ => True) (e_var o3 S12 rfl) trivial) (az_cons o3 (z_int (P := fun _ => True) (e_add o3 (i := least) (j := 1) (e_var o3 S12 rfl) (e_int o3)) trivial) (az_nil o3))))) (fun ds hz => ?_) (by decide)) (by decide)) fun v13 H13 w13 hz => ?_
  · obtain ⟨_, _, rfl, ⟨x1, rfl, _⟩, _, _, rfl, ⟨x2, rfl, _⟩, _, _, rfl, ⟨x3, rfl, _⟩, _, _, rfl, ⟨x4, rfl, _⟩, rfl⟩ := hz
    refine ⟨rfl, fun e he => ?_⟩
    simp only [List.mem_cons, List.not_mem_nil, or_false] at he
    rcases he with rfl | rfl | rfl | rfl <;> exact ⟨_, rfl, trivial⟩
  obtain ⟨l, hls, r13⟩ := hz
  have S13 := (S12.mono o3 w13).cast (C' := W0 K L3) rfl rfl
  have bx13 := w13.2 bx12
  have w913 := o3.trans (o3.trans w11 w12) w13
  have k13 : Kp (· = b3) H8 H13 := k9.trans w913.1
  have un13 := o3.un w13 un12
  have kH13 : Kp No H H13 := k08.loc hb30 k13
  have tab13 : ∀ P ∈ Ts, GxR.TabG H13 P := fun P hP => kH13.tab P (hTs P hP)
  refine s_forN o0 (M := No) (ds := l.map .int) (e_c o0 r13)
    (fun j σ' H' => Kp No H13 H' ∧ ∃ (bef : Bool) (b16 b17 : Ds), Sl (W0 K L3) H' σ' (ρ0 ++ [.da (.int (i : Int)), .da (.list (bs.map Bd.d)), .da (.bool bef), b16, b17]) ∧ (bef = true ∨ ∃ j' c, j' < j ∧ l[j']? = some c ∧ bef = certB ps r rows fixed forb bs (some c))) (fun a z => z.elim)
    (fun H' w' => ⟨w', true, _, _, S13.mono o0 w', .inl rfl⟩) (fun H14 w14 j d v σ15 H15 hj rd15 k1415 ⟨k15, bef, b16, b17, S15, hbef⟩ => ?_) (fun H14 w14 σ15 H15 k1415 ⟨k15, bef, b16, b17, S15, hbef⟩ => ?_)
  · rw [List.getElem?_map] at hj
    cases hc : l[j]? with
    | none => rw [hc] at hj; cases hj
    | some c =>
      rw [hc] at hj
      cases hj
      have S16 := S15.putD (i := 16) rd15
      have un15 := k15.un un13
      refine s_set o0 (e_callG o0 (fun P hP => k15.tab P (tab13 P hP)) un15 (a_cons o0 (e_var o0 S16 rfl) (a_cons o0 (e_var o0 S16 rfl) (a_cons o0 (e_var o0 S16 rfl) (a_cons o0 (e_var o0 S16 rfl) (a_cons o0 (e_var o0 S16 rfl) (a_cons o0 (e_var o0 S16 rfl) (a_nil o0))))))) ⟨ps, r, rows, fixed, forb, bs, some c, bp, hbs, by omega, rfl, rfl⟩) fun v17 H17 w17 r17 => ?_
      have S17 := (S16.mono o0 w17).putD (i := 17) r17
      generalize hans : certB ps r rows fixed forb bs (some c) = ans at r17 S17
      have hlt : ans = true → bef = true := fun ha => by
        rcases hbef with h | ⟨j', c', hj', hc', rfl⟩
        · exact h
        · rw [← hans] at ha
          refine certB_mono ha ?_
          obtain ⟨e1, e1'⟩ := List.getElem?_eq_some_iff.mp hc'
          obtain ⟨e2, e2'⟩ := List.getElem?_eq_some_iff.mp hc
          rw [← e1', ← e2']
          exact List.pairwise_iff_getElem.mp hls j' j e1 e2 hj'
      refine s_if o0 (t_or o0 (t_not o0 (t_isB o0 S17 (i := 17) rfl)) fun _ => t_or o0 (t_and o0 (t_B o0 (e_var o0 S17 (i := 17) rfl)) fun _ => t_not o0 (t_B o0 (e_var o0 S17 (i := 15) rfl))) fun _ => t_and o0 (t_B o0 (e_var o0 S17 (i := 17) rfl)) fun _ => t_and o0 (t_test o0 (e_cmp o0 (i := c) (j := least) (e_var o0 S17 rfl) (e_var o0 S17 rfl))) fun _ => t_test o0 (e_cmp o0 (i := (cs.length : Int)) (j := 0) (by have := e_lenL o0 (ds := cs.map .int) (e_var o0 S17 (i := 9) rfl); rw [List.length_map] at this; exact this) (e_int o0))) (fun cc H18 w18 => ?_) (fun cc H18 w18 => ?_)
      · exfalso
        cases ans with
        | false => simp at cc
        | true =>
          rw [hlt rfl] at cc
          simp only [Bool.not_true, Bool.false_or, Bool.and_false, Bool.true_and, Bool.and_eq_true, decide_eq_true_eq] at cc
          have := yes hans (by omega)
          omega
      · have S18 := S17.mono o0 w18
        refine s_set o0 (e_var o0 S18 rfl) fun v19 H19 w19 r19 => ?_
        have S19 := (S18.mono o0 w19).putD (i := 15) r19
        have kk : Kp No H15 H19 := (w17.trans w18).trans w19
        exact ⟨k1415.trans kk, k15.trans kk, ans, _, _, S19, .inr ⟨j, c, Nat.lt_succ_self j, hc, hans.symm⟩⟩
  · have S16 := S15
    have un15 := k15.un un13
    refine s_if o0 (t_and o0 (t_B o0 (e_callG o0 (fun P hP => k15.tab P (tab13 P hP)) un15 (a_cons o0 (e_var o0 S16 rfl) (a_cons o0 (e_var o0 S16 rfl) (a_cons o0 (e_var o0 S16 rfl) (a_cons o0 (e_var o0 S16 rfl) (a_cons o0 (e_var o0 S16 rfl) (a_cons o0 (e_non o0) (a_nil o0))))))) ⟨ps, r, rows, fixed, forb, bs, none, bp, hbs, by omega, rfl, rfl⟩)) fun _ => t_test o0 (e_cmp o0 (i := (cs.length : Int)) (j := 0) (by have := e_lenL o0 (ds := cs.map .int) (e_var o0 S16 (i := 9) rfl); rw [List.length_map] at this; exact this) (e_int o0))) (fun cc H18 w18 => ?_) (fun cc H18 w18 => ?_)
    · exfalso
      rw [Bool.and_eq_true, decide_eq_true_eq] at cc
      have := nay (bs := bs) (by omega)
      rw [this] at cc
      cases cc.1
    · have kk : Kp No H13 H18 := k15.trans w18
      exact ⟨k13.trans (kk.mono fun _ z => z.elim), bx13.keep kk (fun z => z.elim) (fun z => z.elim), _, _, _, _, _, (S16.mono o0 w18).cast rfl rfl⟩
end
end SR

/-! Asm: the law's promise out of the facts of the defs. -/
namespace SR
open PySem PySem.Spec PyProof.Rows L2
/-- what is known of the defs -/
structure Known (K : PySem.W.Frag) (w : World) (mg : Str → Option Value) (C pW c1 c2 : Addr) : Prop where
  d : ∀ (n : Nat) (x : Str) (i : Nat), defsL[n]? = some (x, i) → DefA K mg x (top i)
  b : Blt mg
  tp : TxtP K C
  ini : ∃ f fd, Mk K C f ∧ mg "Places" = some (.ref C) ∧ C8.Fun K "__init__" "Places.__init__" s_Places_init f fd ∧ fd.defaults = .none
  add : MetA K C "add" "Places.add" s_Places_add
  lnk : MetA K C "link" "Places.link" s_Places_link
  tw : TxtW K w mg pW
  most : ∃ t, mg "BOUNDS_MOST" = some (.int 1500 t)
  alw : DefC K mg "allowed" s_allowed c1
  rgt : DefC K mg "right" s_right c2
theorem law_ok {P : Program} {w : World} {K : PySem.W.Frag} {mg : Str → Option Value} {base : Heap} {C pW c1 c2 T1 T2 : Addr} {f : Addr} {fd : FuncData} (X : Known K w mg C pW c1 c2) (TB1 : GxR.TabB base mg c1 T1) (TB2 : GxR.TabB base mg c2 T2) (F : C8.Def K mg "law" s_law f fd) : FnOk P w K mg base CX0 53 f fd ["_law_script"] (spLaw K [T1, T2]) := by
  have B := X.b
  have D := X.d
  have c_is_strip : C8.Cal P w K mg base 1 "is_strip" (spD K RisStrip) [] := ok_is_strip (D 0 _ _ rfl) 
  have c_extent : C8.Cal P w K mg base 1 "extent" (spD K Rextent) [] := ok_extent (D 10 _ _ rfl) 
  have c_piece : C8.Cal P w K mg base 1 "piece" (spD K Rpiece) [] := ok_piece (D 11 _ _ rfl) 
  have c_pixel : C8.Cal P w K mg base 1 "pixel" (spD K Rpixel) [] := ok_pixel (D 17 _ _ rfl) B
  have c_overlap : C8.Cal P w K mg base 1 "overlap" (spD K Roverlap) [] := ok_overlap (D 18 _ _ rfl) 
  have c_leaf_pixel : C8.Cal P w K mg base 1 "leaf_pixel" (spD K Rleaf_pixel) [] := ok_leaf_pixel (D 20 _ _ rfl) 
  have c_fits : C8.Cal P w K mg base 1 "fits" (spD K Rfits) [] := ok_fits (D 21 _ _ rfl) B
  have c_sum_of : C8.Cal P w K mg base 1 "sum_of" (spD K Rsum_of) [] := ok_sum_of (D 25 _ _ rfl) 
  have c_at_most : C8.Cal P w K mg base 1 "at_most" (spD K Rat_most) [] := ok_at_most (D 30 _ _ rfl) 
  have c_leaf_cost : C8.Cal P w K mg base 2 "leaf_cost" (spD K Rleaf_cost) [] := ok_leaf_cost (D 22 _ _ rfl) B c_pixel c_leaf_pixel
  have c__law_extent : C8.Cal P w K mg base 1 "_law_extent" (spD K Rextent) [] := ok__law_extent (D 45 _ _ rfl) 
  have c__law_piece : C8.Cal P w K mg base 1 "_law_piece" (spD K R_law_piece) [] := ok__law_piece (D 46 _ _ rfl) 
  have c__law_black : C8.Cal P w K mg base 1 "_law_black" (spD K Rpixel) [] := ok__law_black (D 54 _ _ rfl) B
  have c__law_meets : C8.Cal P w K mg base 1 "_law_meets" (spD K Roverlap) [] := ok__law_meets (D 62 _ _ rfl) 
  have c__law_strip : C8.Cal P w K mg base 1 "_law_strip" (spD K RisStrip) [] := ok__law_strip (D 44 _ _ rfl) 
  have c__law_fits : C8.Cal P w K mg base 1 "_law_fits" (spD K Rfits) [] := ok__law_fits (D 47 _ _ rfl) B
  have c__law_wrong : C8.Cal P w K mg base 2 "_law_wrong" (spD K R_law_wrong) [] := ok__law_wrong (D 55 _ _ rfl) B c__law_black
  have c_allowed : C8.Cal P w K mg base 3 "allowed" (spG K [T1, T2] Rallowed) [] := ok_allowed X.alw TB1 (by simp) B c_is_strip c_overlap
  have c_looks_at : C8.Cal P w K mg base 1 "looks_at" (spD K Rlooks_at) [] := ok_looks_at (D 13 _ _ rfl) B
  have c_reached : C8.Cal P w K mg base 1 "reached" (spN K [] Rreached) [] := ok_reached (D 12 _ _ rfl) B
  have c_pieces_looked_at : C8.Cal P w K mg base 2 "pieces_looked_at" (spN K [] Rpieces) [] := ok_pieces (D 14 _ _ rfl) c_extent c_reached c_looks_at c_piece
  have c_looks_of : C8.Cal P w K mg base 3 "looks_of" (spN K [] Rlooks_of) [] := ok_looks_of (D 15 _ _ rfl) c_is_strip c_pieces_looked_at
  have c_needed_with : C8.Cal P w K mg base 4 "needed_with" (spN K [] Rneeded) [] := ok_needed_with (D 16 _ _ rfl) B c_looks_of
  have c_joined : C8.Cal P w K mg base 1 "joined" (spD K Rjoined) [] := ok_joined (D 1 _ _ rfl) 
  have m_init : C8.Mak P w K mg base 1 "Places" C (spInitP C) [] := ok_Places_init X.ini X.tp
  have m_add : C8.Met P w K mg base 1 C "add" (spAdd K C) [] := ok_Places_add X.add X.tp B
  have m_link : C8.Met P w K mg base 2 C "link" (spLink K C) [] := ok_Places_link X.lnk X.tp c_joined
  have c_walk : C8.Cal P w K mg base 10 "walk" (spWk K C fun c => c.dep + 1 ≤ 4) [] := ok_walk (D 7 _ _ rfl) X.tw X.tp (D 2 _ _ rfl) (D 3 _ _ rfl) (D 4 _ _ rfl) (D 5 _ _ rfl) (D 6 _ _ rfl) c_joined m_add m_link 4
  have c_machine : C8.Cal P w K mg base 11 "machine" (spD K Rmachine) [] := ok_machine (D 8 _ _ rfl) X.tp B m_init m_link c_walk
  have c_machines : C8.Cal P w K mg base 12 "machines" (spD K Rmachines) [] := ok_machines (D 9 _ _ rfl) B c_is_strip c_machine
  have c_best_rests : C8.Cal P w K mg base 2 "best_rests" (spBR K) [] := ok_best_rests (D 23 _ _ rfl) B c_extent c_reached c_looks_at c_piece
  have c_cost_in : C8.Cal P w K mg base 1 "cost_in" (spCI K) [] := ok_cost_in (D 26 _ _ rfl) 
  have c_best_table : C8.Cal P w K mg base 13 "best_table" (spBT K [T1, T2]) [] := ok_best_table (D 24 _ _ rfl) c_machines c_needed_with c_allowed c_is_strip c_best_rests c_fits c_leaf_cost
  have c_all_bounds : C8.Cal P w K mg base 14 "all_bounds" (spAB K [T1, T2]) [] := ok_all_bounds (D 27 _ _ rfl) B X.most c_machines c_best_table c_needed_with c_cost_in c_is_strip c_best_rests c_reached c_extent
  have c_known_bounds : C8.Cal P w K mg base 1 "known_bounds" (spKB P w K) [] := ok_known_bounds (D 28 _ _ rfl) 
  have c_bound_of : C8.Cal P w K mg base 1 "bound_of" (spBO P w K) [] := ok_bound_of (D 29 _ _ rfl) 
  have c_right_leaf : C8.Cal P w K mg base 4 "right_leaf" (spG K [T1, T2] Rright_leaf) [] := ok_right_leaf (D 31 _ _ rfl) c_allowed c_fits c_at_most c_leaf_cost
  have c_right_spot : C8.Cal P w K mg base 2 "right_spot" (spRS P w K) [] := ok_right_spot (D 32 _ _ rfl) B c_extent c_looks_at c_bound_of c_piece c_at_most c_sum_of
  have c_right_bound : C8.Cal P w K mg base 5 "right_bound" (spRB P w K [T1, T2]) [] := ok_right_bound (D 33 _ _ rfl) c_is_strip c_right_leaf c_right_spot c_allowed c_at_most c_bound_of
  have c_right : C8.Cal P w K mg base 13 "right" (spG K [T1, T2] Rright) [] := ok_right X.rgt TB2 (by simp) B c_machines c_known_bounds c_right_bound
  have c_certifies : C8.Cal P w K mg base 14 "certifies" (spG K [T1, T2] Rcertifies) [] := ok_certifies (D 35 _ _ rfl) c_right c_at_most c_bound_of c_known_bounds
  have c__law_cell : C8.Cal P w K mg base 1 "_law_cell" (spCell K) [] := ok__law_cell (D 36 _ _ rfl) B
  have c__law_digits : C8.Cal P w K mg base 2 "_law_digits" (spDigits K) [] := ok__law_digits (D 37 _ _ rfl) B c__law_cell
  have c__law_draw : C8.Cal P w K mg base 1 "_law_draw" (spDraw K) [] := ok__law_draw (D 38 _ _ rfl) B
  have c__law_leaf : C8.Cal P w K mg base 2 "_law_leaf" (spB K R_law_leaf) [] := ok__law_leaf (D 40 _ _ rfl) B c__law_draw
  have c__law_place : C8.Cal P w K mg base 2 "_law_place" (spB K R_law_place) [] := ok__law_place (D 41 _ _ rfl) B c__law_draw
  have c__law_choice : C8.Cal P w K mg base 5 "_law_choice" (spB K (R_law_choice 3)) [] := ok__law_choice (D 42 _ _ rfl) B c__law_draw c__law_place 3
  have c__law_parts : C8.Cal P w K mg base 6 "_law_parts" (spB K R_law_parts) [] := ok__law_parts (D 43 _ _ rfl) B c__law_draw c__law_leaf c__law_choice
  have f_count : ∀ n, C8.Cal P w K mg base (2 * n + 2) "_law_count" (spCount K n) [] := ok__law_count (D 49 _ _ rfl) (D 48 _ _ rfl) B c__law_strip c__law_fits c__law_extent c__law_piece
  have c__law_all : C8.Cal P w K mg base 51 "_law_all" (spAll K 6) [] := ok__law_all (D 51 _ _ rfl) (D 50 _ _ rfl) B c__law_strip c__law_extent c__law_piece f_count 6
  have c__law_regions : C8.Cal P w K mg base 7 "_law_regions" (spD K (R_law_regions 6)) [] := ok__law_regions (D 52 _ _ rfl) c__law_strip c__law_piece 6
  have c__law_moved : C8.Cal P w K mg base 7 "_law_moved" (spD K (R_law_moved 6)) [] := ok__law_moved (D 53 _ _ rfl) 6
  have c__law_leaves : C8.Cal P w K mg base 2 "_law_leaves" (spD K R_law_leaves) [] := ok__law_leaves (D 56 _ _ rfl) c__law_strip
  have c__law_cost : C8.Cal P w K mg base 8 "_law_cost" (spD K R_law_cost) [] := ok__law_cost (D 57 _ _ rfl) c__law_moved c__law_leaves c__law_regions c__law_wrong
  have c__law_allowed : C8.Cal P w K mg base 2 "_law_allowed" (spD K R_law_allowed) [] := ok__law_allowed (D 63 _ _ rfl) B c__law_strip c__law_meets
  have c__law_found : C8.Cal P w K mg base 9 "_law_found" (spD K R_law_found) [] := ok__law_found (D 64 _ _ rfl) c__law_regions c__law_allowed c__law_cost
  have c__law_region : C8.Cal P w K mg base 2 "_law_region" (spB K R_law_region) [] := ok__law_region (D 60 _ _ rfl) B c__law_draw
  have c__law_wishes : C8.Cal P w K mg base 8 "_law_wishes" (spB K R_law_wishes) [] := ok__law_wishes (D 61 _ _ rfl) B c__law_draw c__law_region c__law_regions c__law_strip
  have c__law_picture : C8.Cal P w K mg base 8 "_law_picture" (spB K R_law_picture) [] := ok__law_picture (D 59 _ _ rfl) B c__law_draw c__law_leaves c__law_regions
  have c__law_spoilt : C8.Cal P w K mg base 2 "_law_spoilt" (spB K R_law_spoilt) [] := ok__law_spoilt (D 65 _ _ rfl) B c__law_draw
  have c__law_list : C8.Cal P w K mg base 3 "_law_list" (spB K R_law_list) [] := ok__law_list (D 66 _ _ rfl) B c__law_draw c__law_spoilt
  have c__law_world : C8.Cal P w K mg base 52 "_law_world" (spWorld K) [] := ok__law_world (D 58 _ _ rfl) B c__law_digits c__law_draw c__law_parts c_machines (f_count 6) c__law_all
  exact ok_law F B c__law_world c__law_picture c__law_digits c__law_wishes c__law_found c_all_bounds c__law_list c__law_draw c_certifies
end SR

/-! End: the facts of the head, the law. -/
namespace SR
open PySem PySem.Spec PyProof.Rows L2
section
variable {K : PySem.W.Frag} {w : World} {h : Heap} {mg : Str → Option Value}
theorem fun8 {x qual : Str} {st : Stmt} {f : Addr} {fd : FuncData} (F : FunD K x qual (C8.fnArgs st) (C8.fnBody st) (C8.fnScope st) [] [] f fd) : C8.Fun K x qual st f fd ∧ fd.defaults = .none := by
  obtain ⟨oc, od, dV, kV, doc, pm, an, cdv, ct, osl, e, l, c, hd, _⟩ := F.ex
  rcases hd with ⟨_, e2⟩ | ⟨e2, _⟩
  · subst e2
    exact ⟨⟨oc, od, _, kV, doc, pm, an, cdv, ct, osl, e, l, c⟩, by rw [e]⟩
  · exact absurd rfl e2
theorem mem_fa1 {n : Nat} {x : Str} {i : Nat} (e : defsL[n]? = some (x, i)) : He.Fa.glo x ∈ faL := List.mem_append_left _ (List.mem_map.mpr ⟨(x, i), List.mem_of_getElem? e, rfl⟩)
theorem mem_fa2 {x : Str} (e : x ∈ bltL) : He.Fa.free x ∈ faL := List.mem_append_right _ (List.mem_append_left _ (List.mem_map.mpr ⟨x, e, rfl⟩))
theorem mem_fa3 {f : He.Fa} (e : f ∈ moreL) : f ∈ faL := List.mem_append_right _ (List.mem_append_right _ e)
theorem get_fn {n : Nat} {x : Str} {i : Nat} (e : defsL[n]? = some (x, i)) : dOf (x, i) ∈ fnL := List.mem_append_left _ (List.mem_map.mpr ⟨(x, i), List.mem_of_getElem? e, rfl⟩)
theorem get_me {p : Str × Str × Nat} (e : p ∈ methL) : mOf p ∈ fnL := List.mem_append_right _ (List.mem_map.mpr ⟨p, e, rfl⟩)
theorem known (X : K.In h) (G : h.Ns mainGlobals mg) (c : He.SaysX faL fnL tsL tfL exB w h K) : Known K w mg (He.ga K "Places") (He.ga K "WALKS") (He.cT K ("allowed", none)).1 (He.cT K ("right", none)).1 := by
  have cd := c.t.d
  have glo : ∀ {n : Nat} {x : Str} {i : Nat}, defsL[n]? = some (x, i) → mg x = some (.ref (He.ga K x)) := fun e => He.glo_ok X G (cd.facts (mem_fa1 e))
  have fre : ∀ {x : Str}, x ∈ bltL → mg x = none := fun e => He.free_ok X G (cd.facts (mem_fa2 e))
  have more : ∀ {f : He.Fa}, f ∈ moreL → f.ok K = true := fun e => cd.facts (mem_fa3 e)
  have defC : ∀ (n : Nat) (x : Str) (i : Nat), defsL[n]? = some (x, i) → DefC K mg x (top i) (He.cT K (x, none)).1 := fun n x i e => by
    obtain ⟨fd, F⟩ := cd.defs (get_fn e)
    obtain ⟨F8, df⟩ := fun8 (x := x) (qual := x) (st := top i) F
    refine ⟨He.ga K x, fd, ⟨F8, glo e, F.kp⟩, df, ?_⟩
    obtain ⟨oc, od, dV, kV, doc, pm, an, cdv, ct, osl, e2, l, hc, _⟩ := F.ex
    obtain ⟨c0, e3⟩ := He.codeIn_ref hc
    have e4 : fd.code = .ref c0 := by rw [e2]; exact e3
    rw [e4]
    exact congrArg Value.ref (He.codeOf_eq (p := (x, none)) l e4).symm
  refine ⟨fun n x i e => ?_, ⟨fre (by decide +kernel), fre (by decide +kernel), fre (by decide +kernel), fre (by decide +kernel), fre (by decide +kernel), fre (by decide +kernel), fre (by decide +kernel), fre (by decide +kernel), fre (by decide +kernel), fre (by decide +kernel), fre (by decide +kernel), fre (by decide +kernel), fre (by decide +kernel), fre (by decide +kernel)⟩, ?_, ?_, ?_, ?_, ?_, ?_, ?_, ?_⟩
  · obtain ⟨f, fd, D, df, _⟩ := defC n x i e
    exact ⟨f, fd, D, df⟩
  · exact ⟨He.cls_ok (more (f := .cls "Places") (by simp [moreL])), He.noat_ok (more (f := .noat "Places" "places") (by simp [moreL])), He.noat_ok (more (f := .noat "Places" "followers") (by simp [moreL]))⟩
  · obtain ⟨fd, F⟩ := cd.defs (get_me (p := ("__init__", "Places.__init__", 0)) (by simp [methL]))
    obtain ⟨F8, df⟩ := fun8 (x := "__init__") (qual := "Places.__init__") (st := inClass (top 3) 0) F
    exact ⟨_, fd, He.mkr_ok (more (f := .mkr "Places") (by simp [moreL])), He.glo_ok X G (more (f := .glo "Places") (by simp [moreL])), F8, df⟩
  · obtain ⟨fd, F⟩ := cd.defs (get_me (p := ("add", "Places.add", 1)) (by simp [methL]))
    obtain ⟨F8, df⟩ := fun8 (x := "add") (qual := "Places.add") (st := inClass (top 3) 1) F
    exact ⟨_, fd, He.meth_ok (more (f := .meth "Places" "add") (by simp [moreL])), F8, df⟩
  · obtain ⟨fd, F⟩ := cd.defs (get_me (p := ("link", "Places.link", 2)) (by simp [methL]))
    obtain ⟨F8, df⟩ := fun8 (x := "link") (qual := "Places.link") (st := inClass (top 3) 2) F
    exact ⟨_, fd, He.meth_ok (more (f := .meth "Places" "link") (by simp [moreL])), F8, df⟩
  · refine ⟨He.glo_ok X G (more (f := .glo "WALKS") (by simp [moreL])), fun p hp => ?_⟩
    obtain ⟨es, n, D⟩ := c.t.tab 0 (t := (fun K => He.ga K "WALKS", walkL.map (·.1))) rfl
    have hp' : p ∈ walkL := hp
    obtain ⟨u, e1, e2⟩ := He.valsB_ok (kvs := kvsL) c.more (q := (p.1, .glo p.2)) (List.mem_map.mpr ⟨p, hp', rfl⟩)
    refine ⟨He.ga K p.2, ⟨es, n, u, D.at_, D.lit, e1, e2⟩, ?_⟩
    simp only [List.mem_cons, List.not_mem_nil, or_false] at hp
    rcases hp with rfl | rfl | rfl | rfl | rfl | rfl
    · exact glo (n := 2) (i := 4) rfl
    · exact glo (n := 3) (i := 5) rfl
    · exact glo (n := 4) (i := 6) rfl
    · exact glo (n := 5) (i := 7) rfl
    · exact glo (n := 5) (i := 7) rfl
    · exact glo (n := 6) (i := 8) rfl
  · exact He.int_ok X G (more (f := .int "BOUNDS_MOST" 1500) (by simp [moreL]))
  · exact defC 19 "allowed" 28 rfl
  · exact defC 34 "right" 46 rfl
end
theorem at_law (w : World) (mg : Str → Option Value) (fa : Addr) (h : Heap) (Y : hk.says w h) (G : h.Ns mainGlobals mg) (hm : mg ("law" : Str) = some (.ref fa)) : ∃ K : PySem.W.Frag, K.In h ∧ LamX.LawAtS PySem.Challenge.rw_surelyread_k38_whole_certified_is_true w K L2.CX0 53 63 "_law_script" mg fa h := by
  obtain ⟨K, X, c⟩ := Y
  have kn := known X G c
  have cd := c.t.d
  have e80 : defsL[67]? = some (("law" : Str), 80) := rfl
  obtain ⟨fd, F⟩ := cd.defs (get_fn e80)
  obtain ⟨F8, df⟩ := fun8 (x := "law") (qual := "law") (st := top 80) F
  have eg := hm.symm.trans (He.glo_ok X G (cd.facts (mem_fa1 e80)))
  cases eg
  have b := FunD.bindsA (ps := ["_law_script"]) F fun _ _ _ _ _ _ us hl => match us, hl with | [_], _ => rfl
  have D : C8.Def K mg "law" s_law (He.ga K "law") fd := ⟨F8, hm, F.kp⟩
  refine ⟨K, X, fd, [He.cT K ("allowed", none), He.cT K ("right", none)], spLaw K [(He.cT K ("allowed", none)).2, (He.cT K ("right", none)).2], fun p hp => ?_, fun p hp => ?_, fun p hp => ?_, fun s v => b s [v] rfl, fun H a ns _ _ hT hS => ?_, fun base _ _ hB => ?_⟩
  · simp only [List.mem_cons, List.not_mem_nil, or_false] at hp
    rcases hp with rfl | rfl
    · exact c.empty ("allowed", none) (by simp [tfL])
    · exact c.empty ("right", none) (by simp [tfL])
  · simp only [List.mem_cons, List.not_mem_nil, or_false] at hp
    rcases hp with rfl | rfl
    · exact c.out ("allowed", none) (by simp [tfL])
    · exact c.out ("right", none) (by simp [tfL])
  · simp only [List.mem_cons, List.not_mem_nil, or_false] at hp
    rcases hp with rfl | rfl
    · exact PySem.W.codeHd_of_K X (c.hd ("allowed", none) (by simp [tfL]))
    · exact PySem.W.codeHd_of_K X (c.hd ("right", none) (by simp [tfL]))
  · refine ⟨a, ns, rfl, fun P hP => ?_, hS, fun _ => rfl⟩
    have tg : H P = some (.tbl #[]) := by
      simp only [List.mem_cons, List.not_mem_nil, or_false] at hP
      rcases hP with rfl | rfl
      · exact hT _ (by simp)
      · exact hT _ (by simp)
    exact ⟨#[], tg, trivial⟩
  · have B1 := hB (He.cT K ("allowed", none)) (by simp)
    have B2 := hB (He.cT K ("right", none)) (by simp)
    exact law_ok kn ⟨B1.code, B1.bm, B1.gP⟩ ⟨B2.code, B2.bm, B2.gP⟩ D
end SR
open PySem PySem.W PySem.Calls PyProof.Rows
theorem PySem.Challenge.cw_surelyread_k38_whole_certified_is_true_holds : PySem.Challenge.rw_surelyread_k38_whole_certified_is_true.Holds := by
  w_on; o_law
  refine HandSHeadRun.head_any (r := OpenLaw.row PySem.Challenge.rw_surelyread_k38_whole_certified_is_true) (q := view (OpenLaw.row PySem.Challenge.rw_surelyread_k38_whole_certified_is_true).prog [80]) (H := SR.hk) (ob := SR.ob) (M := 6000) (loose := SR.names) (d := HandSHeadRun.topDef (OpenLaw.row PySem.Challenge.rw_surelyread_k38_whole_certified_is_true).prog 80) (kwd := []) SR.ob_eq
    (by kernel_rfl) (fun s => by kernel_rfl) SR.run (by kernel_rfl) (by kernel_rfl) (by kernel_rfl) (by rfl) (by first | assumption | decide +kernel) (by decide +kernel) ⟨rfl, rfl, rfl, rfl, rfl, by decide +kernel⟩ ?hw ?hc
  case hw => w_witness2
  case hc =>
    refine LamX.walk_ofTsE (l := PySem.Challenge.rw_surelyread_k38_whole_certified_is_true) (n := 63) (k := 53) (x := "_law_script") (CX := fun _ => L2.CX0) rfl (by decide) (by kernel_rfl) ⟨rfl, by decide, by decide⟩ ?F (fun _ _ _ _ _ z => z)
    intro w mg fa h Y G hmg0
    have hmg : mg ("law" : PySem.Str) = some (.ref fa) := by
      have e : (HandSHeadRun.topDef (OpenLaw.row PySem.Challenge.rw_surelyread_k38_whole_certified_is_true).prog 80).name = ("law" : PySem.Str) := by kernel_rfl
      rw [← e]
      exact hmg0
    exact SR.at_law w mg fa h Y G hmg

