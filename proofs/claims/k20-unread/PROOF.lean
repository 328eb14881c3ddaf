import PyProof.Rows.All
import HandS.ForMost
import HandS.Conv
import HandS.IsInst
import HandS.Wide
import HandS.Exc
import HandS.TryOnly
import HandS.ExcOwn
import HandS.WordsExc
import HandS.Replace
import KE.SortData
import HandS.Codes
import HandS.ExcIs
import KE.RegKIsAll
import HandS.HotCalls
import PyProof.Rows.CountFlat
import PyProof.Rows.SeqMore
import KE.GoesRaise
import HandS.SuiteRaise
import HandS.ExcCtx
import KE.RegKTryMore
import HandS.ReplaceList
import PySem.Challenge.RW_wordrace_k20_unread
set_option Elab.async false
set_option linter.all false
set_option maxRecDepth 100000
set_option maxHeartbeats 2000000
/-! A layer of values over the hand layer: each expression gives a datum, each block an outcome; the heap is told once, here. -/
namespace Vs
open PySem PySem.Spec L2

/-! ### heaps: F what is fixed for good, H all -/
structure Ext (F H F' H' : Hp) : Prop where
  f : Same F F'
  h : Same H H'
  fh : Same F' H'
  own : ∀ a, F a = none → H a ≠ none → F' a = none
theorem Ext.refl {F H : Hp} (s : Same F H) : Ext F H F H := ⟨Same.refl _, Same.refl _, s, fun _ e _ => e⟩
theorem Ext.trans {F H F1 H1 F2 H2 : Hp} (a : Ext F H F1 H1) (b : Ext F1 H1 F2 H2) : Ext F H F2 H2 :=
  ⟨a.f.trans b.f, a.h.trans b.h, b.fh, fun c e n => b.own c (a.own c e n) (fun z => by
    cases q : H c with
    | none => exact n q
    | some o => rw [a.h c o q] at z; cases z)⟩
theorem same_upd {H : Hp} {p : Addr} {o : HO} (h : H p = none) : Same H (upd H p o) := fun b x e => by
  rw [upd_ne (ne_of_none e h)]
  exact e
theorem same_upd2 {F H : Hp} {p : Addr} {o : HO} (s : Same F H) : Same (upd F p o) (upd H p o) := fun b x e => by
  by_cases q : b = p
  · subst q; rw [upd_same] at e ⊢; exact e
  · rw [upd_ne q] at e ⊢; exact s b x e
/-- a new object, fixed at once -/
theorem Ext.new {F H : Hp} {p : Addr} {o : HO} (s : Same F H) (h : H p = none) : Ext F H (upd F p o) (upd H p o) :=
  ⟨same_upd (s.free h), same_upd h, same_upd2 s, fun a e n => by
    rw [upd_ne (fun z => n (by rw [z]; exact h))]; exact e⟩
/-- a new object, not fixed -/
theorem Ext.newO {F H : Hp} {p : Addr} {o : HO} (s : Same F H) (h : H p = none) : Ext F H F (upd H p o) :=
  ⟨Same.refl _, same_upd h, s.trans (same_upd h), fun a e n => e⟩
/-- the whole grows, nothing is fixed -/
theorem Ext.grow {F H H' : Hp} (s : Same F H) (h : Same H H') : Ext F H F H' := ⟨Same.refl _, h, s.trans h, fun _ e _ => e⟩

/-! ### what a value stands for -/
abbrev D := PyData
theorem sqT_mono {K : PySem.W.Frag} {H H' : Hp} {a : Addr} {xs : List V} (e : Same H H') (h : SqT K H a xs) : SqT K H' a xs := by
  rcases h with (h | ⟨o, h⟩) | h
  · exact .inl (.inl (e _ _ h))
  · exact .inl (.inr ⟨o, e _ _ h⟩)
  · exact .inr h
mutual
theorem dp_mono {K : PySem.W.Frag} {H H' : Hp} (e : Same H H') : ∀ {v : V} {d : D}, Dp K H v d → Dp K H' v d
  | _, _, .non => .non
  | _, _, .bl b => .bl b
  | _, _, .int i => .int i
  | _, _, .str x => .str x
  | _, _, .lst h r => .lst (e.seq h) (dpAll_mono e r)
  | _, _, .tup h r => .tup (sqT_mono e h) (dpAll_mono e r)
theorem dpAll_mono {K : PySem.W.Frag} {H H' : Hp} (e : Same H H') : ∀ {vs : List V} {ds : List D}, DpAll K H vs ds → DpAll K H' vs ds
  | _, _, .nil => .nil
  | _, _, .cons h r => .cons (dp_mono e h) (dpAll_mono e r)
end
abbrev KvR (K : PySem.W.Frag) (H : Hp) : List (Key × V) → List (Str × D) → Prop := Paired fun p q => p.1 = Sum.inr q.1 ∧ Dp K H p.2 q.2
theorem kvR_mono {K : PySem.W.Frag} {H H' : Hp} (e : Same H H') : ∀ {ks : List (Key × V)} {kv : List (Str × D)}, KvR K H ks kv → KvR K H' ks kv
  | _, _, .nil => .nil
  | _, _, .cons h r => .cons ⟨h.1, dp_mono e h.2⟩ (kvR_mono e r)
/-- a dict's datum -/
def mD (kv : List (Str × D)) : D := .dict (kv.map fun p => (.str p.1, p.2))
def Rp (K : PySem.W.Frag) (H : Hp) (v : V) : D → Prop
  | .dict kvs => ∃ (a : Addr) (ks : List (Key × V)) (kv : List (Str × D)), mD kv = .dict kvs ∧ v = .ref a ∧ H a = some (.dK ks) ∧ KvR K H ks kv
  | d => Dp K H v d
theorem rp_of {K : PySem.W.Frag} {H : Hp} {v : V} {d : D} (h : Dp K H v d) : Rp K H v d := by
  cases h <;> constructor <;> assumption
theorem rp_int {K : PySem.W.Frag} {H : Hp} {v : V} {i : Int} : Rp K H v (.int i) ↔ v = .int i := ⟨fun h => by cases (show Dp K H v (.int i) from h); rfl, fun h => by subst h; exact Dp.int i⟩
theorem rp_str {K : PySem.W.Frag} {H : Hp} {v : V} {x : Str} : Rp K H v (.str x) ↔ v = .str x := ⟨fun h => by cases (show Dp K H v (.str x) from h); rfl, fun h => by subst h; exact Dp.str x⟩
theorem rp_bl {K : PySem.W.Frag} {H : Hp} {v : V} {b : Bool} : Rp K H v (.bool b) ↔ v = .bl b := ⟨fun h => by cases (show Dp K H v (.bool b) from h); rfl, fun h => by subst h; exact Dp.bl b⟩
theorem rp_non {K : PySem.W.Frag} {H : Hp} {v : V} : Rp K H v .none ↔ v = .non := ⟨fun h => by cases (show Dp K H v .none from h); rfl, fun h => by subst h; exact Dp.non⟩
theorem rp_lst {K : PySem.W.Frag} {H : Hp} {v : V} {ds : List D} : Rp K H v (.list ds) ↔ ∃ a vs, v = .ref a ∧ SqL K H a vs ∧ DpAll K H vs ds := ⟨fun h => by
  cases (show Dp K H v (.list ds) from h) with
  | lst h1 r => exact ⟨_, _, rfl, h1, r⟩, fun ⟨a, vs, e, h, r⟩ => by subst e; exact Dp.lst h r⟩
theorem rp_tup {K : PySem.W.Frag} {H : Hp} {v : V} {ds : List D} : Rp K H v (.tuple ds) ↔ ∃ a vs, v = .ref a ∧ SqT K H a vs ∧ DpAll K H vs ds := ⟨fun h => by
  cases (show Dp K H v (.tuple ds) from h) with
  | tup h1 r => exact ⟨_, _, rfl, h1, r⟩, fun ⟨a, vs, e, h, r⟩ => by subst e; exact Dp.tup h r⟩
theorem mD_inj : ∀ {a b : List (Str × D)}, mD a = mD b → a = b := by
  intro a b h
  replace h : a.map (fun p => ((.str p.1, p.2) : D × D)) = b.map fun p => (.str p.1, p.2) := PyData.dict.inj h
  revert h
  induction a generalizing b with
  | nil => intro h; cases b with
    | nil => rfl
    | cons y b => cases h
  | cons x a ih => intro h; cases b with
    | nil => cases h
    | cons y b =>
      obtain ⟨h1, h2⟩ := List.cons.inj h
      obtain ⟨e1, e2⟩ := Prod.mk.inj h1
      obtain ⟨x1, x2⟩ := x
      obtain ⟨y1, y2⟩ := y
      cases e1
      cases (show x2 = y2 from e2)
      rw [ih h2]
theorem rp_dict {K : PySem.W.Frag} {H : Hp} {v : V} {kv : List (Str × D)} : Rp K H v (mD kv) ↔ ∃ a ks, v = .ref a ∧ H a = some (.dK ks) ∧ KvR K H ks kv := by
  constructor
  · rintro ⟨a, ks, kv', e, h1, h2, h3⟩
    obtain rfl := mD_inj e
    exact ⟨a, ks, h1, h2, h3⟩
  · rintro ⟨a, ks, h1, h2, h3⟩
    exact ⟨a, ks, kv, rfl, h1, h2, h3⟩
/-- not a dict -/
def nodict : D → Bool
  | .dict _ => false
  | _ => true
theorem rp_dp {K : PySem.W.Frag} {H : Hp} {v : V} {d : D} (h : Rp K H v d) (n : nodict d = true) : Dp K H v d := by
  cases d <;> first | exact h | cases n
theorem rp_mono {K : PySem.W.Frag} {H H' : Hp} (e : Same H H') {v : V} {d : D} (h : Rp K H v d) : Rp K H' v d := by
  cases d with
  | dict kvs =>
    obtain ⟨a, ks, kv, h1, h2, h3, h4⟩ := h
    exact ⟨a, ks, kv, h1, h2, e _ _ h3, kvR_mono e h4⟩
  | _ => exact dp_mono e h
/-- ints, texts, bools, None: no heap is asked -/
def scalar : D → Bool
  | .none => true
  | .bool _ => true
  | .int _ => true
  | .str _ => true
  | _ => false
theorem rp_scalar {K : PySem.W.Frag} {H H' : Hp} {v : V} {d : D} (n : scalar d = true) (h : Rp K H v d) : Rp K H' v d := by
  cases d with
  | none => exact rp_non.mpr (rp_non.mp h)
  | bool b => exact rp_bl.mpr (rp_bl.mp h)
  | int i => exact rp_int.mpr (rp_int.mp h)
  | str x => exact rp_str.mpr (rp_str.mp h)
  | _ => cases n
theorem dpAll_get {K : PySem.W.Frag} {H : Hp} : ∀ {vs : List V} {ds : List D} {i : Nat} {d : D}, DpAll K H vs ds → ds[i]? = some d → ∃ v, vs[i]? = some v ∧ Dp K H v d
  | _, _, _, _, .nil, e => by simp at e
  | _, _, 0, _, .cons h _, e => by
    have e := Option.some.inj e
    subst e
    exact ⟨_, rfl, h⟩
  | _, _, i + 1, _, .cons _ r, e => dpAll_get (i := i) r e
theorem dpAll_len {K : PySem.W.Frag} {H : Hp} : ∀ {vs : List V} {ds : List D}, DpAll K H vs ds → vs.length = ds.length
  | _, _, .nil => rfl
  | _, _, .cons _ r => congrArg (· + 1) (dpAll_len r)
theorem dpAll_append {K : PySem.W.Frag} {H : Hp} : ∀ {vs : List V} {ds : List D} {vs' : List V} {ds' : List D}, DpAll K H vs ds → DpAll K H vs' ds' → DpAll K H (vs ++ vs') (ds ++ ds')
  | _, _, _, _, .nil, h => h
  | _, _, _, _, .cons h r, h' => .cons h (dpAll_append r h')
theorem dpAll_take {K : PySem.W.Frag} {H : Hp} : ∀ (n : Nat) {vs : List V} {ds : List D}, DpAll K H vs ds → DpAll K H (vs.take n) (ds.take n)
  | 0, _, _, _ => .nil
  | _ + 1, _, _, .nil => .nil
  | n + 1, _, _, .cons h r => .cons h (dpAll_take n r)
theorem dpAll_drop {K : PySem.W.Frag} {H : Hp} : ∀ (n : Nat) {vs : List V} {ds : List D}, DpAll K H vs ds → DpAll K H (vs.drop n) (ds.drop n)
  | 0, _, _, h => h
  | _ + 1, _, _, .nil => .nil
  | n + 1, _, _, .cons _ r => dpAll_drop n r
theorem dpAll_set {K : PySem.W.Frag} {H : Hp} : ∀ (n : Nat) {vs : List V} {ds : List D} {v : V} {d : D}, DpAll K H vs ds → Dp K H v d → DpAll K H (vs.set n v) (ds.set n d)
  | _, _, _, _, _, .nil, _ => .nil
  | 0, _, _, _, _, .cons _ r, h => .cons h r
  | n + 1, _, _, _, _, .cons h r, h' => .cons h (dpAll_set n r h')
theorem dpAll_ints {K : PySem.W.Frag} {H : Hp} : ∀ {ns : List Int} {vs : List V}, DpAll K H vs (ns.map .int) → vs = ns.map .int
  | [], _, h => by cases h; rfl
  | n :: ns, _, h => by
    cases h with
    | cons h r => cases h; rw [dpAll_ints r]; rfl
theorem ints_dpAll {K : PySem.W.Frag} {H : Hp} : ∀ (ns : List Int), DpAll K H (ns.map .int) (ns.map .int)
  | [] => .nil
  | n :: ns => .cons (.int n) (ints_dpAll ns)
theorem dpAll_strs {K : PySem.W.Frag} {H : Hp} : ∀ {ns : List Str} {vs : List V}, DpAll K H vs (ns.map .str) → vs = ns.map .str
  | [], _, h => by cases h; rfl
  | n :: ns, _, h => by
    cases h with
    | cons h r => cases h; rw [dpAll_strs r]; rfl
theorem strs_dpAll {K : PySem.W.Frag} {H : Hp} : ∀ (ns : List Str), DpAll K H (ns.map .str) (ns.map .str)
  | [] => .nil
  | n :: ns => .cons (.str n) (strs_dpAll ns)
theorem dpAll_bls {K : PySem.W.Frag} {H : Hp} : ∀ {ns : List Bool} {vs : List V}, DpAll K H vs (ns.map .bool) → vs = ns.map .bl
  | [], _, h => by cases h; rfl
  | n :: ns, _, h => by
    cases h with
    | cons h r => cases h; rw [dpAll_bls r]; rfl

/-! ### slots -/
inductive Sl where
  /-- nothing is known -/
  | no
  | va (d : D)
  /-- a list, a dict of this frame's own: it may be changed -/
  | ow (xs : List D)
  | od (kv : List (Str × D))
  /-- an object that is not looked into -/
  | rf (a : Addr)
def Sl.mine : Sl → Bool
  | .ow _ => true
  | .od _ => true
  | _ => false
abbrev Sls := List Sl
def SlR (K : PySem.W.Frag) (H0 F H : Hp) (o : Option (Option V)) : Sl → Prop
  | .no => True
  | .va d => ∃ v, o = some (some v) ∧ Rp K F v d
  | .ow xs => ∃ a vs, o = some (some (.ref a)) ∧ H0 a = none ∧ F a = none ∧ H a = some (.lst vs) ∧ DpAll K F vs xs
  | .od kv => ∃ a ks, o = some (some (.ref a)) ∧ H0 a = none ∧ F a = none ∧ H a = some (.dK ks) ∧ KvR K F ks kv
  | .rf a => o = some (some (.ref a))
def Mine (ds : Sls) (i : Nat) : Prop := ∃ s, ds[i]? = some s ∧ s.mine = true
structure StR (K : PySem.W.Frag) (F0 H0 F H : Hp) (σ : St) (ds : Sls) : Prop where
  ext : Ext F0 H0 F H
  len : σ.length = ds.length
  at_ : ∀ (i : Nat) (s : Sl), ds[i]? = some s → SlR K H0 F H (σ[i]?) s
  sep : ∀ (i j : Nat) (a : Addr), Mine ds i → Mine ds j → σ[i]? = some (some (.ref a)) → σ[j]? = some (some (.ref a)) → i = j
section
variable {K : PySem.W.Frag} {F0 H0 F H F' H' : Hp} {σ : St} {ds : Sls}
theorem StR.fh (r : StR K F0 H0 F H σ ds) : Same F H := r.ext.fh
theorem SlR.ext {o : Option (Option V)} {s : Sl} (h : SlR K H0 F H o s) (e : Ext F H F' H') : SlR K H0 F' H' o s := by
  cases s with
  | no => trivial
  | va d => obtain ⟨v, h1, h2⟩ := h; exact ⟨v, h1, rp_mono e.f h2⟩
  | ow xs =>
    obtain ⟨a, vs, h1, h2, h3, h4, h5⟩ := h
    exact ⟨a, vs, h1, h2, e.own a h3 (by rw [h4]; exact fun z => nomatch z), e.h _ _ h4, dpAll_mono e.f h5⟩
  | od kv =>
    obtain ⟨a, vs, h1, h2, h3, h4, h5⟩ := h
    exact ⟨a, vs, h1, h2, e.own a h3 (by rw [h4]; exact fun z => nomatch z), e.h _ _ h4, kvR_mono e.f h5⟩
  | rf a => exact h
theorem StR.to (r : StR K F0 H0 F H σ ds) (e : Ext F H F' H') : StR K F0 H0 F' H' σ ds :=
  ⟨r.ext.trans e, r.len, fun i s h => (r.at_ i s h).ext e, r.sep⟩
theorem StR.set {i : Nat} {v : V} {d : D} (r : StR K F0 H0 F H σ ds) (h : Rp K F v d) : StR K F0 H0 F H (σ.set i (some v)) (ds.set i (.va d)) := by
  refine ⟨r.ext, by rw [List.length_set, List.length_set, r.len], fun j s e => ?_, fun j k a h1 h2 e1 e2 => ?_⟩
  · by_cases q : i = j
    · subst q
      have hl : i < ds.length := by
        have z := (List.getElem?_eq_some_iff.mp e).1
        rwa [List.length_set] at z
      rw [List.getElem?_set_self hl] at e
      have e := Option.some.inj e
      subst e
      exact ⟨v, List.getElem?_set_self (by rw [r.len]; exact hl), h⟩
    · rw [List.getElem?_set_ne q] at e ⊢
      exact r.at_ j s e
  · have nm : ∀ k, Mine (ds.set i (.va d)) k → k ≠ i ∧ Mine ds k := fun k ⟨s, e, m⟩ => by
      by_cases q : i = k
      · subst q
        have hl : i < ds.length := by
          have z := (List.getElem?_eq_some_iff.mp e).1
          rwa [List.length_set] at z
        rw [List.getElem?_set_self hl] at e
        have e := Option.some.inj e
        subst e
        cases m
      · rw [List.getElem?_set_ne q] at e
        exact ⟨fun z => q z.symm, s, e, m⟩
    obtain ⟨n1, m1⟩ := nm j h1
    obtain ⟨n2, m2⟩ := nm k h2
    rw [List.getElem?_set_ne (Ne.symm n1)] at e1
    rw [List.getElem?_set_ne (Ne.symm n2)] at e2
    exact r.sep j k a m1 m2 e1 e2
/-- weaker knowledge of the slots: what is mine may be taken as fixed no more -/
theorem StR.forget {ds' : Sls} (r : StR K F0 H0 F H σ ds) (hl : ds'.length = ds.length) (h : ∀ (i : Nat) (s : Sl), ds'[i]? = some s → s = .no ∨ ds[i]? = some s) : StR K F0 H0 F H σ ds' := by
  refine ⟨r.ext, by rw [r.len, hl], fun i s e => ?_, fun i j a ⟨s, e1, m1⟩ ⟨t, e2, m2⟩ p q => ?_⟩
  · rcases h i s e with z | z
    · subst z; trivial
    · exact r.at_ i s z
  · refine r.sep i j a ⟨s, ?_, m1⟩ ⟨t, ?_, m2⟩ p q
    · rcases h i s e1 with z | z
      · subst z; cases m1
      · exact z
    · rcases h j t e2 with z | z
      · subst z; cases m2
      · exact z
end
end Vs

namespace Vs
open PySem PySem.Spec L2

/-! ### the weakest readings -/
section
variable (X : Cx)
def wpE (e : Expr) : TE := fun σ H Q => ∀ (pins : List (Addr × Obj)) (s : Shared), Inv X pins σ H s → wpAny (model X.prog X.w) X.A (eval e X.env) (EP X pins σ Q) X.xe s
def wpT (e : Expr) : TT := fun σ H Q => ∀ (pins : List (Addr × Obj)) (s : Shared), Inv X pins σ H s → wpAny (model X.prog X.w) X.A (isTrue e X.env (eval e X.env)) (TP X pins σ Q) X.xe s
def wpW (e : Expr) : TT := fun σ H Q => ∀ (whole : Sem Value) (pins : List (Addr × Obj)) (s : Shared), Inv X pins σ H s → wpAny (model X.prog X.w) X.A (isTrue e X.env whole) (TP X pins σ Q) X.xe s
def wpA (es : List Expr) : TA := fun σ H Q => ∀ (pos : Pos) (pins : List (Addr × Obj)) (s : Shared), Inv X pins σ H s → wpAny (model X.prog X.w) X.A (spliced (backTo pos (starEach es X.env))) (AP X pins σ Q) X.xe s
def wpS (st : Stmt) : TS := fun D σ H => ∀ (pins : List (Addr × Obj)) (s : Shared), Inv X pins σ H s → wpAny (model X.prog X.w) X.A (exec st X.env) (SP X pins D) X.xe s
def wpB (st : List Stmt) : TS := fun D σ H => ∀ (pins : List (Addr × Obj)) (s : Shared), Inv X pins σ H s → wpAny (model X.prog X.w) X.A (execs st X.env) (SP X pins D) X.xe s
def wpI (tg iter : Expr) : TI := fun σ H R => ∀ (pins : List (Addr × Obj)) (s : Shared), Inv X pins σ H s → wpAny (model X.prog X.w) X.A (eval iter X.env) (fun v s1 => wpAny (model X.prog X.w) X.A (pyIter v) (PIE X pins σ tg R) X.xe s1) X.xe s
def wpTs (ifs : List Expr) : TT := fun σ H Q => ∀ (pins : List (Addr × Obj)) (s : Shared), Inv X pins σ H s →
  wpAny (model X.prog X.w) X.A (forIn ifs true fun c r => if r = true then do let ok ← isTrue c X.env (eval c X.env); pure (ForInStep.yield ok) else pure (ForInStep.yield r)) (TP X pins σ Q) X.xe s
end
section
variable {X : Cx} {σ : St} {H : Hp}
theorem wpE_pe {e : Expr} : PE X e (wpE X e) := ⟨fun pins s σ H Q I h => h pins s I⟩
theorem wpT_pt {e : Expr} : PT X e (wpT X e) := ⟨fun pins s σ H Q I h => h pins s I⟩
theorem wpW_pw {e : Expr} : PW X e (wpW X e) := ⟨fun wh pins s σ H Q I h => h wh pins s I⟩
theorem wpA_pa {e : List Expr} : PA X e (wpA X e) := ⟨fun pos pins s σ H Q I h => h pos pins s I⟩
theorem wpS_ps {e : Stmt} : PS X e (wpS X e) := ⟨fun pins s σ H D I h => h pins s I⟩
theorem wpB_pss {e : List Stmt} : PSs X e (wpB X e) := ⟨fun pins s σ H D I h => h pins s I⟩
theorem wpI_pi {tg iter : Expr} : PI X tg iter (wpI X tg iter) := ⟨fun pins s σ H R I h => h pins s I⟩
theorem wpTs_pts {e : List Expr} : PTs X e (wpTs X e) := ⟨fun pins s σ H Q I h => h pins s I⟩
theorem toE {e : Expr} {te : TE} (h : PE X e te) {Q : VK} (q : te σ H Q) : wpE X e σ H Q := fun pins s I => h.run pins s σ H Q I q
theorem toT {e : Expr} {te : TT} (h : PT X e te) {Q : Bool → Hp → Prop} (q : te σ H Q) : wpT X e σ H Q := fun pins s I => h.run pins s σ H Q I q
theorem toW {e : Expr} {te : TT} (h : PW X e te) {Q : Bool → Hp → Prop} (q : te σ H Q) : wpW X e σ H Q := fun wh pins s I => h.run wh pins s σ H Q I q
theorem toA {e : List Expr} {te : TA} (h : PA X e te) {Q : List V → Hp → Prop} (q : te σ H Q) : wpA X e σ H Q := fun pos pins s I => h.run pos pins s σ H Q I q
theorem toS {e : Stmt} {te : TS} (h : PS X e te) {D : Ends} (q : te D σ H) : wpS X e D σ H := fun pins s I => h.run pins s σ H D I q
theorem toB {e : List Stmt} {te : TS} (h : PSs X e te) {D : Ends} (q : te D σ H) : wpB X e D σ H := fun pins s I => h.run pins s σ H D I q
theorem toI {tg e : Expr} {te : TI} (h : PI X tg e te) {R : It → Hp → Prop} (q : te σ H R) : wpI X tg e σ H R := fun pins s I => h.run pins s σ H R I q
theorem toTs {e : List Expr} {te : TT} (h : PTs X e te) {Q : Bool → Hp → Prop} (q : te σ H Q) : wpTs X e σ H Q := fun pins s I => h.run pins s σ H Q I q
end

/-! ### the judgements -/
abbrev RpAll (K : PySem.W.Frag) (H : Hp) : List V → List D → Prop := Paired (Rp K H)
theorem rpAll_mono {K : PySem.W.Frag} {H H' : Hp} (e : Same H H') : ∀ {vs : List V} {ds : List D}, RpAll K H vs ds → RpAll K H' vs ds
  | _, _, .nil => .nil
  | _, _, .cons h r => .cons (rp_mono e h) (rpAll_mono e r)
theorem rpAll_dp {K : PySem.W.Frag} {H : Hp} : ∀ {vs : List V} {ds : List D}, RpAll K H vs ds → ds.all nodict = true → DpAll K H vs ds
  | _, _, .nil, _ => .nil
  | _, _, .cons h r, n => by
    rw [List.all_cons, Bool.and_eq_true] at n
    exact .cons (rp_dp h n.1) (rpAll_dp r n.2)
/-- e gives the datum d -/
def EvE (X : Cx) (e : Expr) (ds : Sls) (d : D) : Prop := ∀ (F0 H0 F H : Hp) (σ : St), StR X.K F0 H0 F H σ ds → ∀ Q : VK, (∀ v F' H', Ext F H F' H' → Rp X.K F' v d → Q v H') → wpE X e σ H Q
/-- e gives a new list of its own -/
def EvN (X : Cx) (e : Expr) (ds : Sls) (xs : List D) : Prop := ∀ (F0 H0 F H : Hp) (σ : St), StR X.K F0 H0 F H σ ds → ∀ Q : VK,
  (∀ p vs F' H', Ext F H F' H' → H p = none → F' p = none → H' p = some (.lst vs) → DpAll X.K F' vs xs → Q (.ref p) H') → wpE X e σ H Q
/-- .. a new dict -/
def EvM (X : Cx) (e : Expr) (ds : Sls) (kv : List (Str × D)) : Prop := ∀ (F0 H0 F H : Hp) (σ : St), StR X.K F0 H0 F H σ ds → ∀ Q : VK,
  (∀ p ks F' H', Ext F H F' H' → H p = none → F' p = none → H' p = some (.dK ks) → KvR X.K F' ks kv → Q (.ref p) H') → wpE X e σ H Q
def EvT (X : Cx) (e : Expr) (ds : Sls) (b : Bool) : Prop := ∀ (F0 H0 F H : Hp) (σ : St), StR X.K F0 H0 F H σ ds → ∀ Q : Bool → Hp → Prop, (∀ F' H', Ext F H F' H' → Q b H') → wpT X e σ H Q
def EvW (X : Cx) (e : Expr) (ds : Sls) (b : Bool) : Prop := ∀ (F0 H0 F H : Hp) (σ : St), StR X.K F0 H0 F H σ ds → ∀ Q : Bool → Hp → Prop, (∀ F' H', Ext F H F' H' → Q b H') → wpW X e σ H Q
def EvA (X : Cx) (es : List Expr) (ds : Sls) (as : List D) : Prop := ∀ (F0 H0 F H : Hp) (σ : St), StR X.K F0 H0 F H σ ds → ∀ Q : List V → Hp → Prop, (∀ vs F' H', Ext F H F' H' → RpAll X.K F' vs as → Q vs H') → wpA X es σ H Q
def EvTs (X : Cx) (es : List Expr) (ds : Sls) (b : Bool) : Prop := ∀ (F0 H0 F H : Hp) (σ : St), StR X.K F0 H0 F H σ ds → ∀ Q : Bool → Hp → Prop, (∀ F' H', Ext F H F' H' → Q b H') → wpTs X es σ H Q

/-- where one stands: names by slot, the scope, room for k calls -/
structure Wh0 (X : Cx) (N : List Str) (sc : Scope) : Prop where
  hN : X.N = N
  nd : N.Nodup
  hsc : X.env.scope = sc
  kind : sc.kind = .function
structure Wh (X : Cx) (N : List Str) (sc : Scope) (k : Nat) : Prop extends Wh0 X N sc where
  calm : X.calm = true
  room : Room k X.A
/-- .. in a def's own body, where names are stored -/
structure WhS (X : Cx) (N : List Str) (sc : Scope) (k : Nat) : Prop extends Wh X N sc k where
  hp : PassesOwn (model X.prog X.w) X.A X.env X.xe
  fn : ∀ x, X.fn x = true
  stk : X.stack = X.env :: X.outer
  frm : X.env.frame = some X.env.locals

section
variable {X : Cx} {N : List Str} {sc : Scope} {k : Nat} {ds : Sls} {d d1 d2 d3 : D} {e a b c : Expr} {pos : Pos}
theorem EvE.cast {d' : D} (h : EvE X e ds d) (q : d = d') : EvE X e ds d' := q ▸ h
theorem EvT.cast {b b' : Bool} (h : EvT X e ds b) (q : b = b') : EvT X e ds b' := q ▸ h
theorem EvN.cast {x x' : List D} (h : EvN X e ds x) (q : x = x') : EvN X e ds x' := q ▸ h
theorem EvN.ev {xs : List D} (h : EvN X e ds xs) : EvE X e ds (.list xs) := fun F0 H0 F H σ r Q q => h F0 H0 F H σ r Q fun p vs F' H' x hp fp h' dp => by
  refine q (.ref p) (upd F' p (.lst vs)) H' ⟨x.f.trans (same_upd fp), x.h, fun b o z => ?_, fun a z n => ?_⟩ (rp_lst.mpr ⟨p, vs, rfl, SqL.of upd_same, dpAll_mono (same_upd fp) dp⟩)
  · by_cases e : b = p
    · subst e; rw [upd_same] at z; cases z; exact h'
    · rw [upd_ne e] at z; exact x.fh b o z
  · rw [upd_ne (fun z' => n (by rw [z']; exact hp))]; exact x.own a z n
theorem EvM.ev {kv : List (Str × D)} (h : EvM X e ds kv) : EvE X e ds (mD kv) := fun F0 H0 F H σ r Q q => h F0 H0 F H σ r Q fun p vs F' H' x hp fp h' dp => by
  refine q (.ref p) (upd F' p (.dK vs)) H' ⟨x.f.trans (same_upd fp), x.h, fun b o z => ?_, fun a z n => ?_⟩ (rp_dict.mpr ⟨p, vs, rfl, upd_same, kvR_mono (same_upd fp) dp⟩)
  · by_cases e : b = p
    · subst e; rw [upd_same] at z; cases z; exact h'
    · rw [upd_ne e] at z; exact x.fh b o z
  · rw [upd_ne (fun z' => n (by rw [z']; exact hp))]; exact x.own a z n

/-! ### names, constants -/
theorem ev_var (A : Wh X N sc k) (i : Nat) {x : Str} (hi : N[i]? = some x) (hv : Vis sc x) (h : ds[i]? = some (.va d)) (hd : (x == ("__debug__" : Str)) = false := by decide) (hcd : (x == ("__classdict__" : Str)) = false := by decide) : EvE X (.Name x pos) ds d := by
  intro F0 H0 F H σ r Q q
  obtain ⟨v, e1, e2⟩ := r.at_ i _ h
  refine toE (pe_var (i := i) (by rw [A.hN]; exact hi) (by rw [A.hsc]; exact hv) hd hcd) ⟨v, e1, q v F H (.refl r.fh) e2⟩
theorem ev_int {i : Int} {j : Nat} : EvE X (.Constant (.int i) j pos) ds (.int i) := fun F0 H0 F H σ r Q q => toE pe_int (q _ F H (.refl r.fh) (.int i))
theorem ev_bl {i : Bool} {j : Nat} : EvE X (.Constant (.bool i) j pos) ds (.bool i) := fun F0 H0 F H σ r Q q => toE pe_bl (q _ F H (.refl r.fh) (.bl i))
theorem ev_non {j : Nat} : EvE X (.Constant .none j pos) ds .none := fun F0 H0 F H σ r Q q => toE pe_non (q _ F H (.refl r.fh) .non)
theorem ev_str {x : Str} {j : Nat} : EvE X (.Constant (.str x) j pos) ds (.str x) := fun F0 H0 F H σ r Q q => toE pe_str (q _ F H (.refl r.fh) (.str x))
theorem Wh0.gl (A : Wh0 X N sc) {x : Str} (h : sc.names.lookup x = some .globalImplicit) : Gl X x := by
  show X.env.scope.names.lookup x = _
  rw [A.hsc]; exact h
/-- a constant of the module -/
def GlV (X : Cx) (x : Str) (d : D) : Prop := ∃ u v, X.mg x = some u ∧ RelV v u ∧ ∀ H, Rp X.K H v d
theorem ev_glob (A : Wh X N sc k) {x : Str} (g : GlV X x d) (hg : sc.names.lookup x = some .globalImplicit) (hd : (x == ("__debug__" : Str)) = false := by decide) : EvE X (.Name x pos) ds d := fun F0 H0 F H σ r Q q => by
  obtain ⟨u, v, h1, h2, h3⟩ := g
  exact toE (pe_glob (A.gl hg) h1 h2 hd) (q v F H (.refl r.fh) (h3 F))

/-! ### operators -/
/-- a rule of two operands, by data -/
def OpD (X : Cx) (r : R2) (d1 d2 d : D) : Prop := ∀ (v1 v2 : V) (F H : Hp) (Q : VK), Same F H → Rp X.K F v1 d1 → Rp X.K F v2 d2 → (∀ v F' H', Ext F H F' H' → Rp X.K F' v d → Q v H') → r v1 v2 H Q
theorem ev2 (ha : EvE X a ds d1) (hb : EvE X b ds d2) {F0 H0 F H : Hp} {σ : St} (r : StR X.K F0 H0 F H σ ds) {R : V → V → Hp → Prop}
    (q : ∀ v1 v2 F' H', Ext F H F' H' → Rp X.K F' v1 d1 → Rp X.K F' v2 d2 → R v1 v2 H') : wpE X a σ H fun x H1 => wpE X b σ H1 fun y H2 => R x y H2 :=
  ha F0 H0 F H σ r _ fun v1 F1 H1 x1 r1 => hb F0 H0 F1 H1 σ (r.to x1) _ fun v2 F2 H2 x2 r2 => q v1 v2 F2 H2 (x1.trans x2) (rp_mono x2.f r1) r2
theorem ev_op {op : Operator} {r : R2} (ho : OpR X (binaryOp op) r) (ha : EvE X a ds d1) (hb : EvE X b ds d2) (hr : OpD X r d1 d2 d) : EvE X (.BinOp a op b pos) ds d := fun F0 H0 F H σ s Q q =>
  toE (pe_op ho wpE_pe wpE_pe) (ev2 ha hb s fun v1 v2 F' H' x r1 r2 => hr v1 v2 F' H' Q x.fh r1 r2 fun v F2 H2 x2 r3 => q v F2 H2 (x.trans x2) r3)
theorem ev_cmp {op : CmpOp} {r : R2} (ho : OpR X (compareOp op) r) (ha : EvE X a ds d1) (hb : EvE X b ds d2) (hr : OpD X r d1 d2 d) (hm : behindInMarks op b = false) : EvE X (.Compare a [op] [b] pos) ds d := fun F0 H0 F H σ s Q q =>
  toE (pe_cmpR ho wpE_pe wpE_pe hm) (ev2 ha hb s fun v1 v2 F' H' x r1 r2 => hr v1 v2 F' H' Q x.fh r1 r2 fun v F2 H2 x2 r3 => q v F2 H2 (x.trans x2) r3)
theorem evt_cmp {op : CmpOp} {r : R2} {k : Bool} (ho : OpR X (compareOp op) r) (ha : EvE X a ds d1) (hb : EvE X b ds d2) (hr : OpD X r d1 d2 (.bool k)) (hm : behindInMarks op b = false) : EvT X (.Compare a [op] [b] pos) ds k := fun F0 H0 F H σ s Q q =>
  toT (pt_cmpR ho wpE_pe wpE_pe hm) (ev2 ha hb s fun v1 v2 F' H' x r1 r2 => hr v1 v2 F' H' _ x.fh r1 r2 fun v F2 H2 x2 r3 => ⟨k, rp_bl.mp r3, q F2 H2 (x.trans x2)⟩)
theorem opd_I {C : Int → Int → Prop} {g : Int → Int → Int} {i j : Int} (hc : C i j) : OpD X (rI C fun i j => .int (g i j)) (.int i) (.int j) (.int (g i j)) := fun v1 v2 F H Q s r1 r2 q =>
  ⟨i, j, rp_int.mp r1, rp_int.mp r2, hc, q _ F H (.refl s) (.int _)⟩
theorem opd_I0 {g : Int → Int → Int} {i j : Int} : OpD X (rI0 fun i j => .int (g i j)) (.int i) (.int j) (.int (g i j)) := fun v1 v2 F H Q s r1 r2 q =>
  ⟨i, j, rp_int.mp r1, rp_int.mp r2, q _ F H (.refl s) (.int _)⟩
theorem opd_B0 {g : Int → Int → Bool} {i j : Int} : OpD X (rI0 fun i j => .bl (g i j)) (.int i) (.int j) (.bool (g i j)) := fun v1 v2 F H Q s r1 r2 q =>
  ⟨i, j, rp_int.mp r1, rp_int.mp r2, q _ F H (.refl s) (.bl _)⟩
variable {i j : Int} {x y : Str}
theorem ev_add (ha : EvE X a ds (.int i)) (hb : EvE X b ds (.int j)) : EvE X (.BinOp a .Add b pos) ds (.int (i + j)) := ev_op op_add ha hb opd_I0
theorem ev_sub (ha : EvE X a ds (.int i)) (hb : EvE X b ds (.int j)) : EvE X (.BinOp a .Sub b pos) ds (.int (i - j)) := ev_op op_sub ha hb opd_I0
theorem ev_mul (ha : EvE X a ds (.int i)) (hb : EvE X b ds (.int j)) (h : CMul i j) : EvE X (.BinOp a .Mult b pos) ds (.int (i * j)) := ev_op op_mul ha hb (opd_I h)
theorem ev_mulW (ha : EvE X a ds (.int i)) (hb : EvE X b ds (.int j)) (h : CMulW i j) : EvE X (.BinOp a .Mult b pos) ds (.int (i * j)) := ev_op op_mulW ha hb (opd_I h)
theorem ev_fdiv (ha : EvE X a ds (.int i)) (hb : EvE X b ds (.int j)) (h : CDiv i j) : EvE X (.BinOp a .FloorDiv b pos) ds (.int (i / j)) := ev_op op_fdiv ha hb (opd_I h)
theorem ev_fdivW (ha : EvE X a ds (.int i)) (hb : EvE X b ds (.int j)) (h : CDivW i j) : EvE X (.BinOp a .FloorDiv b pos) ds (.int (i / j)) := ev_op op_fdivW ha hb (opd_I h)
theorem ev_mod (ha : EvE X a ds (.int i)) (hb : EvE X b ds (.int j)) (h : 0 < j) : EvE X (.BinOp a .Mod b pos) ds (.int (i % j)) := ev_op op_mod ha hb (opd_I h)
theorem ev_pow (ha : EvE X a ds (.int i)) (hb : EvE X b ds (.int j)) (h : CPow i j) : EvE X (.BinOp a .Pow b pos) ds (.int (i ^ j.toNat)) := ev_op op_pow ha hb (opd_I h)
theorem ev_neg (ha : EvE X a ds (.int i)) : EvE X (.UnaryOp .USub a pos) ds (.int (-i)) := fun F0 H0 F H σ s Q q =>
  toE (pe_un un_neg wpE_pe) (ha F0 H0 F H σ s _ fun v F' H' x r => ⟨i, rp_int.mp r, q _ F' H' x (.int _)⟩)
theorem ev_addS (ha : EvE X a ds (.str x)) (hb : EvE X b ds (.str y)) (h : x.length + y.length ≤ sizeLine) : EvE X (.BinOp a .Add b pos) ds (.str (x ++ y)) :=
  ev_op op_add_str ha hb fun v1 v2 F H Q s r1 r2 q => ⟨x, y, rp_str.mp r1, rp_str.mp r2, h, q _ F H (.refl s) (.str _)⟩
/-! comparisons of ints -/
theorem ev_lt (ha : EvE X a ds (.int i)) (hb : EvE X b ds (.int j)) : EvE X (.Compare a [.Lt] [b] pos) ds (.bool (decide (i < j))) := ev_cmp op_lt ha hb opd_B0 (nomark _)
theorem ev_le (ha : EvE X a ds (.int i)) (hb : EvE X b ds (.int j)) : EvE X (.Compare a [.LtE] [b] pos) ds (.bool (decide (i ≤ j))) := ev_cmp op_le ha hb opd_B0 (nomark _)
theorem ev_gt (ha : EvE X a ds (.int i)) (hb : EvE X b ds (.int j)) : EvE X (.Compare a [.Gt] [b] pos) ds (.bool (decide (j < i))) := ev_cmp op_gt ha hb opd_B0 (nomark _)
theorem ev_ge (ha : EvE X a ds (.int i)) (hb : EvE X b ds (.int j)) : EvE X (.Compare a [.GtE] [b] pos) ds (.bool (decide (j ≤ i))) := ev_cmp op_ge ha hb opd_B0 (nomark _)
theorem evt_lt (ha : EvE X a ds (.int i)) (hb : EvE X b ds (.int j)) : EvT X (.Compare a [.Lt] [b] pos) ds (decide (i < j)) := evt_cmp op_lt ha hb opd_B0 (nomark _)
theorem evt_le (ha : EvE X a ds (.int i)) (hb : EvE X b ds (.int j)) : EvT X (.Compare a [.LtE] [b] pos) ds (decide (i ≤ j)) := evt_cmp op_le ha hb opd_B0 (nomark _)
theorem evt_gt (ha : EvE X a ds (.int i)) (hb : EvE X b ds (.int j)) : EvT X (.Compare a [.Gt] [b] pos) ds (decide (j < i)) := evt_cmp op_gt ha hb opd_B0 (nomark _)
theorem evt_ge (ha : EvE X a ds (.int i)) (hb : EvE X b ds (.int j)) : EvT X (.Compare a [.GtE] [b] pos) ds (decide (j ≤ i)) := evt_cmp op_ge ha hb opd_B0 (nomark _)
theorem opd_eqI : OpD X rEq (.int i) (.int j) (.bool (decide (i = j))) := fun v1 v2 F H Q s r1 r2 q => by
  rw [rp_int.mp r1, rp_int.mp r2]
  refine ⟨rfl, ?_⟩
  rw [dec_int, Bool.beq_eq_decide_eq]
  exact q _ F H (.refl s) (.bl _)
theorem opd_neI : OpD X rNe (.int i) (.int j) (.bool (!decide (i = j))) := fun v1 v2 F H Q s r1 r2 q => by
  rw [rp_int.mp r1, rp_int.mp r2]
  refine ⟨rfl, ?_⟩
  rw [dec_int, Bool.beq_eq_decide_eq]
  exact q _ F H (.refl s) (.bl _)
theorem opd_eqS : OpD X rEq (.str x) (.str y) (.bool (decide (x = y))) := fun v1 v2 F H Q s r1 r2 q => by
  rw [rp_str.mp r1, rp_str.mp r2]
  refine ⟨rfl, ?_⟩
  rw [dec_str, Bool.beq_eq_decide_eq]
  exact q _ F H (.refl s) (.bl _)
theorem opd_neS : OpD X rNe (.str x) (.str y) (.bool (!decide (x = y))) := fun v1 v2 F H Q s r1 r2 q => by
  rw [rp_str.mp r1, rp_str.mp r2]
  refine ⟨rfl, ?_⟩
  rw [dec_str, Bool.beq_eq_decide_eq]
  exact q _ F H (.refl s) (.bl _)
theorem ev_eqI (ha : EvE X a ds (.int i)) (hb : EvE X b ds (.int j)) : EvE X (.Compare a [.Eq] [b] pos) ds (.bool (decide (i = j))) := ev_cmp op_eq ha hb opd_eqI (nomark _)
theorem ev_neI (ha : EvE X a ds (.int i)) (hb : EvE X b ds (.int j)) : EvE X (.Compare a [.NotEq] [b] pos) ds (.bool (!decide (i = j))) := ev_cmp op_ne ha hb opd_neI (nomark _)
theorem ev_eqS (ha : EvE X a ds (.str x)) (hb : EvE X b ds (.str y)) : EvE X (.Compare a [.Eq] [b] pos) ds (.bool (decide (x = y))) := ev_cmp op_eq ha hb opd_eqS (nomark _)
theorem ev_neS (ha : EvE X a ds (.str x)) (hb : EvE X b ds (.str y)) : EvE X (.Compare a [.NotEq] [b] pos) ds (.bool (!decide (x = y))) := ev_cmp op_ne ha hb opd_neS (nomark _)
theorem evt_eqI (ha : EvE X a ds (.int i)) (hb : EvE X b ds (.int j)) : EvT X (.Compare a [.Eq] [b] pos) ds (decide (i = j)) := evt_cmp op_eq ha hb opd_eqI (nomark _)
theorem evt_neI (ha : EvE X a ds (.int i)) (hb : EvE X b ds (.int j)) : EvT X (.Compare a [.NotEq] [b] pos) ds (!decide (i = j)) := evt_cmp op_ne ha hb opd_neI (nomark _)
theorem evt_eqS (ha : EvE X a ds (.str x)) (hb : EvE X b ds (.str y)) : EvT X (.Compare a [.Eq] [b] pos) ds (decide (x = y)) := evt_cmp op_eq ha hb opd_eqS (nomark _)
theorem evt_neS (ha : EvE X a ds (.str x)) (hb : EvE X b ds (.str y)) : EvT X (.Compare a [.NotEq] [b] pos) ds (!decide (x = y)) := evt_cmp op_ne ha hb opd_neS (nomark _)
/-! any data -/
theorem opd_eqD (h1 : nodict d1 = true) (h2 : nodict d2 = true) (s1 : SeqAt.shaped d1 = true) (s2 : SeqAt.shaped d2 = true) : OpD X (rEqD X.K) d1 d2 (.bool (PyData.eqv d1 d2)) := fun v1 v2 F H Q s r1 r2 q =>
  ⟨d1, d2, dp_mono s (rp_dp r1 h1), dp_mono s (rp_dp r2 h2), s1, s2, q _ F H (.refl s) (.bl _)⟩
theorem opd_neD (h1 : nodict d1 = true) (h2 : nodict d2 = true) (s1 : SeqAt.shaped d1 = true) (s2 : SeqAt.shaped d2 = true) : OpD X (rNeD X.K) d1 d2 (.bool (!PyData.eqv d1 d2)) := fun v1 v2 F H Q s r1 r2 q =>
  ⟨d1, d2, dp_mono s (rp_dp r1 h1), dp_mono s (rp_dp r2 h2), s1, s2, q _ F H (.refl s) (.bl _)⟩
theorem Wh.u64 (A : Wh X N sc k) : X.A.units + 64 < cLine := A.room.units
theorem Wh.u1 (A : Wh X N sc k) : X.A.units + 1 < cLine := by have := A.room.units; omega
theorem ev_eqD (A : Wh X N sc k) (ha : EvE X a ds d1) (hb : EvE X b ds d2) (h1 : nodict d1 = true) (h2 : nodict d2 = true) (s1 : SeqAt.shaped d1 = true) (s2 : SeqAt.shaped d2 = true) : EvE X (.Compare a [.Eq] [b] pos) ds (.bool (PyData.eqv d1 d2)) := ev_cmp (op_eqD A.u64) ha hb (opd_eqD h1 h2 s1 s2) (nomark _)
theorem ev_neD (A : Wh X N sc k) (ha : EvE X a ds d1) (hb : EvE X b ds d2) (h1 : nodict d1 = true) (h2 : nodict d2 = true) (s1 : SeqAt.shaped d1 = true) (s2 : SeqAt.shaped d2 = true) : EvE X (.Compare a [.NotEq] [b] pos) ds (.bool (!PyData.eqv d1 d2)) := ev_cmp (op_neD A.u64) ha hb (opd_neD h1 h2 s1 s2) (nomark _)
theorem evt_eqD (A : Wh X N sc k) (ha : EvE X a ds d1) (hb : EvE X b ds d2) (h1 : nodict d1 = true) (h2 : nodict d2 = true) (s1 : SeqAt.shaped d1 = true) (s2 : SeqAt.shaped d2 = true) : EvT X (.Compare a [.Eq] [b] pos) ds (PyData.eqv d1 d2) := evt_cmp (op_eqD A.u64) ha hb (opd_eqD h1 h2 s1 s2) (nomark _)
theorem evt_neD (A : Wh X N sc k) (ha : EvE X a ds d1) (hb : EvE X b ds d2) (h1 : nodict d1 = true) (h2 : nodict d2 = true) (s1 : SeqAt.shaped d1 = true) (s2 : SeqAt.shaped d2 = true) : EvT X (.Compare a [.NotEq] [b] pos) ds (!PyData.eqv d1 d2) := evt_cmp (op_neD A.u64) ha hb (opd_neD h1 h2 s1 s2) (nomark _)
/-! is None -/
def isNone : D → Bool
  | .none => true
  | _ => false
theorem rp_isNone {K : PySem.W.Frag} {H : Hp} {v : V} {d : D} (h : Rp K H v d) : decide (v = .non) = isNone d := by
  cases d with
  | none => rw [rp_non.mp h]; rfl
  | bool b => rw [rp_bl.mp h]; rfl
  | int b => rw [rp_int.mp h]; rfl
  | str b => rw [rp_str.mp h]; rfl
  | list b => obtain ⟨_, _, e, _⟩ := rp_lst.mp h; rw [e]; rfl
  | tuple b => obtain ⟨_, _, e, _⟩ := rp_tup.mp h; rw [e]; rfl
  | dict b => obtain ⟨_, _, _, _, e, _⟩ := h; rw [e]; rfl
theorem ev_isN {j : Nat} {p2 : Pos} (ha : EvE X a ds d1) : EvE X (.Compare a [.Is] [.Constant .none j p2] pos) ds (.bool (isNone d1)) := ev_cmp op_isN ha ev_non (fun v1 v2 F H Q s r1 r2 q => ⟨rp_non.mp r2, by rw [rp_isNone r1]; exact q _ F H (.refl s) (.bl _)⟩) (nomark _)
theorem ev_notN {j : Nat} {p2 : Pos} (ha : EvE X a ds d1) : EvE X (.Compare a [.IsNot] [.Constant .none j p2] pos) ds (.bool (!isNone d1)) := ev_cmp op_notN ha ev_non (fun v1 v2 F H Q s r1 r2 q => ⟨rp_non.mp r2, by rw [rp_isNone r1]; exact q _ F H (.refl s) (.bl _)⟩) (nomark _)
theorem evt_isN {j : Nat} {p2 : Pos} (ha : EvE X a ds d1) : EvT X (.Compare a [.Is] [.Constant .none j p2] pos) ds (isNone d1) := evt_cmp op_isN ha ev_non (fun v1 v2 F H Q s r1 r2 q => ⟨rp_non.mp r2, by rw [rp_isNone r1]; exact q _ F H (.refl s) (.bl _)⟩) (nomark _)
theorem evt_notN {j : Nat} {p2 : Pos} (ha : EvE X a ds d1) : EvT X (.Compare a [.IsNot] [.Constant .none j p2] pos) ds (!isNone d1) := evt_cmp op_notN ha ev_non (fun v1 v2 F H Q s r1 r2 q => ⟨rp_non.mp r2, by rw [rp_isNone r1]; exact q _ F H (.refl s) (.bl _)⟩) (nomark _)

/-! ### tests -/
variable {t1 t2 : Bool} {rest : List Expr}
theorem evt_val (h : EvE X e ds (.bool t1)) (he : ∀ whole, isTrue e X.env whole = (do let v ← whole; standAt e.pos; holding [v] (truthy v)) := by intro _; rfl) : EvT X e ds t1 := fun F0 H0 F H σ s Q q =>
  toT (pt_val wpE_pe he) (h F0 H0 F H σ s _ fun v F' H' x r => ⟨t1, rp_bl.mp r, q F' H' x⟩)
theorem evt_not (h : EvT X e ds t1) : EvT X (.UnaryOp .Not e pos) ds (!t1) := fun F0 H0 F H σ s Q q =>
  toT (pt_not wpT_pt) (h F0 H0 F H σ s _ fun F' H' x => q F' H' x)
theorem evw_and1 (h : EvT X a ds t1) : EvW X (.BoolOp .And [a] pos) ds t1 := fun F0 H0 F H σ s Q q => toW (pw_and1 wpT_pt) (h F0 H0 F H σ s _ q)
theorem evw_or1 (h : EvT X a ds t1) : EvW X (.BoolOp .Or [a] pos) ds t1 := fun F0 H0 F H σ s Q q => toW (pw_or1 wpT_pt) (h F0 H0 F H σ s _ q)
theorem evw_and (h1 : EvT X a ds t1) (h2 : t1 = true → EvW X (.BoolOp .And (b :: rest) pos) ds t2) : EvW X (.BoolOp .And (a :: b :: rest) pos) ds (t1 && t2) := fun F0 H0 F H σ s Q q =>
  toW (pw_and wpT_pt wpW_pw) (h1 F0 H0 F H σ s _ fun F' H' x => by
    cases t1 with
    | true => rw [if_pos rfl]; exact h2 rfl F0 H0 F' H' σ (s.to x) Q fun F2 H2 x2 => q F2 H2 (x.trans x2)
    | false => rw [if_neg (by decide)]; exact q F' H' x)
theorem evw_or (h1 : EvT X a ds t1) (h2 : t1 = false → EvW X (.BoolOp .Or (b :: rest) pos) ds t2) : EvW X (.BoolOp .Or (a :: b :: rest) pos) ds (t1 || t2) := fun F0 H0 F H σ s Q q =>
  toW (pw_or wpT_pt wpW_pw) (h1 F0 H0 F H σ s _ fun F' H' x => by
    cases t1 with
    | true => rw [if_pos rfl]; exact q F' H' x
    | false => rw [if_neg (by decide)]; exact h2 rfl F0 H0 F' H' σ (s.to x) Q fun F2 H2 x2 => q F2 H2 (x.trans x2))
theorem EvW.t (h : EvW X e ds t1) : EvT X e ds t1 := fun F0 H0 F H σ s Q q => toT (wpW_pw.pt) (h F0 H0 F H σ s Q q)
theorem ev_one {op : BoolOp} (h : EvE X a ds d) : EvE X (.BoolOp op [a] pos) ds d := fun F0 H0 F H σ s Q q => toE (pe_one wpE_pe) (h F0 H0 F H σ s Q q)
theorem ev_and (h1 : EvE X a ds (.bool t1)) (h2 : t1 = true → EvE X (.BoolOp .And (b :: rest) pos) ds (.bool t2)) : EvE X (.BoolOp .And (a :: b :: rest) pos) ds (.bool (t1 && t2)) := fun F0 H0 F H σ s Q q =>
  toE (pe_and wpE_pe wpE_pe) (h1 F0 H0 F H σ s _ fun v F' H' x r => ⟨t1, rp_bl.mp r, by
    cases t1 with
    | true => rw [if_pos rfl]; exact h2 rfl F0 H0 F' H' σ (s.to x) Q fun v F2 H2 x2 => q v F2 H2 (x.trans x2)
    | false => rw [if_neg (by decide)]; exact q _ F' H' x (.bl _)⟩)
theorem ev_or (h1 : EvE X a ds (.bool t1)) (h2 : t1 = false → EvE X (.BoolOp .Or (b :: rest) pos) ds (.bool t2)) : EvE X (.BoolOp .Or (a :: b :: rest) pos) ds (.bool (t1 || t2)) := fun F0 H0 F H σ s Q q =>
  toE (pe_or wpE_pe wpE_pe) (h1 F0 H0 F H σ s _ fun v F' H' x r => ⟨t1, rp_bl.mp r, by
    cases t1 with
    | true => rw [if_pos rfl]; exact q _ F' H' x (.bl _)
    | false => rw [if_neg (by decide)]; exact h2 rfl F0 H0 F' H' σ (s.to x) Q fun v F2 H2 x2 => q v F2 H2 (x.trans x2)⟩)
theorem ev_not (h : EvE X a ds (.bool t1)) : EvE X (.UnaryOp .Not a pos) ds (.bool (!t1)) := fun F0 H0 F H σ s Q q =>
  toE (pe_not wpE_pe) (h F0 H0 F H σ s _ fun v F' H' x r => ⟨t1, rp_bl.mp r, q _ F' H' x (.bl _)⟩)
theorem ev_ifT (hc : EvT X c ds t1) (e : t1 = true) (ha : EvE X a ds d) : EvE X (.IfExp c a b pos) ds d := fun F0 H0 F H σ s Q q =>
  toE (pe_ifExp wpT_pt wpE_pe wpE_pe) (hc F0 H0 F H σ s _ fun F' H' x => by
    rw [if_pos e]; exact ha F0 H0 F' H' σ (s.to x) Q fun v F2 H2 x2 => q v F2 H2 (x.trans x2))
theorem ev_ifF (hc : EvT X c ds t1) (e : t1 = false) (hb : EvE X b ds d) : EvE X (.IfExp c a b pos) ds d := fun F0 H0 F H σ s Q q =>
  toE (pe_ifExp wpT_pt wpE_pe wpE_pe) (hc F0 H0 F H σ s _ fun F' H' x => by
    rw [if_neg (by rw [e]; decide)]; exact hb F0 H0 F' H' σ (s.to x) Q fun v F2 H2 x2 => q v F2 H2 (x.trans x2))
/-- lo <= n <= hi -/
theorem evt_chain {op op' : CmpOp} {r r' : R2} (ho : OpR X (compareOp op) r) (ho' : OpR X (compareOp op') r') (ha : EvE X a ds d1) (hb : EvE X b ds d2) (hc : EvE X c ds d3) (h1 : OpD X r d1 d2 (.bool t1)) (h2 : OpD X r' d2 d3 (.bool t2))
    (hm : lastMarks [op, op'] [b, c] = false := by with_unfolding_all rfl) : EvT X (.Compare a [op, op'] [b, c] pos) ds (t1 && t2) := fun F0 H0 F H σ s Q q => by
  refine toT (pt_chain ho ho' wpE_pe wpE_pe wpE_pe hm) ?_
  refine ev2 ha hb s fun v1 v2 F' H' x r1 r2 => h1 v1 v2 F' H' _ x.fh r1 r2 fun v F2 H2 x2 r3 => ⟨t1, rp_bl.mp r3, ?_⟩
  cases t1 with
  | false => rw [if_neg (by decide)]; exact ⟨false, rfl, q F2 H2 (x.trans x2)⟩
  | true =>
    rw [if_pos rfl]
    exact hc F0 H0 F2 H2 σ (s.to (x.trans x2)) _ fun w F3 H3 x3 r4 => h2 v2 w F3 H3 _ x3.fh (rp_mono (x2.f.trans x3.f) r2) r4 fun v' F4 H4 x4 r5 => ⟨t2, rp_bl.mp r5, q F4 H4 (((x.trans x2).trans x3).trans x4)⟩
theorem evt_lele (ha : EvE X a ds (.int i)) {j2 : Int} (hb : EvE X b ds (.int j)) (hc : EvE X c ds (.int j2)) (hm : lastMarks [.LtE, .LtE] [b, c] = false := by with_unfolding_all rfl) : EvT X (.Compare a [.LtE, .LtE] [b, c] pos) ds (decide (i ≤ j) && decide (j ≤ j2)) :=
  evt_chain op_le op_le ha hb hc opd_B0 opd_B0 hm
end
end Vs

namespace Vs
open PySem PySem.Spec L2

section
variable {X : Cx} {N : List Str} {sc : Scope} {k : Nat} {ds : Sls} {d d1 d2 d3 : D} {as : List D} {e a b c o : Expr} {es : List Expr} {pos : Pos} {x : Str}

def GlS (sc : Scope) (x : Str) : Prop := sc.names.lookup x = some .globalImplicit
/-! ### argument lists, displays -/
theorem eva_nil : EvA X [] ds [] := fun F0 H0 F H σ s Q q => toA pa_nil (q [] F H (.refl s.fh) .nil)
theorem eva_cons (h : EvE X e ds d) (hr : EvA X es ds as) (hs : starEach (e :: es) X.env = (false, eval e X.env) :: starEach es X.env := by rfl) : EvA X (e :: es) ds (d :: as) := fun F0 H0 F H σ s Q q =>
  toA (pa_cons wpE_pe wpA_pa hs) (h F0 H0 F H σ s _ fun v F1 H1 x1 r1 => hr F0 H0 F1 H1 σ (s.to x1) _ fun vs F2 H2 x2 r2 => q (v :: vs) F2 H2 (x1.trans x2) (.cons (rp_mono x2.f r1) r2))
theorem ev_tup {n : Nat} (h : EvA X es ds as) (hn : as.all nodict = true) (hl : as.length ≤ sizeLine) : EvE X (.Tuple es n pos) ds (.tuple as) := fun F0 H0 F H σ s Q q =>
  toE (pe_tup wpA_pa) (h F0 H0 F H σ s _ fun vs F1 H1 x1 r1 => by
    have dp := rpAll_dp r1 hn
    refine ⟨by rw [dpAll_len dp]; exact hl, fun p hp => ?_⟩
    have x2 : Ext F1 H1 (upd F1 p (.tup vs)) (upd H1 p (.tup vs)) := .new x1.fh hp
    exact q _ _ _ (x1.trans x2) (rp_tup.mpr ⟨p, vs, rfl, SqT.of upd_same, dpAll_mono x2.f dp⟩))
theorem evn_lst (h : EvA X es ds as) (hn : as.all nodict = true) (hl : as.length ≤ sizeLine) : EvN X (.List es pos) ds as := fun F0 H0 F H σ s Q q =>
  toE (pe_lst wpA_pa) (h F0 H0 F H σ s _ fun vs F1 H1 x1 r1 => by
    have dp := rpAll_dp r1 hn
    refine ⟨by rw [dpAll_len dp]; exact hl, fun p hp => ?_⟩
    exact q p vs F1 _ (x1.trans (.newO x1.fh hp)) (x1.h.free hp) (x1.fh.free hp) upd_same dp)
theorem evm_nil : EvM X (.Dict [] [] pos) ds [] := fun F0 H0 F H σ s Q q =>
  toE pe_dnewK fun p hp => q p [] F _ (.newO s.fh hp) hp (s.fh.free hp) upd_same .nil

/-! ### what is mine, taken as fixed -/
inductive FrS : Sl → Sl → Prop where
  | same (s : Sl) : FrS s s
  | ow (xs : List D) : FrS (.ow xs) (.va (.list xs))
  | od (kv : List (Str × D)) : FrS (.od kv) (.va (mD kv))
abbrev Frz : Sls → Sls → Prop := Paired FrS
theorem frz_get : ∀ {ds ds' : Sls} {i : Nat} {s' : Sl}, Frz ds ds' → ds'[i]? = some s' → ∃ s, ds[i]? = some s ∧ FrS s s'
  | _, _, _, _, .nil, e => by simp at e
  | _, _, 0, _, .cons h _, e => by
    have e := Option.some.inj e
    subst e
    exact ⟨_, rfl, h⟩
  | _, _, i + 1, _, .cons _ r, e => frz_get (i := i) r e
theorem frz_get' : ∀ {ds ds' : Sls} {i : Nat} {s : Sl}, Frz ds ds' → ds[i]? = some s → ∃ s', ds'[i]? = some s' ∧ FrS s s'
  | _, _, _, _, .nil, e => by simp at e
  | _, _, 0, _, .cons h _, e => by
    have e := Option.some.inj e
    subst e
    exact ⟨_, rfl, h⟩
  | _, _, i + 1, _, .cons _ r, e => frz_get' (i := i) r e
theorem frz_len : ∀ {ds ds' : Sls}, Frz ds ds' → ds'.length = ds.length
  | _, _, .nil => rfl
  | _, _, .cons _ r => congrArg (· + 1) (frz_len r)
open Classical in
/-- the fixed part with the frozen slots' objects -/
noncomputable def frzH (F H : Hp) (σ : St) (ds ds' : Sls) : Hp := fun b => if ∃ i, Mine ds i ∧ ¬ Mine ds' i ∧ σ[i]? = some (some (.ref b)) then H b else F b
theorem StR.mine {K : PySem.W.Frag} {F0 H0 F H : Hp} {σ : St} (r : StR K F0 H0 F H σ ds) {i : Nat} {b : Addr} (m : Mine ds i) (e : σ[i]? = some (some (.ref b))) : H0 b = none ∧ F b = none := by
  obtain ⟨s, h1, h2⟩ := m
  have q := r.at_ i s h1
  cases s with
  | no => cases h2
  | rf a => cases h2
  | va d => cases h2
  | ow xs =>
    obtain ⟨a, vs, e1, e2, e3, _⟩ := q
    rw [e] at e1
    cases e1
    exact ⟨e2, e3⟩
  | od xs =>
    obtain ⟨a, vs, e1, e2, e3, _⟩ := q
    rw [e] at e1
    cases e1
    exact ⟨e2, e3⟩
theorem StR.frz {K : PySem.W.Frag} {F0 H0 F H : Hp} {σ : St} {ds' : Sls} (r : StR K F0 H0 F H σ ds) (z : Frz ds ds') : ∃ F1, StR K F0 H0 F1 H σ ds' ∧ Same F F1 := by
  have inF : ∀ {b : Addr} {i : Nat}, Mine ds i → ¬ Mine ds' i → σ[i]? = some (some (.ref b)) → frzH F H σ ds ds' b = H b := fun {b i} h1 h2 h3 => if_pos ⟨i, h1, h2, h3⟩
  have outF : ∀ {b : Addr}, (∀ i, Mine ds i → ¬ Mine ds' i → σ[i]? ≠ some (some (.ref b))) → frzH F H σ ds ds' b = F b := fun {b} h => if_neg fun ⟨i, h1, h2, h3⟩ => h i h1 h2 h3
  have sF : Same F (frzH F H σ ds ds') := fun b o e => by
    rw [outF]
    · exact e
    · intro i h1 _ h3
      rw [(r.mine h1 h3).2] at e
      cases e
  refine ⟨frzH F H σ ds ds', ⟨⟨r.ext.f.trans sF, r.ext.h, fun b o e => ?_, fun b e n => ?_⟩, by rw [r.len, frz_len z], fun i s e => ?_, fun i j a m1 m2 e1 e2 => ?_⟩, sF⟩
  · unfold frzH at e
    split at e
    · exact e
    · exact r.fh b o e
  · rw [outF]
    · exact r.ext.own b e n
    · intro i h1 _ h3
      exact n (r.mine h1 h3).1
  · obtain ⟨s0, e0, f⟩ := frz_get z e
    have q := r.at_ i s0 e0
    have nm : ∀ d, ds'[i]? = some (.va d) → ¬ Mine ds' i := fun d h ⟨t, h1, h2⟩ => by
      rw [h] at h1
      cases h1
      cases h2
    cases f with
    | same =>
      cases s with
      | no => trivial
      | rf a => exact q
      | va d =>
        obtain ⟨v, h1, h2⟩ := q
        exact ⟨v, h1, rp_mono sF h2⟩
      | ow xs =>
        obtain ⟨a, vs, h1, h2, h3, h4, h5⟩ := q
        refine ⟨a, vs, h1, h2, ?_, h4, dpAll_mono sF h5⟩
        rw [outF]
        · exact h3
        · intro j m1 m2 h6
          have e := r.sep j i a m1 ⟨_, e0, rfl⟩ h6 h1
          subst e
          exact m2 ⟨_, e, rfl⟩
      | od xs =>
        obtain ⟨a, vs, h1, h2, h3, h4, h5⟩ := q
        refine ⟨a, vs, h1, h2, ?_, h4, kvR_mono sF h5⟩
        rw [outF]
        · exact h3
        · intro j m1 m2 h6
          have e := r.sep j i a m1 ⟨_, e0, rfl⟩ h6 h1
          subst e
          exact m2 ⟨_, e, rfl⟩
    | ow xs =>
      obtain ⟨a, vs, h1, h2, h3, h4, h5⟩ := q
      refine ⟨.ref a, h1, rp_lst.mpr ⟨a, vs, rfl, SqL.of ?_, dpAll_mono sF h5⟩⟩
      rw [inF ⟨_, e0, rfl⟩ (nm _ e) h1]
      exact h4
    | od xs =>
      obtain ⟨a, vs, h1, h2, h3, h4, h5⟩ := q
      refine ⟨.ref a, h1, rp_dict.mpr ⟨a, vs, rfl, ?_, kvR_mono sF h5⟩⟩
      rw [inF ⟨_, e0, rfl⟩ (nm _ e) h1]
      exact h4
  · have w : ∀ i, Mine ds' i → Mine ds i := fun i ⟨s, h1, h2⟩ => by
      obtain ⟨s0, e0, f⟩ := frz_get z h1
      cases f with
      | same => exact ⟨_, e0, h2⟩
      | ow => cases h2
      | od => cases h2
    exact r.sep i j a (w i m1) (w j m2) e1 e2
def frzAll : Sls → Sls
  | [] => []
  | .ow xs :: r => .va (.list xs) :: frzAll r
  | .od kv :: r => .va (mD kv) :: frzAll r
  | .no :: r => .no :: frzAll r
  | .rf a :: r => .rf a :: frzAll r
  | .va d :: r => .va d :: frzAll r
theorem frzAll_frz : ∀ ds : Sls, Frz ds (frzAll ds)
  | [] => .nil
  | .ow xs :: r => .cons (.ow xs) (frzAll_frz r)
  | .od kv :: r => .cons (.od kv) (frzAll_frz r)
  | .no :: r => .cons (.same _) (frzAll_frz r)
  | .rf a :: r => .cons (.same _) (frzAll_frz r)
  | .va d :: r => .cons (.same _) (frzAll_frz r)
/-- a text, an int, .. may be reckoned with all slots taken as fixed -/
theorem EvE.lift {ds' : Sls} (z : Frz ds ds') (h : EvE X e ds' d) (n : scalar d = true) : EvE X e ds d := fun F0 H0 F H σ s Q q => by
  obtain ⟨F1, s1, sF⟩ := s.frz z
  exact h F0 H0 F1 H σ s1 Q fun v F' H' x r => q v F H' (.grow s.fh x.h) (rp_scalar n r)
theorem EvT.lift {ds' : Sls} {t : Bool} (z : Frz ds ds') (h : EvT X e ds' t) : EvT X e ds t := fun F0 H0 F H σ s Q q => by
  obtain ⟨F1, s1, sF⟩ := s.frz z
  exact h F0 H0 F1 H σ s1 Q fun F' H' x => q F H' (.grow s.fh x.h)

/-! ### calls of built-ins -/
def CaD (X : Cx) (r : List V → Hp → VK → Prop) (as : List D) (d : D) : Prop := ∀ (vs : List V) (F H : Hp) (Q : VK), Same F H → RpAll X.K F vs as → (∀ v F' H', Ext F H F' H' → Rp X.K F' v d → Q v H') → r vs H Q
def CaN (X : Cx) (r : List V → Hp → VK → Prop) (as : List D) (xs : List D) : Prop := ∀ (vs : List V) (F H : Hp) (Q : VK), Same F H → RpAll X.K F vs as →
  (∀ p vs F' H', Ext F H F' H' → H p = none → F' p = none → H' p = some (.lst vs) → DpAll X.K F' vs xs → Q (.ref p) H') → r vs H Q
variable {id T : String} {r : List V → Hp → VK → Prop} {p : Pos} {xs : List D}
theorem ev_callB (A : Wh X N sc k) (hc : CallR X (.builtin id) r) (hg : GlS sc x) (hm : X.mg x = none) (hv : bootBuiltins x = some (.builtin id)) (ha : EvA X (e :: es) ds as) (hr : CaD X r as d) (hn : x ≠ "__name__" := by decide) (hdb : (x == ("__debug__" : Str)) = false := by decide)
    (he : starEach (e :: es) X.env = (false, eval e X.env) :: starEach es X.env := by rfl) (hpl : (backTo pos (starEach es X.env)).any (·.1) = false := by rfl) : EvE X (.Call (.Name x p) (e :: es) [] pos) ds d := fun F0 H0 F H σ s Q q =>
  toE (pe_callB hc (A.gl hg) hm hv wpA_pa hn hdb he hpl) (ha F0 H0 F H σ s _ fun vs F1 H1 x1 r1 => hr vs F1 H1 Q x1.fh r1 fun v F2 H2 x2 r2 => q v F2 H2 (x1.trans x2) r2)
theorem evn_callB (A : Wh X N sc k) (hc : CallR X (.builtin id) r) (hg : GlS sc x) (hm : X.mg x = none) (hv : bootBuiltins x = some (.builtin id)) (ha : EvA X (e :: es) ds as) (hr : CaN X r as xs) (hn : x ≠ "__name__" := by decide) (hdb : (x == ("__debug__" : Str)) = false := by decide)
    (he : starEach (e :: es) X.env = (false, eval e X.env) :: starEach es X.env := by rfl) (hpl : (backTo pos (starEach es X.env)).any (·.1) = false := by rfl) : EvN X (.Call (.Name x p) (e :: es) [] pos) ds xs := fun F0 H0 F H σ s Q q =>
  toE (pe_callB hc (A.gl hg) hm hv wpA_pa hn hdb he hpl) (ha F0 H0 F H σ s _ fun vs F1 H1 x1 r1 => hr vs F1 H1 Q x1.fh r1 fun p vs F2 H2 x2 n1 n2 n3 n4 => q p vs F2 H2 (x1.trans x2) (x1.h.free n1) n2 n3 n4)
theorem ev_callTy (A : Wh X N sc k) (hc : CallR X (.type T) r) (hg : GlS sc x) (hm : X.mg x = none) (hv : bootBuiltins x = some (.type T)) (ha : EvA X (e :: es) ds as) (hr : CaD X r as d) (hn : x ≠ "__name__" := by decide) (hdb : (x == ("__debug__" : Str)) = false := by decide)
    (he : starEach (e :: es) X.env = (false, eval e X.env) :: starEach es X.env := by rfl) (hpl : (backTo pos (starEach es X.env)).any (·.1) = false := by rfl) : EvE X (.Call (.Name x p) (e :: es) [] pos) ds d := fun F0 H0 F H σ s Q q =>
  toE (pe_callTy hc (A.gl hg) hm hv wpA_pa hn hdb he hpl) (ha F0 H0 F H σ s _ fun vs F1 H1 x1 r1 => hr vs F1 H1 Q x1.fh r1 fun v F2 H2 x2 r2 => q v F2 H2 (x1.trans x2) r2)
theorem evn_callTy (A : Wh X N sc k) (hc : CallR X (.type T) r) (hg : GlS sc x) (hm : X.mg x = none) (hv : bootBuiltins x = some (.type T)) (ha : EvA X (e :: es) ds as) (hr : CaN X r as xs) (hn : x ≠ "__name__" := by decide) (hdb : (x == ("__debug__" : Str)) = false := by decide)
    (he : starEach (e :: es) X.env = (false, eval e X.env) :: starEach es X.env := by rfl) (hpl : (backTo pos (starEach es X.env)).any (·.1) = false := by rfl) : EvN X (.Call (.Name x p) (e :: es) [] pos) ds xs := fun F0 H0 F H σ s Q q =>
  toE (pe_callTy hc (A.gl hg) hm hv wpA_pa hn hdb he hpl) (ha F0 H0 F H σ s _ fun vs F1 H1 x1 r1 => hr vs F1 H1 Q x1.fh r1 fun p vs F2 H2 x2 n1 n2 n3 n4 => q p vs F2 H2 (x1.trans x2) (x1.h.free n1) n2 n3 n4)
theorem rpAll1 {K : PySem.W.Frag} {H : Hp} {vs : List V} {d : D} (h : RpAll K H vs [d]) : ∃ v, vs = [v] ∧ Rp K H v d := by
  cases h with
  | cons h r => cases r; exact ⟨_, rfl, h⟩
theorem rpAll2 {K : PySem.W.Frag} {H : Hp} {vs : List V} {d d' : D} (h : RpAll K H vs [d, d']) : ∃ v v', vs = [v, v'] ∧ Rp K H v d ∧ Rp K H v' d' := by
  cases h with
  | cons h r =>
    obtain ⟨v, rfl, h'⟩ := rpAll1 r
    exact ⟨_, _, rfl, h, h'⟩
/-! the built-ins one by one -/
variable {i j n : Int} {z y : Str}
theorem ev_lenL (A : Wh X N sc k) (hg : GlS sc "len") (hm : X.mg "len" = none) (h : EvE X e ds (.list xs)) (he : starEach (e :: []) X.env = (false, eval e X.env) :: starEach [] X.env := by rfl) : EvE X (.Call (.Name "len" p) [e] [] pos) ds (.int xs.length) :=
  ev_callB A call_len_seq hg hm PySem.boot_len (eva_cons h eva_nil he) (fun vs F H Q s r q => by
    obtain ⟨v, rfl, r1⟩ := rpAll1 r
    obtain ⟨a, ws, rfl, h1, h2⟩ := rp_lst.mp r1
    exact ⟨a, ws, rfl, .inl (s.seq h1), by rw [dpAll_len h2]; exact q _ F H (.refl s) (.int _)⟩) (by decide) (by decide) he
theorem ev_lenT (A : Wh X N sc k) (hg : GlS sc "len") (hm : X.mg "len" = none) (h : EvE X e ds (.tuple xs)) (he : starEach (e :: []) X.env = (false, eval e X.env) :: starEach [] X.env := by rfl) : EvE X (.Call (.Name "len" p) [e] [] pos) ds (.int xs.length) :=
  ev_callB A call_len_seq hg hm PySem.boot_len (eva_cons h eva_nil he) (fun vs F H Q s r q => by
    obtain ⟨v, rfl, r1⟩ := rpAll1 r
    obtain ⟨a, ws, rfl, h1, h2⟩ := rp_tup.mp r1
    exact ⟨a, ws, rfl, .inr (sqT_mono s h1), by rw [dpAll_len h2]; exact q _ F H (.refl s) (.int _)⟩) (by decide) (by decide) he
theorem ev_lenS (A : Wh X N sc k) (hg : GlS sc "len") (hm : X.mg "len" = none) (h : EvE X e ds (.str z)) (hz : z.length ≤ sizeLine) (he : starEach (e :: []) X.env = (false, eval e X.env) :: starEach [] X.env := by rfl) : EvE X (.Call (.Name "len" p) [e] [] pos) ds (.int z.length) :=
  ev_callB A call_len_str hg hm PySem.boot_len (eva_cons h eva_nil he) (fun vs F H Q s r q => by
    obtain ⟨v, rfl, r1⟩ := rpAll1 r
    exact ⟨z, by rw [rp_str.mp r1], hz, q _ F H (.refl s) (.int _)⟩) (by decide) (by decide) he
theorem ev_abs (A : Wh X N sc k) (hg : GlS sc "abs") (hm : X.mg "abs" = none) (h : EvE X e ds (.int i)) (he : starEach (e :: []) X.env = (false, eval e X.env) :: starEach [] X.env := by rfl) : EvE X (.Call (.Name "abs" p) [e] [] pos) ds (.int i.natAbs) :=
  ev_callB A call_abs hg hm (by decide +kernel) (eva_cons h eva_nil he) (fun vs F H Q s r q => by
    obtain ⟨v, rfl, r1⟩ := rpAll1 r
    refine ⟨i, by rw [rp_int.mp r1], ?_⟩
    rw [show (if i < 0 then -i else i) = (i.natAbs : Int) by split <;> omega]
    exact q _ F H (.refl s) (.int _)) (by decide) (by decide) he
theorem ev_min2 (A : Wh X N sc k) (hg : GlS sc "min") (hm : X.mg "min" = none) (h : EvE X a ds (.int i)) (h' : EvE X b ds (.int j)) (he : starEach (a :: [b]) X.env = (false, eval a X.env) :: starEach [b] X.env := by rfl) (he2 : starEach (b :: []) X.env = (false, eval b X.env) :: starEach [] X.env := by rfl)
    (hpl : (backTo pos (starEach [b] X.env)).any (·.1) = false := by rfl) : EvE X (.Call (.Name "min" p) [a, b] [] pos) ds (.int (min i j)) :=
  ev_callB A (call_min2 A.calm) hg hm (by decide +kernel) (eva_cons h (eva_cons h' eva_nil he2) he) (fun vs F H Q s r q => by
    obtain ⟨v, v', rfl, r1, r2⟩ := rpAll2 r
    refine ⟨i, j, by rw [rp_int.mp r1, rp_int.mp r2], ?_⟩
    rw [show (if j < i then j else i) = min i j by split <;> omega]
    exact q _ F H (.refl s) (.int _)) (by decide) (by decide) he hpl
theorem ev_sum {ns : List Int} (A : Wh X N sc k) (hg : GlS sc "sum") (hm : X.mg "sum" = none) (h : EvE X e ds (.list (ns.map .int))) (he : starEach (e :: []) X.env = (false, eval e X.env) :: starEach [] X.env := by rfl) : EvE X (.Call (.Name "sum" p) [e] [] pos) ds (.int ns.sum) :=
  ev_callB A (cr_sum A.calm) hg hm (by decide +kernel) (eva_cons h eva_nil he) (fun vs F H Q s r q => by
    obtain ⟨v, rfl, r1⟩ := rpAll1 r
    obtain ⟨a, ws, rfl, h1, h2⟩ := rp_lst.mp r1
    exact ⟨a, ns, rfl, by rw [← dpAll_ints h2]; exact s.seq h1, q _ F H (.refl s) (.int _)⟩) (by decide) (by decide) he
theorem ev_any {ns : List Bool} (A : Wh X N sc k) (hg : GlS sc "any") (hm : X.mg "any" = none) (h : EvE X e ds (.list (ns.map .bool))) (he : starEach (e :: []) X.env = (false, eval e X.env) :: starEach [] X.env := by rfl) : EvE X (.Call (.Name "any" p) [e] [] pos) ds (.bool (ns.any fun t => t)) :=
  ev_callB A (cr_any A.calm) hg hm (by decide +kernel) (eva_cons h eva_nil he) (fun vs F H Q s r q => by
    obtain ⟨v, rfl, r1⟩ := rpAll1 r
    obtain ⟨a, ws, rfl, h1, h2⟩ := rp_lst.mp r1
    exact ⟨a, ns, rfl, by rw [← dpAll_bls h2]; exact s.seq h1, q _ F H (.refl s) (.bl _)⟩) (by decide) (by decide) he
theorem ev_all {ns : List Bool} (A : Wh X N sc k) (hg : GlS sc "all") (hm : X.mg "all" = none) (h : EvE X e ds (.list (ns.map .bool))) (he : starEach (e :: []) X.env = (false, eval e X.env) :: starEach [] X.env := by rfl) : EvE X (.Call (.Name "all" p) [e] [] pos) ds (.bool (ns.all fun t => t)) :=
  ev_callB A (cr_all A.calm) hg hm (by decide +kernel) (eva_cons h eva_nil he) (fun vs F H Q s r q => by
    obtain ⟨v, rfl, r1⟩ := rpAll1 r
    obtain ⟨a, ws, rfl, h1, h2⟩ := rp_lst.mp r1
    exact ⟨a, ns, rfl, by rw [← dpAll_bls h2]; exact s.seq h1, q _ F H (.refl s) (.bl _)⟩) (by decide) (by decide) he
theorem evn_list (A : Wh X N sc k) (hg : GlS sc "list") (hm : X.mg "list" = none) (h : EvE X e ds (.list xs)) (he : starEach (e :: []) X.env = (false, eval e X.env) :: starEach [] X.env := by rfl) : EvN X (.Call (.Name "list" p) [e] [] pos) ds xs :=
  evn_callTy A call_list_of hg hm (by decide +kernel) (eva_cons h eva_nil he) (fun vs F H Q s r q => by
    obtain ⟨v, rfl, r1⟩ := rpAll1 r
    obtain ⟨a, ws, rfl, h1, h2⟩ := rp_lst.mp r1
    exact ⟨a, ws, rfl, .inl (s.seq h1), fun l hl => q l ws F _ (.newO s hl) hl (s.free hl) upd_same h2⟩) (by decide) (by decide) he
theorem kvR_keys {K : PySem.W.Frag} {H : Hp} : ∀ {ks : List (Key × V)} {kv : List (Str × D)}, KvR K H ks kv → DpAll K H (ks.map fun p => kV p.1) (kv.map fun p => .str p.1)
  | _, _, .nil => .nil
  | _, _, .cons (a := a) (b := b) h r => by
    refine .cons ?_ (kvR_keys r)
    show Dp K H (kV a.1) (.str b.1)
    rw [h.1]
    exact Dp.str _
theorem evn_listD {kv : List (Str × D)} (A : Wh X N sc k) (hg : GlS sc "list") (hm : X.mg "list" = none) (h : EvE X e ds (mD kv)) (he : starEach (e :: []) X.env = (false, eval e X.env) :: starEach [] X.env := by rfl) : EvN X (.Call (.Name "list" p) [e] [] pos) ds (kv.map fun p => .str p.1) :=
  evn_callTy A (call_list_dK A.calm) hg hm (by decide +kernel) (eva_cons h eva_nil he) (fun vs F H Q s r q => by
    obtain ⟨v, rfl, r1⟩ := rpAll1 r
    obtain ⟨a, ws, rfl, h1, h2⟩ := rp_dict.mp r1
    exact ⟨a, ws, rfl, s _ _ h1, fun l hl => q l _ F _ (.newO s hl) hl (s.free hl) upd_same (kvR_keys h2)⟩) (by decide) (by decide) he
theorem ev_strI (A : Wh X N sc k) (hg : GlS sc "str") (hm : X.mg "str" = none) (h : EvE X e ds (.int i)) (hb : i.natAbs.log2 < 1920) (he : starEach (e :: []) X.env = (false, eval e X.env) :: starEach [] X.env := by rfl) : EvE X (.Call (.Name "str" p) [e] [] pos) ds (.str (toString i)) :=
  ev_callTy A call_str_int hg hm (by decide +kernel) (eva_cons h eva_nil he) (fun vs F H Q s r q => by
    obtain ⟨v, rfl, r1⟩ := rpAll1 r
    exact ⟨i, by rw [rp_int.mp r1], hb, q _ F H (.refl s) (.str _)⟩) (by decide) (by decide) he
theorem ev_intS (A : Wh X N sc k) (hg : GlS sc "int") (hm : X.mg "int" = none) (h : EvE X e ds (.str z)) (hb : PySem.intText? z = some n) (hl : z.length ≤ 640) (he : starEach (e :: []) X.env = (false, eval e X.env) :: starEach [] X.env := by rfl) : EvE X (.Call (.Name "int" p) [e] [] pos) ds (.int n) :=
  ev_callTy A call_int_str hg hm (by decide +kernel) (eva_cons h eva_nil he) (fun vs F H Q s r q => by
    obtain ⟨v, rfl, r1⟩ := rpAll1 r
    exact ⟨z, n, by rw [rp_str.mp r1], hb, hl, q _ F H (.refl s) (.int _)⟩) (by decide) (by decide) he
theorem ev_intB {t : Bool} (A : Wh X N sc k) (hg : GlS sc "int") (hm : X.mg "int" = none) (h : EvE X e ds (.bool t)) (he : starEach (e :: []) X.env = (false, eval e X.env) :: starEach [] X.env := by rfl) : EvE X (.Call (.Name "int" p) [e] [] pos) ds (.int (if t then 1 else 0)) :=
  ev_callTy A call_int1 hg hm (by decide +kernel) (eva_cons h eva_nil he) (fun vs F H Q s r q => by
    obtain ⟨v, rfl, r1⟩ := rpAll1 r
    exact .inr ⟨t, by rw [rp_bl.mp r1], q _ F H (.refl s) (.int _)⟩) (by decide) (by decide) he

/-! ### isinstance -/
def tyN : D → String
  | .none => "NoneType"
  | .bool _ => "bool"
  | .int _ => "int"
  | .str _ => "str"
  | .list _ => "list"
  | .tuple _ => "tuple"
  | .dict _ => "dict"
theorem tyX_of {K : PySem.W.Frag} {F H : Hp} {v : V} {d : D} (s : Same F H) (r : Rp K F v d) : TyX K H v (.type (tyN d)) := by
  cases d with
  | none => rw [rp_non.mp r]; exact .base .non
  | bool b => rw [rp_bl.mp r]; exact .base (.bl b)
  | int i => rw [rp_int.mp r]; exact .base (.int i)
  | str i => rw [rp_str.mp r]; exact .base (.str i)
  | list i =>
    obtain ⟨a, vs, rfl, h, _⟩ := rp_lst.mp r
    rcases h with (h | ⟨o, h⟩) | ⟨o, its, n, h1, h2, _⟩
    · exact .base (.lst (s _ _ h))
    · exact .base (.frz (s _ _ h))
    · exact .kList h1 h2
  | tuple i =>
    obtain ⟨a, vs, rfl, h, _⟩ := rp_tup.mp r
    rcases h with (h | ⟨o, h⟩) | ⟨o, its, n, h1, h2, _⟩
    · exact .base (.tup (s _ _ h))
    · exact .fTuple (s _ _ h)
    · exact .kTuple h1 h2
  | dict i =>
    obtain ⟨a, ks, kv, _, rfl, h, _⟩ := r
    exact .base (.dK (s _ _ h))
/-- the second argument is a built-in class, by its name -/
theorem ev_isi {t : Bool} {p2 : Pos} (A : Wh X N sc k) (hg : GlS sc "isinstance") (hm : X.mg "isinstance" = none) (h : EvE X e ds d) (T : String) (hgT : GlS sc x) (hmT : X.mg x = none) (hvT : bootBuiltins x = some (.type T)) (hk : kitB (tyN d) T = some t)
    (hn : x ≠ "__name__" := by decide) (hdb : (x == ("__debug__" : Str)) = false := by decide)
    (he : starEach (e :: [.Name x p2]) X.env = (false, eval e X.env) :: starEach [.Name x p2] X.env := by rfl) : EvE X (.Call (.Name "isinstance" p) [e, .Name x p2] [] pos) ds (.bool t) := fun F0 H0 F H σ s Q q => by
  refine toE (pe_callB call_isi (A.gl hg) hm (by decide +kernel) (pa_cons wpE_pe (pa_cons (pe_bltn (v := .ty T) (A.gl hgT) hmT hvT rfl hn hdb) pa_nil (by rfl)) he) (by decide) (by decide) he (by rfl)) ?_
  refine h F0 H0 F H σ s _ fun v F' H' x r => ?_
  exact ⟨v, .ty T, .type (tyN d), .type T, t, rfl, .ty T, tyX_of x.fh r, kit_ty hk, q _ F' H' x (.bl _)⟩

/-! ### subscripts -/
variable {s1 : Expr}
theorem dpAll_atI {K : PySem.W.Frag} {H : Hp} {vs : List V} {ds : List D} {i : Int} {d : D} (h : DpAll K H vs ds) (e : atI ds i = some d) : ∃ v, atI vs i = some v ∧ Dp K H v d := by
  unfold atI at *
  rw [dpAll_len h]
  cases q : ixN ds.length i with
  | none => rw [q] at e; cases e
  | some j =>
    rw [q] at e
    exact dpAll_get h e
theorem ev_ixL (ha : EvE X a ds (.list xs)) (hb : EvE X b ds (.int i)) (h : atI xs i = some d) (hs : PlainIx b := by exact fun _ _ => rfl) : EvE X (.Subscript a b pos) ds d := fun F0 H0 F H σ s Q q =>
  toE (pe_ix ix_list wpE_pe wpE_pe hs) (ev2 ha hb s fun v1 v2 F' H' x r1 r2 => by
    obtain ⟨p, vs, rfl, h1, h2⟩ := rp_lst.mp r1
    obtain ⟨v, e, dp⟩ := dpAll_atI h2 h
    exact ⟨p, vs, i, v, rfl, rp_int.mp r2, x.fh.seq h1, e, q v F' H' x (rp_of dp)⟩)
theorem ev_ixT (ha : EvE X a ds (.tuple xs)) (hb : EvE X b ds (.int i)) (h : atI xs i = some d) (hs : PlainIx b := by exact fun _ _ => rfl) : EvE X (.Subscript a b pos) ds d := fun F0 H0 F H σ s Q q =>
  toE (pe_ix ix_tup wpE_pe wpE_pe hs) (ev2 ha hb s fun v1 v2 F' H' x r1 r2 => by
    obtain ⟨p, vs, rfl, h1, h2⟩ := rp_tup.mp r1
    obtain ⟨v, e, dp⟩ := dpAll_atI h2 h
    exact ⟨p, vs, i, v, rfl, rp_int.mp r2, sqT_mono x.fh h1, e, q v F' H' x (rp_of dp)⟩)
theorem ev_ixS {c : Nat} (ha : EvE X a ds (.str z)) (hb : EvE X b ds (.int i)) (hl : z.length ≤ sizeLine) (h : atI z.cps.toList i = some c) (hs : PlainIx b := by exact fun _ _ => rfl) : EvE X (.Subscript a b pos) ds (.str ⟨#[c]⟩) := fun F0 H0 F H σ s Q q =>
  toE (pe_ix ix_str wpE_pe wpE_pe hs) (ev2 ha hb s fun v1 v2 F' H' x r1 r2 =>
    ⟨z, i, c, rp_str.mp r1, rp_int.mp r2, hl, h, q _ F' H' x (.str _)⟩)
/-- an item of a list of one's own -/
theorem ev_ixO (A : Wh X N sc k) (m : Nat) (hi : N[m]? = some x) (hv : Vis sc x) (h : ds[m]? = some (.ow xs)) (hb : EvE X b ds (.int i)) (hx : atI xs i = some d) (hs : PlainIx b := by exact fun _ _ => rfl) (hd : (x == ("__debug__" : Str)) = false := by decide) (hcd : (x == ("__classdict__" : Str)) = false := by decide) : EvE X (.Subscript (.Name x p) b pos) ds d := by
  intro F0 H0 F H σ r Q q
  obtain ⟨a, vs, e1, e2, e3, e4, e5⟩ := r.at_ m _ h
  refine toE (pe_ix ix_list (pe_var (i := m) (by rw [A.hN]; exact hi) (by rw [A.hsc]; exact hv) hd hcd) wpE_pe hs) ⟨_, e1, ?_⟩
  refine hb F0 H0 F H σ r _ fun v2 F' H' x r2 => ?_
  obtain ⟨v, e, dp⟩ := dpAll_atI (dpAll_mono x.f e5) hx
  exact ⟨a, vs, i, v, rfl, rp_int.mp r2, SqL.of (x.h _ _ e4), e, q v F' H' x (rp_of dp)⟩
/-! slices -/
/-- a bound of a slice -/
def EvO (X : Cx) (e : Option Expr) (ds : Sls) (o : Option Int) : Prop := match e, o with
  | none, none => True
  | some e, some i => EvE X e ds (.int i)
  | _, _ => False
theorem evo_run {lo : Option Expr} {l : Option Int} (h : EvO X lo ds l) : ∃ tl, PO X lo tl ∧ ∀ (F0 H0 F H : Hp) (σ : St), StR X.K F0 H0 F H σ ds → ∀ Q : Option Int → Hp → Prop, (∀ F' H', Ext F H F' H' → Q l H') → tl σ H Q := by
  cases lo with
  | none =>
    cases l with
    | none => exact ⟨_, po_none, fun F0 H0 F H σ s Q q => q F H (.refl s.fh)⟩
    | some i => exact h.elim
  | some e =>
    cases l with
    | none => exact h.elim
    | some i => exact ⟨_, po_some wpE_pe, fun F0 H0 F H σ s Q q => (show EvE X e ds (.int i) from h) F0 H0 F H σ s _ fun v F' H' x r => ⟨i, rp_int.mp r, q F' H' x⟩⟩
variable {lo hi : Option Expr} {l h : Option Int} {p2 : Pos}
def cutD (xs : List D) (lo hi : Option Int) : List D := (xs.drop (HT.sIx xs.length 0 lo)).take (HT.sIx xs.length xs.length hi - HT.sIx xs.length 0 lo)
theorem dpAll_cut {K : PySem.W.Frag} {H : Hp} {vs : List V} {ds : List D} (h : DpAll K H vs ds) (lo hi : Option Int) : DpAll K H (cutV vs lo hi) (cutD ds lo hi) := by
  unfold cutV cutD
  rw [dpAll_len h]
  exact dpAll_take _ (dpAll_drop _ h)
theorem evn_slL (ha : EvE X a ds (.list xs)) (hl : EvO X lo ds l) (hh : EvO X hi ds h) : EvN X (.Subscript a (.Slice lo hi none p2) pos) ds (cutD xs l h) := fun F0 H0 F H σ s Q q => by
  obtain ⟨tl, pl, ql⟩ := evo_run hl
  obtain ⟨th, ph, qh⟩ := evo_run hh
  refine toE (pe_slice sl_list wpE_pe pl ph) (ha F0 H0 F H σ s _ fun v F1 H1 x1 r1 => ql F0 H0 F1 H1 σ (s.to x1) _ fun F2 H2 x2 => qh F0 H0 F2 H2 σ ((s.to x1).to x2) _ fun F3 H3 x3 => ?_)
  obtain ⟨p, vs, rfl, h1, h2⟩ := rp_lst.mp (rp_mono (x2.f.trans x3.f) r1)
  have x := (x1.trans x2).trans x3
  exact ⟨p, vs, rfl, x3.fh.seq h1, fun l hl => q l _ F3 _ (x.trans (.newO x3.fh hl)) (x.h.free hl) (x3.fh.free hl) upd_same (dpAll_cut h2 _ _)⟩
theorem ev_slS (ha : EvE X a ds (.str z)) (hl : EvO X lo ds l) (hh : EvO X hi ds h) (hz : z.length ≤ sizeLine) : EvE X (.Subscript a (.Slice lo hi none p2) pos) ds (.str (cutS z l h)) := fun F0 H0 F H σ s Q q => by
  obtain ⟨tl, pl, ql⟩ := evo_run hl
  obtain ⟨th, ph, qh⟩ := evo_run hh
  refine toE (pe_slice sl_str wpE_pe pl ph) (ha F0 H0 F H σ s _ fun v F1 H1 x1 r1 => ql F0 H0 F1 H1 σ (s.to x1) _ fun F2 H2 x2 => qh F0 H0 F2 H2 σ ((s.to x1).to x2) _ fun F3 H3 x3 => ?_)
  exact ⟨z, rp_str.mp r1, hz, q _ F3 H3 ((x1.trans x2).trans x3) (.str _)⟩
/-! dicts -/
theorem kvR_val {K : PySem.W.Frag} {H : Hp} {kk : Str} : ∀ {ks : List (Key × V)} {kv : List (Str × D)}, KvR K H ks kv → (∀ d, kv.lookup kk = some d → ∃ v, valV ks (Sum.inr kk) = some v ∧ Dp K H v d) ∧ (kv.lookup kk = none → valV ks (Sum.inr kk) = none)
  | _, _, .nil => ⟨fun d e => (nomatch e), fun _ => rfl⟩
  | _, _, .cons (a := a) (b := b) h r => by
    obtain ⟨k1, v1⟩ := a
    obtain ⟨k2, d2⟩ := b
    obtain ⟨e1, dp⟩ := h
    cases (show k1 = Sum.inr k2 from e1)
    obtain ⟨i1, i2⟩ := kvR_val r
    by_cases q : k2 = kk
    · subst q
      have e2 : ∀ r : List (Str × D), List.lookup k2 ((k2, d2) :: r) = some d2 := fun r => by simp [List.lookup]
      rw [e2, valV_pos rfl]
      exact ⟨fun d e => ⟨v1, rfl, by cases e; exact dp⟩, fun e => (nomatch e)⟩
    · have q' : (kk == k2) = false := by simpa using fun z => q z.symm
      have e2 : ∀ r : List (Str × D), List.lookup kk ((k2, d2) :: r) = List.lookup kk r := fun r => by simp [List.lookup, q']
      rw [e2, valV_neg (fun z => q (Sum.inr.inj z))]
      exact ⟨i1, i2⟩
variable {kv : List (Str × D)}
theorem ev_dget (A : Wh X N sc k) (ha : EvE X a ds (mD kv)) (hb : EvE X b ds (.str z)) (h : kv.lookup z = some d) (hs : NoSl b := by exact fun _ _ => rfl) : EvE X (.Subscript a b pos) ds d := fun F0 H0 F H σ s Q q =>
  toE (pe_dget A.u1 wpE_pe wpE_pe hs) (ev2 ha hb s fun v1 v2 F' H' x r1 r2 => by
    obtain ⟨p, ks, rfl, h1, h2⟩ := rp_dict.mp r1
    obtain ⟨v, e, dp⟩ := (kvR_val h2).1 d h
    rw [rp_str.mp r2]
    refine ⟨p, v, rfl, ?_, q v F' H' x (rp_of dp)⟩
    rw [← e]
    exact DGet.k (k := Sum.inr z) (x.fh _ _ h1))
/-- an item of a dict of one's own -/
theorem ev_dgetO (A : Wh X N sc k) (m : Nat) (hi : N[m]? = some x) (hv : Vis sc x) (hm : ds[m]? = some (.od kv)) (hb : EvE X b ds (.str z)) (h : kv.lookup z = some d) (hs : NoSl b := by exact fun _ _ => rfl) (hd : (x == ("__debug__" : Str)) = false := by decide) (hcd : (x == ("__classdict__" : Str)) = false := by decide) : EvE X (.Subscript (.Name x p) b pos) ds d := fun F0 H0 F H σ r Q q => by
  obtain ⟨a, ks, e1, e2, e3, e4, e5⟩ := r.at_ m _ hm
  refine toE (pe_dget A.u1 (pe_var (i := m) (by rw [A.hN]; exact hi) (by rw [A.hsc]; exact hv) hd hcd) wpE_pe hs) ⟨_, e1, ?_⟩
  refine hb F0 H0 F H σ r _ fun v2 F' H' x r2 => ?_
  obtain ⟨v, e, dp⟩ := (kvR_val (kvR_mono x.f e5)).1 d h
  rw [rp_str.mp r2]
  refine ⟨a, v, rfl, ?_, q v F' H' x (rp_of dp)⟩
  rw [← e]
  exact DGet.k (k := Sum.inr z) (x.h _ _ e4)
theorem ev_dgetD {apos : Pos} (A : Wh X N sc k) (ha : EvE X a ds (mD kv)) (hb : EvE X b ds (.str z)) (hc : EvE X c ds d) (hn : nodict d = true) (m : M2 X a "get" apos b c pos) : EvE X (.Call (.Attribute a "get" apos) [b, c] [] pos) ds ((kv.lookup z).getD d) := fun F0 H0 F H σ s Q q =>
  toE (pe_dget2 A.u1 wpE_pe wpE_pe wpE_pe m) (ha F0 H0 F H σ s _ fun v1 F1 H1 x1 r1 => by
    obtain ⟨p, ks, rfl, h1, h2⟩ := rp_dict.mp r1
    refine ⟨p, rfl, .inl ⟨ks, .inl (x1.fh _ _ h1)⟩, ?_⟩
    refine hb F0 H0 F1 H1 σ (s.to x1) _ fun v2 F2 H2 x2 r2 => hc F0 H0 F2 H2 σ ((s.to x1).to x2) _ fun v3 F3 H3 x3 r3 => ?_
    rw [rp_str.mp r2]
    refine ⟨_, DGet.k (k := Sum.inr z) (x3.fh _ _ (x3.f _ _ (x2.f _ _ h1))), ?_⟩
    obtain ⟨i1, i2⟩ := kvR_val (kk := z) (kvR_mono (x2.f.trans x3.f) h2)
    refine q _ F3 H3 ((x1.trans x2).trans x3) ?_
    cases e : kv.lookup z with
    | none => rw [i2 e]; exact r3
    | some d' =>
      obtain ⟨v, e', dp⟩ := i1 d' e
      rw [e']
      exact rp_of dp)

/-! ### methods of built-in types -/
def MtD (X : Cx) (T : String) (r : V → List V → Hp → VK → Prop) (d0 : D) (as : List D) (d : D) : Prop := ∀ (v0 : V) (vs : List V) (F H : Hp) (Q : VK), Same F H → Rp X.K F v0 d0 → RpAll X.K F vs as → (∀ v F' H', Ext F H F' H' → Rp X.K F' v d → Q v H') → r v0 vs H Q
def MtN (X : Cx) (T : String) (r : V → List V → Hp → VK → Prop) (d0 : D) (as : List D) (xs : List D) : Prop := ∀ (v0 : V) (vs : List V) (F H : Hp) (Q : VK), Same F H → Rp X.K F v0 d0 → RpAll X.K F vs as →
  (∀ p vs F' H', Ext F H F' H' → H p = none → F' p = none → H' p = some (.lst vs) → DpAll X.K F' vs xs → Q (.ref p) H') → r v0 vs H Q
def MtT (T : String) (d : D) : Prop := match d with
  | .str _ => T = "str"
  | .int _ => T = "int"
  | .list _ => T = "list"
  | _ => False
theorem tyV_of {K : PySem.W.Frag} {F H : Hp} {v : V} {d : D} {T : String} (s : Same F H) (r : Rp K F v d) (h : MtT T d) : tyV K T v H := by
  cases d with
  | str z => rw [rp_str.mp r]; exact h
  | int z => rw [rp_int.mp r]; exact h
  | list z =>
    obtain ⟨a, vs, rfl, h1, _⟩ := rp_lst.mp r
    exact .inl ⟨h, vs, s.seq h1⟩
  | _ => exact h.elim
variable {name : Str} {apos cpos : Pos} {rm : V → List V → Hp → VK → Prop}
theorem ev_bm (pa : PySem.PlainAttrs T) (slot : PySem.Slot T name id) (hty : typeOf (.builtin id) = pure (.type "method_descriptor")) (hm : MtR X id rm) (ho : EvE X o ds d1) (ht : MtT T d1) (ha : EvA X (e :: es) ds as) (hr : MtD X T rm d1 as d) (hbase : attributeBase o name X.env (eval o X.env) = eval o X.env := by rfl) (hfew : ((backTo cpos (starEach (e :: es) X.env)).all (fun x => !x.1) && (backToKw cpos (keywordEach [] X.env)).all (fun x => x.1.isSome) && decide ((e :: es).length + ([] : List Keyword).length + (if ([] : List Keyword).isEmpty then 0 else 1) < 30)) = true := by rfl) (hline : (apos.endLine == cpos.line) = true := by rfl) (hs : starEach (e :: es) X.env = (false, eval e X.env) :: starEach es X.env := by rfl) (hplain : (backTo cpos (starEach es X.env)).any (·.1) = false := by rfl) :
    EvE X (.Call (.Attribute o name apos) (e :: es) [] cpos) ds d := fun F0 H0 F H σ s Q q =>
  toE (pe_bm pa slot hty hm wpE_pe wpA_pa hbase hfew hline hs hplain) (ho F0 H0 F H σ s _ fun v0 F1 H1 x1 r1 => ⟨tyV_of x1.fh r1 ht, ha F0 H0 F1 H1 σ (s.to x1) _ fun vs F2 H2 x2 r2 =>
    hr v0 vs F2 H2 Q x2.fh (rp_mono x2.f r1) r2 fun v F3 H3 x3 r3 => q v F3 H3 ((x1.trans x2).trans x3) r3⟩)
theorem evn_bm (pa : PySem.PlainAttrs T) (slot : PySem.Slot T name id) (hty : typeOf (.builtin id) = pure (.type "method_descriptor")) (hm : MtR X id rm) (ho : EvE X o ds d1) (ht : MtT T d1) (ha : EvA X (e :: es) ds as) (hr : MtN X T rm d1 as xs) (hbase : attributeBase o name X.env (eval o X.env) = eval o X.env := by rfl) (hfew : ((backTo cpos (starEach (e :: es) X.env)).all (fun x => !x.1) && (backToKw cpos (keywordEach [] X.env)).all (fun x => x.1.isSome) && decide ((e :: es).length + ([] : List Keyword).length + (if ([] : List Keyword).isEmpty then 0 else 1) < 30)) = true := by rfl) (hline : (apos.endLine == cpos.line) = true := by rfl) (hs : starEach (e :: es) X.env = (false, eval e X.env) :: starEach es X.env := by rfl) (hplain : (backTo cpos (starEach es X.env)).any (·.1) = false := by rfl) :
    EvN X (.Call (.Attribute o name apos) (e :: es) [] cpos) ds xs := fun F0 H0 F H σ s Q q =>
  toE (pe_bm pa slot hty hm wpE_pe wpA_pa hbase hfew hline hs hplain) (ho F0 H0 F H σ s _ fun v0 F1 H1 x1 r1 => ⟨tyV_of x1.fh r1 ht, ha F0 H0 F1 H1 σ (s.to x1) _ fun vs F2 H2 x2 r2 =>
    hr v0 vs F2 H2 Q x2.fh (rp_mono x2.f r1) r2 fun p vs F3 H3 x3 n1 n2 n3 n4 => q p vs F3 H3 ((x1.trans x2).trans x3) ((x1.h.trans x2.h).free n1) n2 n3 n4⟩)
end
end Vs

namespace Vs
open PySem PySem.Spec L2

/-! ### what is walked -/
/-- J walks the data xs, wherever F stands -/
structure Wk (K : PySem.W.Frag) (J : It) (F : Hp) (xs : List D) : Prop where
  go : ∀ H i, Same F H → i < xs.length → J.go i H
  yld : ∀ H (i : Nat) v H' d, Same F H → J.yld i H v H' → xs[i]? = some d → H' = H ∧ Dp K F v d
  stop : ∀ H i, Same F H → xs.length ≤ i → J.stop i H
def EvI (X : Cx) (tg iter : Expr) (ds : Sls) (xs : List D) : Prop := ∀ (F0 H0 F H : Hp) (σ : St), StR X.K F0 H0 F H σ ds → ∀ R : It → Hp → Prop, (∀ J F' H', Ext F H F' H' → Wk X.K J F' xs → R J H') → wpI X tg iter σ H R
section
variable {X : Cx} {N : List Str} {sc : Scope} {k : Nat} {ds : Sls} {d d1 d2 d3 : D} {as xs : List D} {e a b c o tg iter : Expr} {es : List Expr} {pos p : Pos} {x : Str} {i j : Int} {z : Str}
theorem evi_list (h : EvE X e ds (.list xs)) : EvI X tg e ds xs := fun F0 H0 F H σ s R q =>
  toI (pi_list wpE_pe) (h F0 H0 F H σ s _ fun v F' H' x r => by
    obtain ⟨a, vs, rfl, h1, h2⟩ := rp_lst.mp r
    refine ⟨a, rfl, ⟨vs, x.fh.seq h1⟩, q _ F' H' x ⟨fun H i s hi => ?_, fun H i v H' d s y e => ?_, fun H i s hi => ?_⟩⟩
    · have hl : i < vs.length := by rw [dpAll_len h2]; exact hi
      exact ⟨vs, vs[i], s.seq h1, List.getElem?_eq_getElem hl⟩
    · obtain ⟨e1, y⟩ := y
      obtain ⟨w, e2, dp⟩ := dpAll_get h2 e
      have e3 := y vs (s.seq h1)
      rw [e2] at e3
      cases e3
      exact ⟨e1, dp⟩
    · exact ⟨vs, s.seq h1, by rw [dpAll_len h2]; exact hi⟩)
abbrev rngD (lo : Int) (n : Nat) : List D := (List.range n).map fun (k : Nat) => .int (lo + (k : Int))
theorem rngD_len (lo : Int) (n : Nat) : (rngD lo n).length = n := by unfold rngD; rw [List.length_map, List.length_range]
theorem rngD_get {lo : Int} {n i : Nat} {d : D} (h : (rngD lo n)[i]? = some d) : d = .int (lo + (i : Int)) := by
  unfold rngD at h
  rw [List.getElem?_map] at h
  have hi : i < n := by
    by_cases q : i < n
    · exact q
    · rw [List.getElem?_eq_none (by rw [List.length_range]; omega)] at h; cases h
  rw [List.getElem?_range hi] at h
  exact (Option.some.inj h).symm
theorem wk_range {K : PySem.W.Frag} {F : Hp} (lo : Int) (n : Nat) : Wk K (Itr lo n) F (rngD lo n) :=
  ⟨fun H i s hi => by rw [rngD_len] at hi; exact hi, fun H i v H' d s y e => by
    obtain ⟨e1, rfl⟩ := y
    rw [rngD_get e]
    exact ⟨e1, .int _⟩, fun H i s hi => by rw [rngD_len] at hi; exact hi⟩
theorem evi_range1 (A : Wh X N sc k) (hg : GlS sc "range") (hm : X.mg "range" = none) (h : EvE X a ds (.int i)) (h1 : -(2 ^ 62) ≤ i) (h2 : i < 2 ^ 62)
    (he : starEach (a :: []) X.env = (false, eval a X.env) :: starEach [] X.env := by rfl) (hs : starEach [a] X.env = [(false, eval a X.env)] := by rfl) : EvI X tg (.Call (.Name "range" p) [a] [] pos) ds (rngD 0 i.toNat) := fun F0 H0 F H σ s R q =>
  toI (pi_range1 (A.gl hg) hm wpA_pa hs) ((eva_cons h eva_nil he) F0 H0 F H σ s _ fun vs F' H' x r => by
    obtain ⟨v, rfl, r1⟩ := rpAll1 r
    exact ⟨i, by rw [rp_int.mp r1], h1, h2, q _ F' H' x (wk_range 0 _)⟩)
theorem evi_rangeN {n : Nat} (A : Wh X N sc k) (hg : GlS sc "range") (hm : X.mg "range" = none) (h : EvE X a ds (.int i)) (hn : i.toNat = n) (h12 : -(2 ^ 62) ≤ i ∧ i < 2 ^ 62)
    (he : starEach (a :: []) X.env = (false, eval a X.env) :: starEach [] X.env := by rfl) (hs : starEach [a] X.env = [(false, eval a X.env)] := by rfl) : EvI X tg (.Call (.Name "range" p) [a] [] pos) ds ((List.range n).map fun (k : Nat) => .int (k : Int)) := by
  have h := evi_range1 (tg := tg) (p := p) (pos := pos) A hg hm h h12.1 h12.2 he hs
  rw [hn] at h
  have e : rngD 0 n = (List.range n).map fun (k : Nat) => PyData.int (k : Int) := List.map_congr_left fun k _ => by rw [Int.zero_add]
  rw [e] at h
  exact h
theorem evi_range2 (A : Wh X N sc k) (hg : GlS sc "range") (hm : X.mg "range" = none) (h : EvE X a ds (.int i)) (h' : EvE X b ds (.int j)) (h1 : -(2 ^ 62) ≤ i ∧ i < 2 ^ 62 ∧ -(2 ^ 62) ≤ j ∧ j < 2 ^ 62)
    (he : starEach (a :: [b]) X.env = (false, eval a X.env) :: starEach [b] X.env := by rfl) (he2 : starEach (b :: []) X.env = (false, eval b X.env) :: starEach [] X.env := by rfl)
    (hs : starEach [a, b] X.env = [(false, eval a X.env), (false, eval b X.env)] := by rfl) (hs2 : starEach [b] X.env = [(false, eval b X.env)] := by rfl) : EvI X tg (.Call (.Name "range" p) [a, b] [] pos) ds (rngD i (j - i).toNat) := fun F0 H0 F H σ s R q =>
  toI (pi_range2 (A.gl hg) hm wpA_pa hs hs2) ((eva_cons h (eva_cons h' eva_nil he2) he) F0 H0 F H σ s _ fun vs F' H' x r => by
    obtain ⟨v, v', rfl, r1, r2⟩ := rpAll2 r
    exact ⟨i, j, by rw [rp_int.mp r1, rp_int.mp r2], h1, q _ F' H' x (wk_range i _)⟩)
theorem evi_str (h : EvE X e ds (.str z)) : EvI X tg e ds (z.cps.toList.map fun c => .str ⟨#[c]⟩) := fun F0 H0 F H σ s R q =>
  toI (pi_str wpE_pe) (h F0 H0 F H σ s _ fun v F' H' x r => by
    refine ⟨z, rp_str.mp r, q _ F' H' x ⟨fun H i s hi => ?_, fun H i v H' d s y e => ?_, fun H i s hi => ?_⟩⟩
    · rw [List.length_map, Array.length_toList] at hi; exact hi
    · obtain ⟨e1, c, e2, rfl⟩ := y
      rw [List.getElem?_map, Array.getElem?_toList, e2] at e
      cases e
      exact ⟨e1, .str _⟩
    · rw [List.length_map, Array.length_toList] at hi; exact hi)

/-! ### comprehensions -/
/-- a comprehension's block of X -/
def BlkOf (X : Cx) (scope : Scope) (X' : Cx) : Prop := ∃ (s : Shared) (H : Hp) (C : Addr) (cl : List (Str × Addr)) (fp : List Addr), X' = X.blk s H scope (compEnvC scope cl C X.env) fp
theorem Wh.blk {X' : Cx} {scope : Scope} (A : Wh X N sc k) (h : BlkOf X scope X') (hk : scope.kind = .function := by rfl) : Wh X' N (relS scope sc) k := by
  obtain ⟨s, H, C, cl, fp, rfl⟩ := h
  refine ⟨⟨A.hN, A.nd, ?_, hk⟩, A.calm, A.room⟩
  rw [← A.hsc]
  rfl
def wipeD (ds : Sls) : List Nat → Sls
  | [] => ds
  | v :: vs => (wipeD ds vs).set v .no
theorem wipeD_len (ds : Sls) : ∀ vs, (wipeD ds vs).length = ds.length
  | [] => rfl
  | v :: vs => by unfold wipeD; rw [List.length_set, wipeD_len ds vs]
theorem wipeD_get {ds : Sls} {i : Nat} {s : Sl} : ∀ {vs : List Nat}, (wipeD ds vs)[i]? = some s → s = .no ∨ (ds[i]? = some s ∧ i ∉ vs)
  | [], h => .inr ⟨h, by simp⟩
  | v :: vs, h => by
    unfold wipeD at h
    by_cases hi : v = i
    · subst hi
      by_cases hl : v < (wipeD ds vs).length
      · rw [List.getElem?_set_self hl] at h
        exact .inl (Option.some.inj h).symm
      · rw [List.getElem?_eq_none (by rw [List.length_set]; omega)] at h; cases h
    · rw [List.getElem?_set_ne hi] at h
      rcases wipeD_get h with z | ⟨z, n⟩
      · exact .inl z
      · exact .inr ⟨z, by simp only [List.mem_cons, not_or]; exact ⟨fun e => hi e.symm, n⟩⟩
theorem StR.wipe {K : PySem.W.Frag} {F0 H0 F H : Hp} {σ : St} (r : StR K F0 H0 F H σ ds) (vs : List Nat) : StR K F0 H0 F H (L2.wipe σ vs) (wipeD ds vs) := by
  have get : ∀ i, i ∉ vs → (L2.wipe σ vs)[i]? = σ[i]? := fun i n => wipe_out n
  refine ⟨r.ext, by rw [wipe_length, wipeD_len, r.len], fun i s e => ?_, fun i j a ⟨s, e1, m1⟩ ⟨t, e2, m2⟩ p q => ?_⟩
  · rcases wipeD_get e with z | ⟨z, n⟩
    · subst z; trivial
    · rw [get i n]; exact r.at_ i s z
  · rcases wipeD_get e1 with z | ⟨z1, n1⟩
    · subst z; cases m1
    rcases wipeD_get e2 with z | ⟨z2, n2⟩
    · subst z; cases m2
    rw [get i n1] at p
    rw [get j n2] at q
    exact r.sep i j a ⟨s, z1, m1⟩ ⟨t, z2, m2⟩ p q
/-- a new list that te makes -/
def TeN (X : Cx) (te : TE) (ds : Sls) (xs : List D) : Prop := ∀ (F0 H0 F H : Hp) (σ : St), StR X.K F0 H0 F H σ ds → ∀ Q : VK,
  (∀ p vs F' H', Ext F H F' H' → H p = none → F' p = none → H' p = some (.lst vs) → DpAll X.K F' vs xs → Q (.ref p) H') → te σ H Q
/-- the comprehension's parts in every block -/
def wpEB (X : Cx) (scope : Scope) (e : Expr) : TE := fun σ H Q => ∀ X', BlkOf X scope X' → wpE X' e σ H Q
def wpTsB (X : Cx) (scope : Scope) (es : List Expr) : TT := fun σ H Q => ∀ X', BlkOf X scope X' → wpTs X' es σ H Q
variable {scope : Scope} {own : List (Str × Nat)} {elt : Expr} {ifs : List Expr} {m : Nat} {α β : Type} {l : List α} {enc : α → D} {enc2 : β → D} {f : α → β} {t : α → Bool}
theorem evts_nil : EvTs X [] ds true := fun F0 H0 F H σ s Q q => toTs pts_nil (q F H (.refl s.fh))
theorem evts_one {b : Bool} (h : EvT X c ds b) : EvTs X [c] ds b := fun F0 H0 F H σ s Q q => toTs (pts_one wpT_pt) (h F0 H0 F H σ s Q q)
theorem lc_te (hi : EvI X (.Name x p) iter ds (l.map enc)) (hx : (x, m) ∈ own) (hown : own = [(x, m)]) (hm : m < ds.length)
    (ht : ∀ a, a ∈ l → ∀ X', BlkOf X scope X' → EvTs X' ifs ((wipeD ds [m]).set m (.va (enc a))) (t a))
    (he : ∀ a, a ∈ l → t a = true → ∀ X', BlkOf X scope X' → EvE X' elt ((wipeD ds [m]).set m (.va (enc a))) (enc2 (f a))) (hf : ∀ b, nodict (enc2 b) = true) (hl : l.length ≤ sizeLine) :
    TeN X (tLc (wpI X (.Name x p) iter) (gName m) (wpTsB X scope ifs) (wpEB X scope elt) (own.map (·.2))) ds (((l.filter t).map f).map enc2) := by
  intro F0 H0 F H σ s Q q
  subst hown
  refine hi F0 H0 F H σ s _ fun J F1 H1 x1 wk D0 hD => ?_
  have s1 := s.to x1
  have len : (l.map enc).length = l.length := List.length_map _
  -- what holds between two turns
  let Pv : Nat → Hp → Prop := fun i H' => ∃ F' vs, Ext F1 H1 F' H' ∧ F' D0 = none ∧ H' D0 = some (.lst vs) ∧ DpAll X.K F' vs ((((l.take i).filter t).map f).map enc2)
  refine ⟨fun i n H' => n = l.length - i ∧ i ≤ l.length ∧ Pv i H', ⟨l.length, by simp, Nat.zero_le _, F1, [], .newO x1.fh hD, x1.fh.free hD, upd_same, by simpa using DpAll.nil⟩, ?_⟩
  rintro i n H' ⟨rfl, hi', F', vs, x2, fD, hD', dp⟩
  by_cases hlt : i < l.length
  · have sF : Same F1 H' := x2.f.trans x2.fh
    refine .inr ⟨wk.go H' i sF (by rw [len]; exact hlt), Pv (i + 1), fun H2 p2 => ⟨l.length - (i + 1), by omega, rfl, hlt, p2⟩, fun v H2 y => ?_⟩
    have el : l[i]? = some l[i] := List.getElem?_eq_getElem hlt
    have ed : (l.map enc)[i]? = some (enc l[i]) := by rw [List.getElem?_map, el]; rfl
    obtain ⟨e2, dv⟩ := wk.yld H' i v H2 _ sF y ed
    subst e2
    have mem : l[i] ∈ l := List.getElem_mem hlt
    have s2 : StR X.K F0 H0 F' H2 ((L2.wipe σ [m]).set m (some v)) ((wipeD ds [m]).set m (.va (enc l[i]))) := ((s1.to x2).wipe [m]).set (rp_of (dp_mono x2.f dv))
    have tk : l.take (i + 1) = l.take i ++ [l[i]] := by rw [List.take_add_one, el]; rfl
    refine ⟨?_, ?_⟩
    · show L2.wipe ((L2.wipe σ [m]).set m (some v)) [m] = L2.wipe σ [m]
      show ((σ.set m none).set m (some v)).set m none = σ.set m none
      rw [List.set_set, List.set_set]
    intro X' hX
    refine ht _ mem X' hX F0 H0 F' H2 _ (by obtain ⟨_, _, _, _, _, rfl⟩ := id hX; exact s2) _ fun F3 H3 x3 => ?_
    have fD3 : F3 D0 = none := x3.own D0 fD (by rw [hD']; exact fun z => nomatch z)
    cases hb : t l[i] with
    | true =>
      rw [if_pos rfl]
      intro X2 hX2
      refine he _ mem hb X2 hX2 F0 H0 F3 H3 _ (by obtain ⟨_, _, _, _, _, rfl⟩ := id hX2; exact s2.to x3) _ fun w F4 H4 x4 r4 => ?_
      have r4' : Rp X.K F4 w (enc2 (f l[i])) := by obtain ⟨_, _, _, _, _, rfl⟩ := id hX2; exact r4
      have fD4 : F4 D0 = none := x4.own D0 fD3 (by rw [x3.h _ _ hD']; exact fun z => nomatch z)
      have hl' : vs.length ≤ i := by
        rw [dpAll_len dp, List.length_map, List.length_map]
        exact Nat.le_trans (List.length_filter_le _ _) (by rw [List.length_take]; exact Nat.min_le_left _ _)
      refine ⟨vs, x4.h _ _ (x3.h _ _ hD'), by omega, F4, vs ++ [w], ?_, fD4, upd_same, ?_⟩
      · have x14 := (x2.trans x3).trans x4
        exact ⟨x14.f, fun b o e => by rw [upd_ne (ne_of_none e hD)]; exact x14.h b o e, fun b o e => by rw [upd_ne (ne_of_none e fD4)]; exact x14.fh b o e, x14.own⟩
      · rw [tk, List.filter_append, List.map_append, List.map_append]
        refine dpAll_append (dpAll_mono (x3.f.trans x4.f) dp) ?_
        rw [List.filter_cons_of_pos (by rw [hb])]
        exact .cons (rp_dp r4' (hf _)) .nil
    | false =>
      rw [if_neg (by decide)]
      refine ⟨F3, vs, x2.trans x3, fD3, x3.h _ _ hD', ?_⟩
      rw [tk, List.filter_append, List.filter_cons_of_neg (by rw [hb]; decide), List.filter_nil, List.append_nil]
      exact dpAll_mono x3.f dp
  · have e : i = l.length := by omega
    subst e
    rw [List.take_length] at dp
    exact .inl ⟨wk.stop H' _ (x2.f.trans x2.fh) (by rw [len]; exact Nat.le_refl _), q D0 vs F' H' (x1.trans x2) (x1.h.free hD) fD hD' dp⟩
/-- what a comprehension asks of its place -/
structure LcOk (N : List Str) (sc scope : Scope) (x : Str) (m n : Nat) : Prop where
  kind : scope.kind = .function
  blk : blkC N sc scope [(x, m)] = true
  at_ : N[m]? = some x
  loc : L2.Loc scope x
  lt : m < n
theorem lc_pe (A : Wh X N sc k) (L : LcOk N sc scope x m ds.length) (hs : ∀ x, foldedSetIterable iter X.env x = pure x := by intro _; rfl) :
    PE X (.ListComp elt [⟨.Name x p, iter, ifs, 0⟩] scope pos) (tLc (wpI X (.Name x p) iter) (gName m) (wpTsB X scope ifs) (wpEB X scope elt) ([(x, m)].map (·.2))) := by
  refine pe_lc A.calm (by rw [A.hN]; exact A.nd) wpI_pi (blkOk_by (by rw [A.hN, A.hsc]; exact L.blk)) (fun s H C cl fp => ?_) (fun s H C cl fp => ⟨fun pins s' σ H' Q I h => h _ ⟨s, H, C, cl, fp, rfl⟩ pins s' I⟩) (fun s H C cl fp => ⟨fun pins s' σ H' Q I h => h _ ⟨s, H, C, cl, fp, rfl⟩ pins s' I⟩) hs
  have B : Wh _ N (relS scope sc) k := A.blk ⟨s, H, C, cl, fp, rfl⟩ L.kind
  have nl : ∀ kd : NameKind, kd ≠ .free → scope.names.lookup x = some kd → (relS scope sc).names.lookup x = some kd := fun kd h1 h2 => lookup_relS_keep h1 h2
  refine pg_name (by rw [B.hN]; exact B.nd) (by rw [B.hN]; exact L.at_) (by rw [B.hsc]; exact L.loc.imp (nl _ (by decide)) (nl _ (by decide))) ?_
  rcases L.loc with h | h
  · exact .inr (by rw [B.hsc]; exact nl _ (by decide) h)
  · exact .inl (by show (scope.names.lookup x == some .cell) = true; rw [h]; rfl)
theorem evn_lc (enc2 : β → D) (m : Nat) (A : Wh X N sc k) (L : LcOk N sc scope x m ds.length) (hi : EvI X (.Name x p) iter ds (l.map enc))
    (ht : ∀ a, a ∈ l → ∀ X', BlkOf X scope X' → EvTs X' ifs ((wipeD ds [m]).set m (.va (enc a))) (t a))
    (he : ∀ a, a ∈ l → t a = true → ∀ X', BlkOf X scope X' → EvE X' elt ((wipeD ds [m]).set m (.va (enc a))) (enc2 (f a))) (hf : ∀ b, nodict (enc2 b) = true) (hl : l.length ≤ sizeLine)
    (hs : ∀ x, foldedSetIterable iter X.env x = pure x := by intro _; rfl) : EvN X (.ListComp elt [⟨.Name x p, iter, ifs, 0⟩] scope pos) ds (((l.filter t).map f).map enc2) := fun F0 H0 F H σ s Q q =>
  toE (lc_pe A L hs) (lc_te hi (List.mem_singleton.mpr rfl) rfl L.lt ht he hf hl F0 H0 F H σ s Q q)
/-- without a test -/
theorem evn_lc0 (enc2 : β → D) (m : Nat) (A : Wh X N sc k) (L : LcOk N sc scope x m ds.length) (hi : EvI X (.Name x p) iter ds (l.map enc))
    (he : ∀ a, a ∈ l → ∀ X', BlkOf X scope X' → EvE X' elt ((wipeD ds [m]).set m (.va (enc a))) (enc2 (f a))) (hf : ∀ b, nodict (enc2 b) = true) (hl : l.length ≤ sizeLine)
    (hs : ∀ x, foldedSetIterable iter X.env x = pure x := by intro _; rfl) : EvN X (.ListComp elt [⟨.Name x p, iter, [], 0⟩] scope pos) ds ((l.map f).map enc2) := by
  have h := evn_lc (t := fun _ => true) (ifs := []) (pos := pos) enc2 m A L hi (fun d _ X' _ => evts_nil) (fun d h _ X' hX => he d h X' hX) hf hl hs
  rw [List.filter_eq_self.mpr (fun _ _ => rfl)] at h
  exact h
end
end Vs

namespace Vs
open PySem PySem.Spec L2

/-! ### outcomes -/
/-- p: a new pair of two new lists -/
structure P2 (K : PySem.W.Frag) (H0 F H : Hp) (p q1 q2 : Addr) (vs ws : List V) (xs ys : List D) : Prop where
  n0 : H0 p = none
  f0 : F p = none
  h0 : H p = some (.tup [.ref q1, .ref q2])
  n1 : H0 q1 = none
  f1 : F q1 = none
  h1 : H q1 = some (.lst vs)
  n2 : H0 q2 = none
  f2 : F q2 = none
  h2 : H q2 = some (.lst ws)
  ne : q1 ≠ q2
  d1 : DpAll K F vs xs
  d2 : DpAll K F ws ys
inductive Out where
  /-- on to the next statement -/
  | nx (ds : Sls)
  /-- a datum is returned; a new list; a new dict -/
  | rt (d : D)
  | rn (xs : List D)
  | rm (kv : List (Str × D))
  | bk (ds : Sls)
  | ct (ds : Sls)
  /-- an exception of that class -/
  | ex (c : Value)
  /-- something is returned -/
  | dn
  /-- a new pair of two new lists -/
  | r2 (xs ys : List D)
def Post (K : PySem.W.Frag) (W : WX) (F0 H0 F1 : Hp) (E : Ends) : Out → Prop
  | .nx ds => ∀ σ F H, StR K F0 H0 F H σ ds → Same F1 F → E.nx σ H
  | .bk ds => ∀ σ F H, StR K F0 H0 F H σ ds → Same F1 F → E.bk σ H
  | .ct ds => ∀ σ F H, StR K F0 H0 F H σ ds → Same F1 F → E.ct σ H
  | .rt d => ∀ v F H, Ext F0 H0 F H → Rp K F v d → E.rt v H
  | .rn xs => ∀ p vs F H, Ext F0 H0 F H → H0 p = none → F p = none → H p = some (.lst vs) → DpAll K F vs xs → E.rt (.ref p) H
  | .rm kv => ∀ p ks F H, Ext F0 H0 F H → H0 p = none → F p = none → H p = some (.dK ks) → KvR K F ks kv → E.rt (.ref p) H
  | .ex c => ∀ σ F H, StR K F0 H0 F H σ (List.replicate σ.length .no) → Same F1 F → W c none σ H
  | .dn => ∀ v F H, Ext F0 H0 F H → E.rt v H
  | .r2 xs ys => ∀ p q1 q2 vs ws F H, Ext F0 H0 F H → P2 K H0 F H p q1 q2 vs ws xs ys → E.rt (.ref p) H
def Run (X : Cx) (W : WX) (st : Stmt) (ds : Sls) (o : Out) : Prop := ∀ (F0 H0 F H : Hp) (σ : St) (E : Ends), StR X.K F0 H0 F H σ ds → Post X.K W F0 H0 F E o → wpS X st E σ H
def RunB (X : Cx) (W : WX) (st : List Stmt) (ds : Sls) (o : Out) : Prop := ∀ (F0 H0 F H : Hp) (σ : St) (E : Ends), StR X.K F0 H0 F H σ ds → Post X.K W F0 H0 F E o → wpB X st E σ H
/-- no way on -/
def Out.leaves : Out → Bool
  | .nx _ => false
  | _ => true
section
variable {X : Cx} {W : WX} {N : List Str} {sc : Scope} {k : Nat} {ds ds' : Sls} {d d1 d2 d3 : D} {as xs : List D} {e a b c o tg iter : Expr} {es : List Expr} {pos p : Pos} {x : Str} {i j : Int} {z : Str} {st : Stmt} {rest body : List Stmt} {u u' : Out} {m : Nat} {t : Bool} {kv : List (Str × D)}
theorem Run.cast (h : Run X W st ds u) (e : u = u') : Run X W st ds u' := e ▸ h
theorem RunB.cast (h : RunB X W body ds u) (e : u = u') : RunB X W body ds u' := e ▸ h
theorem post_mono {K : PySem.W.Frag} {F0 H0 F F' : Hp} {E : Ends} (h : Same F F') (q : Post K W F0 H0 F E u) : Post K W F0 H0 F' E u := by
  cases u <;> first | exact q | exact fun σ F H s sf => q σ F H s (h.trans sf)
theorem runB_nil : RunB X W [] ds (.nx ds) := fun F0 H0 F H σ E s q => toB pss_nil (q σ F H s (Same.refl _))
theorem runB_cons (h1 : Run X W st ds (.nx ds')) (h2 : RunB X W rest ds' u) : RunB X W (st :: rest) ds u := fun F0 H0 F H σ E s q =>
  toB (pss_cons wpS_ps wpB_pss) (h1 F0 H0 F H σ _ s fun σ1 F1 H1 s1 sf => h2 F0 H0 F1 H1 σ1 E s1 (post_mono sf q))
theorem post_nx {K : PySem.W.Frag} {F0 H0 F : Hp} {E : Ends} {nx : St → Hp → Prop} (h : u.leaves = true) (q : Post K W F0 H0 F E u) : Post K W F0 H0 F { E with nx := nx } u := by
  cases u <;> first | exact q | cases h
theorem runB_stop (h1 : Run X W st ds u) (hl : u.leaves = true) : RunB X W (st :: rest) ds u := fun F0 H0 F H σ E s q =>
  toB (pss_cons wpS_ps wpB_pss) (h1 F0 H0 F H σ _ s (post_nx hl q))
theorem runB_one (h1 : Run X W st ds u) : RunB X W [st] ds u := fun F0 H0 F H σ E s q =>
  toB (pss_one wpS_ps) (h1 F0 H0 F H σ E s q)
theorem StR.frzO {K : PySem.W.Frag} {F0 H0 F H : Hp} {σ : St} (s : StR K F0 H0 F H σ ds) (z : Frz ds ds') : ∃ F1, StR K F0 H0 F1 H σ ds' ∧ Same F F1 := s.frz z
/-- from here on some of what was mine is fixed -/
theorem RunB.frz (h : RunB X W rest ds' u) (z : Frz ds ds') : RunB X W rest ds u := fun F0 H0 F H σ E s q => by
  obtain ⟨F1, s1, sf⟩ := s.frzO z
  exact h F0 H0 F1 H σ E s1 (post_mono sf q)
theorem Run.frz (h : Run X W st ds' u) (z : Frz ds ds') : Run X W st ds u := fun F0 H0 F H σ E s q => by
  obtain ⟨F1, s1, sf⟩ := s.frzO z
  exact h F0 H0 F1 H σ E s1 (post_mono sf q)
/-- what is known of slots is forgotten -/
inductive FgS : Sl → Sl → Prop where
  | same (s : Sl) : FgS s s
  | no (s : Sl) : FgS s .no
theorem fg_get : ∀ {ds ds' : Sls} {i : Nat} {s' : Sl}, Paired FgS ds ds' → ds'[i]? = some s' → s' = .no ∨ ds[i]? = some s'
  | _, _, _, _, .nil, e => by simp at e
  | _, _, 0, _, .cons h _, e => by
    have e := Option.some.inj e
    subst e
    cases h with
    | same => exact .inr rfl
    | no => exact .inl rfl
  | _, _, i + 1, _, .cons _ r, e => fg_get (i := i) r e
theorem paired_len {α β : Type} {R : α → β → Prop} : ∀ {l : List α} {l' : List β}, Paired R l l' → l'.length = l.length
  | _, _, .nil => rfl
  | _, _, .cons _ r => congrArg (· + 1) (paired_len r)
theorem RunB.forget (h : RunB X W rest ds' u) (z : Paired FgS ds ds') : RunB X W rest ds u := fun F0 H0 F H σ E s q =>
  h F0 H0 F H σ E (s.forget (paired_len z) fun i t e => fg_get z e) q

/-! ### small statements -/
theorem run_set (A : WhS X N sc k) (m : Nat) (hi : N[m]? = some x) (hx : L2.Loc sc x) (h : EvE X e ds d) (hs : swapsWith e (some (.Name x p)) pos.line X.env = pure false := by rfl) : Run X W (.Assign [.Name x p] e pos) ds (.nx (ds.set m (.va d))) := fun F0 H0 F H σ E s q =>
  toS (ps_set (i := m) (by rw [A.hN]; exact A.nd) (by rw [A.hN]; exact hi) (by rw [A.hsc]; exact hx) wpE_pe hs (.inl (A.fn x))) (h F0 H0 F H σ s _ fun v F' H' x r => q _ F' H' ((s.to x).set r) x.f)
theorem StR.setO {K : PySem.W.Frag} {F0 H0 F H : Hp} {σ : St} {a : Addr} {vs : List V} (r : StR K F0 H0 F H σ ds) (h0 : H0 a = none) (hf : F a = none) (hh : H a = some (.lst vs)) (dp : DpAll K F vs xs) (hn : ∀ j, Mine ds j → σ[j]? ≠ some (some (.ref a))) :
    StR K F0 H0 F H (σ.set m (some (.ref a))) (ds.set m (.ow xs)) := by
  have ls : (σ.set m (some (.ref a))).length = (ds.set m (Sl.ow xs)).length := by rw [List.length_set, List.length_set, r.len]
  have at' : ∀ (i : Nat) (s : Sl), (ds.set m (.ow xs))[i]? = some s → (m = i ∧ s = .ow xs ∧ (σ.set m (some (V.ref a)))[i]? = some (some (.ref a))) ∨ (m ≠ i ∧ ds[i]? = some s ∧ (σ.set m (some (V.ref a)))[i]? = σ[i]?) := fun i s e => by
    by_cases q : m = i
    · subst q
      have hl : m < ds.length := by
        have z := (List.getElem?_eq_some_iff.mp e).1
        rwa [List.length_set] at z
      rw [List.getElem?_set_self hl] at e
      exact .inl ⟨rfl, (Option.some.inj e).symm, List.getElem?_set_self (by rw [r.len]; exact hl)⟩
    · rw [List.getElem?_set_ne q] at e
      exact .inr ⟨q, e, List.getElem?_set_ne q⟩
  refine ⟨r.ext, ls, fun i s e => ?_, fun i j b ⟨s1, e1, m1⟩ ⟨s2, e2, m2⟩ p1 p2 => ?_⟩
  · rcases at' i s e with ⟨_, rfl, e3⟩ | ⟨_, e2, e3⟩
    · exact ⟨a, vs, e3, h0, hf, hh, dp⟩
    · rw [e3]; exact r.at_ i s e2
  · rcases at' i s1 e1 with ⟨z1, _, q1⟩ | ⟨z1, e1', q1⟩ <;> rcases at' j s2 e2 with ⟨z2, _, q2⟩ | ⟨z2, e2', q2⟩
    · rw [← z1, ← z2]
    · rw [q1] at p1
      cases p1
      rw [q2] at p2
      exact absurd p2 (hn j ⟨s2, e2', m2⟩)
    · rw [q2] at p2
      cases p2
      rw [q1] at p1
      exact absurd p1 (hn i ⟨s1, e1', m1⟩)
    · rw [q1] at p1
      rw [q2] at p2
      exact r.sep i j b ⟨s1, e1', m1⟩ ⟨s2, e2', m2⟩ p1 p2
theorem StR.setM {K : PySem.W.Frag} {F0 H0 F H : Hp} {σ : St} {a : Addr} {vs : List (Key × V)} (r : StR K F0 H0 F H σ ds) (h0 : H0 a = none) (hf : F a = none) (hh : H a = some (.dK vs)) (dp : KvR K F vs kv) (hn : ∀ j, Mine ds j → σ[j]? ≠ some (some (.ref a))) :
    StR K F0 H0 F H (σ.set m (some (.ref a))) (ds.set m (.od kv)) := by
  have ls : (σ.set m (some (.ref a))).length = (ds.set m (Sl.od kv)).length := by rw [List.length_set, List.length_set, r.len]
  have at' : ∀ (i : Nat) (s : Sl), (ds.set m (.od kv))[i]? = some s → (m = i ∧ s = .od kv ∧ (σ.set m (some (V.ref a)))[i]? = some (some (.ref a))) ∨ (m ≠ i ∧ ds[i]? = some s ∧ (σ.set m (some (V.ref a)))[i]? = σ[i]?) := fun i s e => by
    by_cases q : m = i
    · subst q
      have hl : m < ds.length := by
        have z := (List.getElem?_eq_some_iff.mp e).1
        rwa [List.length_set] at z
      rw [List.getElem?_set_self hl] at e
      exact .inl ⟨rfl, (Option.some.inj e).symm, List.getElem?_set_self (by rw [r.len]; exact hl)⟩
    · rw [List.getElem?_set_ne q] at e
      exact .inr ⟨q, e, List.getElem?_set_ne q⟩
  refine ⟨r.ext, ls, fun i s e => ?_, fun i j b ⟨s1, e1, m1⟩ ⟨s2, e2, m2⟩ p1 p2 => ?_⟩
  · rcases at' i s e with ⟨_, rfl, e3⟩ | ⟨_, e2, e3⟩
    · exact ⟨a, vs, e3, h0, hf, hh, dp⟩
    · rw [e3]; exact r.at_ i s e2
  · rcases at' i s1 e1 with ⟨z1, _, q1⟩ | ⟨z1, e1', q1⟩ <;> rcases at' j s2 e2 with ⟨z2, _, q2⟩ | ⟨z2, e2', q2⟩
    · rw [← z1, ← z2]
    · rw [q1] at p1
      cases p1
      rw [q2] at p2
      exact absurd p2 (hn j ⟨s2, e2', m2⟩)
    · rw [q2] at p2
      cases p2
      rw [q1] at p1
      exact absurd p1 (hn i ⟨s1, e1', m1⟩)
    · rw [q1] at p1
      rw [q2] at p2
      exact r.sep i j b ⟨s1, e1', m1⟩ ⟨s2, e2', m2⟩ p1 p2
/-- a new object stands apart from what is mine -/
theorem StR.apart {K : PySem.W.Frag} {F0 H0 F H : Hp} {σ : St} {a : Addr} (r : StR K F0 H0 F H σ ds) (h : H a = none) : ∀ j, Mine ds j → σ[j]? ≠ some (some (.ref a)) := fun j ⟨s, e, m⟩ q => by
  have z := r.at_ j s e
  cases s with
  | no => cases m
  | rf a => cases m
  | va d => cases m
  | ow xs =>
    obtain ⟨b, vs, e1, _, _, e4, _⟩ := z
    rw [q] at e1
    cases e1
    rw [h] at e4
    cases e4
  | od xs =>
    obtain ⟨b, vs, e1, _, _, e4, _⟩ := z
    rw [q] at e1
    cases e1
    rw [h] at e4
    cases e4
/-- a list of one's own -/
theorem run_setN (A : WhS X N sc k) (m : Nat) (hi : N[m]? = some x) (hx : L2.Loc sc x) (h : EvN X e ds xs) (hs : swapsWith e (some (.Name x p)) pos.line X.env = pure false := by rfl) : Run X W (.Assign [.Name x p] e pos) ds (.nx (ds.set m (.ow xs))) := fun F0 H0 F H σ E s q =>
  toS (ps_set (i := m) (by rw [A.hN]; exact A.nd) (by rw [A.hN]; exact hi) (by rw [A.hsc]; exact hx) wpE_pe hs (.inl (A.fn x))) (h F0 H0 F H σ s _ fun p vs F' H' x n1 n2 n3 n4 => q _ F' H' ((s.to x).setO (s.ext.h.free n1) n2 n3 n4 (s.apart n1)) x.f)
theorem run_setM (A : WhS X N sc k) (m : Nat) (hi : N[m]? = some x) (hx : L2.Loc sc x) (h : EvM X e ds kv) (hs : swapsWith e (some (.Name x p)) pos.line X.env = pure false := by rfl) : Run X W (.Assign [.Name x p] e pos) ds (.nx (ds.set m (.od kv))) := fun F0 H0 F H σ E s q =>
  toS (ps_set (i := m) (by rw [A.hN]; exact A.nd) (by rw [A.hN]; exact hi) (by rw [A.hsc]; exact hx) wpE_pe hs (.inl (A.fn x))) (h F0 H0 F H σ s _ fun p vs F' H' x n1 n2 n3 n4 => q _ F' H' ((s.to x).setM (s.ext.h.free n1) n2 n3 n4 (s.apart n1)) x.f)
/-- x = [elt for ..] -/
theorem run_setLc {scope : Scope} {elt : Expr} {ifs : List Expr} {y : Str} {py : Pos} {α β : Type} {l : List α} {enc : α → D} {f : α → β} {t : α → Bool} (enc2 : β → D) (n : Nat) (A : WhS X N sc k) (m : Nat) (hi : N[m]? = some y) (hy : sc.names.lookup y = some .local) (L : LcOk N sc scope x n ds.length) (hI : EvI X (.Name x p) iter ds (l.map enc))
    (ht : ∀ a, a ∈ l → ∀ X', BlkOf X scope X' → EvTs X' ifs ((wipeD ds [n]).set n (.va (enc a))) (t a))
    (he : ∀ a, a ∈ l → t a = true → ∀ X', BlkOf X scope X' → EvE X' elt ((wipeD ds [n]).set n (.va (enc a))) (enc2 (f a))) (hf : ∀ b, nodict (enc2 b) = true) (hl : l.length ≤ sizeLine)
    {lpos : Pos} (hline : (py.line == lpos.line) = true := by rfl) (hla : (scope.names.any fun (n, k) => n == y && (k == .local || k == .cell)) = false := by decide +kernel)
    (hs : ∀ x, foldedSetIterable iter X.env x = pure x := by intro _; rfl) : Run X W (.Assign [.Name y py] (.ListComp elt [⟨.Name x p, iter, ifs, 0⟩] scope lpos) pos) ds (.nx (ds.set m (.ow (((l.filter t).map f).map enc2)))) := fun F0 H0 F H σ E s q => by
  have hB : ∀ (s : Shared) (H : Hp) (C : Addr) (cl : List (Str × Addr)) (fp : List Addr), PG (X.blk s H scope (compEnvC scope cl C X.env) fp) (.Name x p) (gName n) := fun s H C cl fp => by
    have B : Wh _ N (relS scope sc) k := A.toWh.blk ⟨s, H, C, cl, fp, rfl⟩ L.kind
    have nl : ∀ kd : NameKind, kd ≠ .free → scope.names.lookup x = some kd → (relS scope sc).names.lookup x = some kd := fun kd h1 h2 => lookup_relS_keep h1 h2
    refine pg_name (by rw [B.hN]; exact B.nd) (by rw [B.hN]; exact L.at_) (by rw [B.hsc]; exact L.loc.imp (nl _ (by decide)) (nl _ (by decide))) ?_
    rcases L.loc with h | h
    · exact .inr (by rw [B.hsc]; exact nl _ (by decide) h)
    · exact .inl (by show (scope.names.lookup x == some .cell) = true; rw [h]; rfl)
  refine toS (ps_setLc (i := m) (own := [(x, n)]) (g := gName n) (tt := wpTsB X scope ifs) (te := wpEB X scope elt) A.calm (by rw [A.hN]; exact A.nd) (by rw [A.hN]; exact hi) (by rw [A.hsc]; exact hy) ?_ wpI_pi (blkOk_by (by rw [A.hN, A.hsc]; exact L.blk)) hB
    (fun s H C cl fp => ⟨fun pins s' σ H' Q I h => h _ ⟨s, H, C, cl, fp, rfl⟩ pins s' I⟩) (fun s H C cl fp => ⟨fun pins s' σ H' Q I h => h _ ⟨s, H, C, cl, fp, rfl⟩ pins s' I⟩) hs) ?_
  · exact sw_true (by rw [A.hsc]; exact A.kind) (by rw [A.hsc]; exact hy) hline hla
  · exact lc_te hI (List.mem_singleton.mpr rfl) rfl L.lt ht he hf hl F0 H0 F H σ s _ fun p vs F' H' x n1 n2 n3 n4 => q _ F' H' ((s.to x).setO (s.ext.h.free n1) n2 n3 n4 (s.apart n1)) x.f
theorem run_setLc0 {scope : Scope} {elt : Expr} {y : Str} {py : Pos} {α β : Type} {l : List α} {enc : α → D} {f : α → β} (enc2 : β → D) (n : Nat) (A : WhS X N sc k) (m : Nat) (hi : N[m]? = some y) (hy : sc.names.lookup y = some .local) (L : LcOk N sc scope x n ds.length) (hI : EvI X (.Name x p) iter ds (l.map enc))
    (he : ∀ a, a ∈ l → ∀ X', BlkOf X scope X' → EvE X' elt ((wipeD ds [n]).set n (.va (enc a))) (enc2 (f a))) (hf : ∀ b, nodict (enc2 b) = true) (hl : l.length ≤ sizeLine)
    {lpos : Pos} (hline : (py.line == lpos.line) = true := by rfl) (hla : (scope.names.any fun (n, k) => n == y && (k == .local || k == .cell)) = false := by decide +kernel)
    (hs : ∀ x, foldedSetIterable iter X.env x = pure x := by intro _; rfl) : Run X W (.Assign [.Name y py] (.ListComp elt [⟨.Name x p, iter, [], 0⟩] scope lpos) pos) ds (.nx (ds.set m (.ow ((l.map f).map enc2)))) := by
  have h := run_setLc (W := W) (t := fun _ => true) (ifs := []) (pos := pos) enc2 n A m hi hy L hI (fun d _ X' _ => evts_nil) (fun d h _ X' hX => he d h X' hX) hf hl hline hla hs
  rw [List.filter_eq_self.mpr (fun _ _ => rfl)] at h
  exact h
theorem run_ret (h : EvE X e ds d) : Run X W (.Return (some e) pos) ds (.rt d) := fun F0 H0 F H σ E s q =>
  toS (ps_ret wpE_pe) (h F0 H0 F H σ s _ fun v F' H' x r => q v F' H' (s.ext.trans x) r)
theorem run_retN (h : EvN X e ds xs) : Run X W (.Return (some e) pos) ds (.rn xs) := fun F0 H0 F H σ E s q =>
  toS (ps_ret wpE_pe) (h F0 H0 F H σ s _ fun p vs F' H' x n1 n2 n3 n4 => q p vs F' H' (s.ext.trans x) (s.ext.h.free n1) n2 n3 n4)
theorem run_retM (h : EvM X e ds kv) : Run X W (.Return (some e) pos) ds (.rm kv) := fun F0 H0 F H σ E s q =>
  toS (ps_ret wpE_pe) (h F0 H0 F H σ s _ fun p vs F' H' x n1 n2 n3 n4 => q p vs F' H' (s.ext.trans x) (s.ext.h.free n1) n2 n3 n4)
/-- what is mine is given out -/
theorem run_retO (A : WhS X N sc k) (m : Nat) (hi : N[m]? = some x) (hv : Vis sc x) (h : ds[m]? = some (.ow xs)) (hd : (x == ("__debug__" : Str)) = false := by decide) (hcd : (x == ("__classdict__" : Str)) = false := by decide) : Run X W (.Return (some (.Name x p)) pos) ds (.rn xs) := fun F0 H0 F H σ E s q => by
  obtain ⟨a, vs, e1, e2, e3, e4, e5⟩ := s.at_ m _ h
  exact toS (ps_ret (pe_var (i := m) (by rw [A.hN]; exact hi) (by rw [A.hsc]; exact hv) hd hcd)) ⟨_, e1, q a vs F H s.ext e2 e3 e4 e5⟩
theorem run_retOd (A : WhS X N sc k) (m : Nat) (hi : N[m]? = some x) (hv : Vis sc x) (h : ds[m]? = some (.od kv)) (hd : (x == ("__debug__" : Str)) = false := by decide) (hcd : (x == ("__classdict__" : Str)) = false := by decide) : Run X W (.Return (some (.Name x p)) pos) ds (.rm kv) := fun F0 H0 F H σ E s q => by
  obtain ⟨a, vs, e1, e2, e3, e4, e5⟩ := s.at_ m _ h
  exact toS (ps_ret (pe_var (i := m) (by rw [A.hN]; exact hi) (by rw [A.hsc]; exact hv) hd hcd)) ⟨_, e1, q a vs F H s.ext e2 e3 e4 e5⟩
theorem run_expr (h : EvE X e ds d) (hs : swapsWith e none pos.line X.env = pure false := by rfl) : Run X W (.Expr e pos) ds (.nx ds) := fun F0 H0 F H σ E s q =>
  toS (ps_expr wpE_pe hs) (h F0 H0 F H σ s _ fun v F' H' x r => q σ F' H' (s.to x) x.f)
theorem run_ifT (hc : EvT X c ds t) (ht : t = true) (h : RunB X W body ds u) : Run X W (.If c body rest pos) ds u := fun F0 H0 F H σ E s q =>
  toS (ps_if wpT_pt wpB_pss wpB_pss) (hc F0 H0 F H σ s _ fun F' H' x => by rw [if_pos ht]; exact h F0 H0 F' H' σ E (s.to x) (post_mono x.f q))
theorem run_ifF (hc : EvT X c ds t) (ht : t = false) (h : RunB X W rest ds u) : Run X W (.If c body rest pos) ds u := fun F0 H0 F H σ E s q =>
  toS (ps_if wpT_pt wpB_pss wpB_pss) (hc F0 H0 F H σ s _ fun F' H' x => by rw [if_neg (by rw [ht]; decide)]; exact h F0 H0 F' H' σ E (s.to x) (post_mono x.f q))
theorem run_if (hc : EvT X c ds t) (h1 : t = true → RunB X W body ds u) (h2 : t = false → RunB X W rest ds u) : Run X W (.If c body rest pos) ds u := by
  cases t with
  | true => exact run_ifT hc rfl (h1 rfl)
  | false => exact run_ifF hc rfl (h2 rfl)

/-! ### what is mine changes -/
theorem StR.wrO {K : PySem.W.Frag} {F0 H0 F H : Hp} {σ : St} {a : Addr} {vs : List V} {ys : List D} (r : StR K F0 H0 F H σ ds) (h : ds[m]? = some (.ow xs)) (e : σ[m]? = some (some (.ref a))) (dp : DpAll K F vs ys) : StR K F0 H0 F (upd H a (.lst vs)) σ (ds.set m (.ow ys)) := by
  obtain ⟨z1, z2⟩ := r.mine ⟨_, h, rfl⟩ e
  have hl : m < ds.length := (List.getElem?_eq_some_iff.mp h).1
  have other : ∀ (j : Nat) (b : Addr), m ≠ j → Mine ds j → σ[j]? = some (some (.ref b)) → b ≠ a := fun j b n mj ej q => by
    subst q
    exact n (r.sep m j b ⟨_, h, rfl⟩ mj e ej)
  refine ⟨⟨r.ext.f, fun b o eb => ?_, fun b o eb => ?_, r.ext.own⟩, by rw [List.length_set, r.len], fun i s es => ?_, fun i j b m1 m2 e1 e2 => ?_⟩
  · rw [upd_ne (fun q => by rw [q, z1] at eb; cases eb)]; exact r.ext.h b o eb
  · rw [upd_ne (fun q => by rw [q, z2] at eb; cases eb)]; exact r.fh b o eb
  · by_cases q : m = i
    · subst q
      rw [List.getElem?_set_self hl] at es
      cases es
      exact ⟨a, vs, e, z1, z2, upd_same, dp⟩
    · rw [List.getElem?_set_ne q] at es
      have w := r.at_ i s es
      cases s with
      | no => trivial
      | rf a => exact w
      | va d => exact w
      | ow xs =>
        obtain ⟨b, ws, h1, h2, h3, h4, h5⟩ := w
        exact ⟨b, ws, h1, h2, h3, by rw [upd_ne (other i b q ⟨_, es, rfl⟩ h1)]; exact h4, h5⟩
      | od xs =>
        obtain ⟨b, ws, h1, h2, h3, h4, h5⟩ := w
        exact ⟨b, ws, h1, h2, h3, by rw [upd_ne (other i b q ⟨_, es, rfl⟩ h1)]; exact h4, h5⟩
  · have w : ∀ i, Mine (ds.set m (.ow ys)) i → Mine ds i := fun i ⟨s, h1, h2⟩ => by
      by_cases q : m = i
      · subst q; exact ⟨_, h, rfl⟩
      · rw [List.getElem?_set_ne q] at h1; exact ⟨s, h1, h2⟩
    exact r.sep i j b (w i m1) (w j m2) e1 e2
theorem StR.wrM {K : PySem.W.Frag} {F0 H0 F H : Hp} {σ : St} {a : Addr} {vs : List (Key × V)} {ys : List (Str × D)} (r : StR K F0 H0 F H σ ds) (h : ds[m]? = some (.od kv)) (e : σ[m]? = some (some (.ref a))) (dp : KvR K F vs ys) : StR K F0 H0 F (upd H a (.dK vs)) σ (ds.set m (.od ys)) := by
  obtain ⟨z1, z2⟩ := r.mine ⟨_, h, rfl⟩ e
  have hl : m < ds.length := (List.getElem?_eq_some_iff.mp h).1
  have other : ∀ (j : Nat) (b : Addr), m ≠ j → Mine ds j → σ[j]? = some (some (.ref b)) → b ≠ a := fun j b n mj ej q => by
    subst q
    exact n (r.sep m j b ⟨_, h, rfl⟩ mj e ej)
  refine ⟨⟨r.ext.f, fun b o eb => ?_, fun b o eb => ?_, r.ext.own⟩, by rw [List.length_set, r.len], fun i s es => ?_, fun i j b m1 m2 e1 e2 => ?_⟩
  · rw [upd_ne (fun q => by rw [q, z1] at eb; cases eb)]; exact r.ext.h b o eb
  · rw [upd_ne (fun q => by rw [q, z2] at eb; cases eb)]; exact r.fh b o eb
  · by_cases q : m = i
    · subst q
      rw [List.getElem?_set_self hl] at es
      cases es
      exact ⟨a, vs, e, z1, z2, upd_same, dp⟩
    · rw [List.getElem?_set_ne q] at es
      have w := r.at_ i s es
      cases s with
      | no => trivial
      | rf a => exact w
      | va d => exact w
      | ow xs =>
        obtain ⟨b, ws, h1, h2, h3, h4, h5⟩ := w
        exact ⟨b, ws, h1, h2, h3, by rw [upd_ne (other i b q ⟨_, es, rfl⟩ h1)]; exact h4, h5⟩
      | od xs =>
        obtain ⟨b, ws, h1, h2, h3, h4, h5⟩ := w
        exact ⟨b, ws, h1, h2, h3, by rw [upd_ne (other i b q ⟨_, es, rfl⟩ h1)]; exact h4, h5⟩
  · have w : ∀ i, Mine (ds.set m (.od ys)) i → Mine ds i := fun i ⟨s, h1, h2⟩ => by
      by_cases q : m = i
      · subst q; exact ⟨_, h, rfl⟩
      · rw [List.getElem?_set_ne q] at h1; exact ⟨s, h1, h2⟩
    exact r.sep i j b (w i m1) (w j m2) e1 e2
variable {apos cpos : Pos}
theorem run_append (A : WhS X N sc k) (m : Nat) (hi : N[m]? = some x) (hv : Vis sc x) (h : ds[m]? = some (.ow xs)) (he : EvE X e ds d) (hn : nodict d = true) (hl : xs.length < sizeLine) (hd : (x == ("__debug__" : Str)) = false := by decide) (hcd : (x == ("__classdict__" : Str)) = false := by decide) (hbase : attributeBase (.Name x p) "append" X.env (eval (.Name x p) X.env) = eval (.Name x p) X.env := by rfl) (hfew : ((backTo cpos (starEach (e :: []) X.env)).all (fun x => !x.1) && (backToKw cpos (keywordEach [] X.env)).all (fun x => x.1.isSome) && decide ((e :: []).length + ([] : List Keyword).length + (if ([] : List Keyword).isEmpty then 0 else 1) < 30)) = true := by rfl) (hline : (apos.endLine == cpos.line) = true := by rfl) (hs : starEach (e :: []) X.env = (false, eval e X.env) :: starEach [] X.env := by rfl) (hplain : (backTo cpos (starEach [] X.env)).any (·.1) = false := by rfl)
    (hsw : swapsWith (.Call (.Attribute (.Name x p) "append" apos) [e] [] cpos) none pos.line X.env = pure false := by rfl) :
    Run X W (.Expr (.Call (.Attribute (.Name x p) "append" apos) [e] [] cpos) pos) ds (.nx (ds.set m (.ow (xs ++ [d])))) := fun F0 H0 F H σ E s q => by
  obtain ⟨a, vs, e1, e2, e3, e4, e5⟩ := s.at_ m _ h
  refine toS (ps_expr (pe_bm PySem.F.plainAttrs_list PySem.F.slot_list_append PySem.F.type_list_append mt_append (pe_var (i := m) (by rw [A.hN]; exact hi) (by rw [A.hsc]; exact hv) hd hcd) (pa_cons wpE_pe pa_nil hs) hbase hfew hline hs hplain) hsw) ?_
  refine ⟨_, e1, .inl ⟨rfl, vs, SqL.of e4⟩, ?_⟩
  refine he F0 H0 F H σ s _ fun v F' H' x r => ?_
  refine ⟨a, vs, v, rfl, rfl, x.h _ _ e4, by rw [dpAll_len e5]; exact hl, ?_⟩
  exact q σ F' _ ((s.to x).wrO h e1 (dpAll_append (dpAll_mono x.f e5) (.cons (rp_dp r hn) .nil))) x.f
/-- d[z] = e, d of one's own -/
def putD (kv : List (Str × D)) (z : Str) (d : D) : List (Str × D) := if kv.any (fun p => decide (p.1 = z)) then kv.map (fun p => if p.1 = z then (p.1, d) else p) else kv ++ [(z, d)]
theorem kvR_put {K : PySem.W.Frag} {H : Hp} {v : V} {d : D} {z : Str} (h : Dp K H v d) : ∀ {ks : List (Key × V)} {kv : List (Str × D)}, KvR K H ks kv → KvR K H (putK ks (Sum.inr z) v) (putD kv z d) := by
  have anyE : ∀ {ks : List (Key × V)} {kv : List (Str × D)}, KvR K H ks kv → (ks.any fun p => decide (p.1 = Sum.inr z)) = kv.any fun p => decide (p.1 = z) := by
    intro ks kv r
    induction r with
    | nil => rfl
    | cons h r ih =>
      rw [List.any_cons, List.any_cons, ih, h.1]
      congr 1
      exact decide_eq_decide.mpr ⟨fun e => Sum.inr.inj e, fun e => by rw [e]⟩
  have mapE : ∀ {ks : List (Key × V)} {kv : List (Str × D)}, KvR K H ks kv → KvR K H (ks.map fun p => if p.1 = Sum.inr z then (p.1, v) else p) (kv.map fun p => if p.1 = z then (p.1, d) else p) := by
    intro ks kv r
    induction r with
    | nil => exact .nil
    | @cons a b _ _ h1 r ih =>
      refine .cons ?_ ih
      show (if a.1 = Sum.inr z then (a.1, v) else a).1 = Sum.inr (if b.1 = z then (b.1, d) else b).1 ∧ Dp K H (if a.1 = Sum.inr z then (a.1, v) else a).2 (if b.1 = z then (b.1, d) else b).2
      by_cases q : b.1 = z
      · rw [if_pos (by rw [h1.1, q]), if_pos q]; exact ⟨h1.1, h⟩
      · rw [if_neg (by rw [h1.1]; exact fun e => q (Sum.inr.inj e)), if_neg q]; exact h1
  have app : ∀ {ks : List (Key × V)} {kv : List (Str × D)}, KvR K H ks kv → KvR K H (ks ++ [(Sum.inr z, v)]) (kv ++ [(z, d)]) := by
    intro ks kv r
    induction r with
    | nil => exact .cons ⟨rfl, h⟩ .nil
    | cons h1 r ih => exact .cons h1 ih
  intro ks kv r
  unfold putK putD
  rw [anyE r]
  split
  · exact mapE r
  · exact app r
theorem kvR_len {K : PySem.W.Frag} {H : Hp} {ks : List (Key × V)} {kv : List (Str × D)} (r : KvR K H ks kv) : ks.length = kv.length := (paired_len r).symm
theorem run_dput {i : Expr} (A : WhS X N sc k) (m : Nat) (hi : N[m]? = some x) (hv : Vis sc x) (h : ds[m]? = some (.od kv)) (hk : EvE X i ds (.str z)) (he : EvE X e ds d) (hn : nodict d = true) (hl : kv.length < sizeLine) (hd : (x == ("__debug__" : Str)) = false := by decide) (hcd : (x == ("__classdict__" : Str)) = false := by decide)
    {spos : Pos} (hsw : swapsWith e (some (.Subscript (.Name x p) i spos)) pos.line X.env = pure false := by rfl) : Run X W (.Assign [.Subscript (.Name x p) i spos] e pos) ds (.nx (ds.set m (.od (putD kv z d)))) := fun F0 H0 F H σ E s q => by
  obtain ⟨a, ks, e1, e2, e3, e4, e5⟩ := s.at_ m _ h
  refine toS (ps_dput A.u1 (pe_var (i := m) (by rw [A.hN]; exact hi) (by rw [A.hsc]; exact hv) hd hcd) wpE_pe wpE_pe hsw) ?_
  refine he F0 H0 F H σ s _ fun v F1 H1 x1 r1 => ⟨_, e1, ?_⟩
  refine hk F0 H0 F1 H1 σ (s.to x1) _ fun v2 F2 H2 x2 r2 => ?_
  rw [rp_str.mp r2]
  refine ⟨a, _, rfl, DPut.k (k := Sum.inr z) (x2.h _ _ (x1.h _ _ e4)) (by rw [kvR_len e5]; exact hl), ?_⟩
  exact q σ F2 _ (((s.to x1).to x2).wrM h e1 (kvR_put (rp_dp (rp_mono x2.f r1) hn) (kvR_mono (x1.f.trans x2.f) e5))) (x1.f.trans x2.f)
/-- xs[i] = e, xs of one's own -/
theorem run_setIx {i : Int} {ie : Expr} {j : Nat} (A : WhS X N sc k) (m : Nat) (hi : N[m]? = some x) (hv : Vis sc x) (h : ds[m]? = some (.ow xs)) (hk : EvE X ie ds (.int i)) (he : EvE X e ds d) (hn : nodict d = true) (hj : ixN xs.length i = some j) (hd : (x == ("__debug__" : Str)) = false := by decide) (hcd : (x == ("__classdict__" : Str)) = false := by decide)
    {spos : Pos} (ha : ∀ v, assign (.Subscript (.Name x p) ie spos) X.env v = (do
      let ov ← holding [v] (eval (.Name x p) X.env)
      let iv ← holding [v, ov] (eval ie X.env)
      standAt spos
      holding [v, ov, iv] (setItem ov iv v)
      release [v, ov, iv] []) := by intro _; rfl)
    (hs : swapsWithSole [.Subscript (.Name x p) ie spos] e pos.line X.env = pure false := by rfl) (hw : swappedStores [.Subscript (.Name x p) ie spos] e X.env = pure none := by rfl)
    (h1 : (assignEach [.Subscript (.Name x p) ie spos] X.env).map (·.2) = [assign (.Subscript (.Name x p) ie spos) X.env] := by rfl) : Run X W (.Assign [.Subscript (.Name x p) ie spos] e pos) ds (.nx (ds.set m (.ow (xs.set j d)))) := fun F0 H0 F H σ E s q => by
  obtain ⟨a, vs, e1, e2, e3, e4, e5⟩ := s.at_ m _ h
  refine toS (ps_asg wpE_pe (pg_sub (pe_var (i := m) (by rw [A.hN]; exact hi) (by rw [A.hsc]; exact hv) hd hcd) wpE_pe set_list ha) hs hw h1) ?_
  refine he F0 H0 F H σ s _ fun v F1 H1 x1 r1 => ⟨_, e1, ?_⟩
  refine hk F0 H0 F1 H1 σ (s.to x1) _ fun v2 F2 H2 x2 r2 => ?_
  refine ⟨a, vs, i, j, rfl, rp_int.mp r2, x2.h _ _ (x1.h _ _ e4), by rw [dpAll_len e5]; exact hj, ?_⟩
  exact q σ F2 _ (((s.to x1).to x2).wrO h e1 (dpAll_set j (dpAll_mono (x1.f.trans x2.f) e5) (rp_dp (rp_mono x2.f r1) hn))) (x1.f.trans x2.f)
end
end Vs

namespace Vs
open PySem PySem.Spec L2

/-! ### loops -/
/-- gone from the def -/
def Out.gone : Out → Bool
  | .rt _ => true
  | .rn _ => true
  | .rm _ => true
  | .ex _ => true
  | .dn => true
  | .r2 _ _ => true
  | _ => false
section
variable {X : Cx} {W : WX} {N : List Str} {sc : Scope} {k : Nat} {ds ds' : Sls} {d d1 d2 d3 : D} {as xs : List D} {e a b c o tg iter : Expr} {es : List Expr} {pos p : Pos} {x : Str} {i j : Int} {z : Str} {st : Stmt} {rest body : List Stmt} {u u' : Out} {m : Nat} {t : Bool} {kv : List (Str × D)}
inductive ForR (X : Cx) (W : WX) (m : Nat) (body : List Stmt) : List D → Sls → Out → Prop where
  | nil {ds : Sls} : ForR X W m body [] ds (.nx ds)
  | nx {d : D} {xs : List D} {ds ds' : Sls} {u : Out} : RunB X W body (ds.set m (.va d)) (.nx ds') → ForR X W m body xs ds' u → ForR X W m body (d :: xs) ds u
  | ct {d : D} {xs : List D} {ds ds' : Sls} {u : Out} : RunB X W body (ds.set m (.va d)) (.ct ds') → ForR X W m body xs ds' u → ForR X W m body (d :: xs) ds u
  | bk {d : D} {xs : List D} {ds ds' : Sls} : RunB X W body (ds.set m (.va d)) (.bk ds') → ForR X W m body (d :: xs) ds (.nx ds')
  | rt {d : D} {xs : List D} {ds : Sls} {u : Out} : RunB X W body (ds.set m (.va d)) u → u.gone = true → ForR X W m body (d :: xs) ds u
theorem post_gone {K : PySem.W.Frag} {F0 H0 F F' : Hp} {nx bk ct nx' bk' ct' : St → Hp → Prop} {rt : VK} (h : u.gone = true) (sf : Same F F') (q : Post K W F0 H0 F ⟨nx, rt, bk, ct⟩ u) : Post K W F0 H0 F' ⟨nx', rt, bk', ct'⟩ u := by
  cases u with
  | rt d => exact q
  | rn d => exact q
  | rm d => exact q
  | ex c => exact fun σ F H s s2 => q σ F H s (sf.trans s2)
  | dn => exact q
  | r2 xs ys => exact q
  | _ => cases h
theorem run_for (A : WhS X N sc k) (m : Nat) (hi : N[m]? = some x) (hx : L2.Loc sc x) (hI : EvI X (.Name x p) iter ds xs) (h : ForR X W m body xs ds u) (hs : ∀ x, foldedSetIterable iter X.env x = pure x := by intro _; rfl) : Run X W (.For (.Name x p) iter body [] pos) ds u := fun F0 H0 F H σ E s q => by
  refine toS (ps_for A.hp A.calm wpI_pi (pg_name (i := m) (by rw [A.hN]; exact A.nd) (by rw [A.hN]; exact hi) (by rw [A.hsc]; exact hx) (.inl (A.fn x))) wpB_pss hs) ?_
  refine hI F0 H0 F H σ s _ fun J F1 H1 x1 wk => ?_
  let Pv : Nat → St → Hp → Prop := fun i σ H => ∃ F' ds', Same F1 F' ∧ StR X.K F0 H0 F' H σ ds' ∧ ForR X W m body (xs.drop i) ds' u
  refine ⟨fun i n σ H => n = xs.length - i ∧ i ≤ xs.length ∧ Pv i σ H, ⟨xs.length, by simp, Nat.zero_le _, F1, ds, Same.refl _, s.to x1, h⟩, ?_⟩
  rintro i n σ2 H2 ⟨rfl, hi', F2, ds2, sF, s2, r⟩
  have sH : Same F1 H2 := sF.trans s2.fh
  by_cases hlt : i < xs.length
  · refine .inr ⟨wk.go H2 i sH hlt, Pv (i + 1), fun σ' H' p2 => ⟨xs.length - (i + 1), by omega, rfl, hlt, p2⟩, fun v H3 y => ?_⟩
    have ed : xs[i]? = some xs[i] := List.getElem?_eq_getElem hlt
    obtain ⟨e3, dv⟩ := wk.yld H2 i v H3 _ sH y ed
    subst e3
    have s3 : StR X.K F0 H0 F2 H3 (σ2.set m (some v)) (ds2.set m (.va xs[i])) := s2.set (rp_of (dp_mono sF dv))
    rw [List.drop_eq_getElem_cons hlt] at r
    show wpB X body _ (σ2.set m (some v)) H3
    cases r with
    | nx r1 r2 => exact r1 F0 H0 F2 H3 _ _ s3 fun σ' F' H' s' sf => ⟨F', _, sF.trans sf, s', r2⟩
    | ct r1 r2 => exact r1 F0 H0 F2 H3 _ _ s3 fun σ' F' H' s' sf => ⟨F', _, sF.trans sf, s', r2⟩
    | bk r1 => exact r1 F0 H0 F2 H3 _ _ s3 fun σ' F' H' s' sf => q σ' F' H' s' ((x1.f.trans sF).trans sf)
    | rt r1 hg => exact r1 F0 H0 F2 H3 _ _ s3 (post_gone hg (x1.f.trans sF) q)
  · have e : i = xs.length := by omega
    subst e
    rw [List.drop_length] at r
    cases r with
    | nil => exact .inl ⟨wk.stop H2 _ sH (Nat.le_refl _), q σ2 F2 H2 s2 (x1.f.trans sF)⟩
inductive WhR (X : Cx) (W : WX) (c : Expr) (body : List Stmt) : Nat → Sls → Out → Prop where
  | done {ds : Sls} : EvT X c ds false → WhR X W c body 0 ds (.nx ds)
  | nx {n : Nat} {ds ds' : Sls} {u : Out} : EvT X c ds true → RunB X W body ds (.nx ds') → WhR X W c body n ds' u → WhR X W c body (n + 1) ds u
  | ct {n : Nat} {ds ds' : Sls} {u : Out} : EvT X c ds true → RunB X W body ds (.ct ds') → WhR X W c body n ds' u → WhR X W c body (n + 1) ds u
  | bk {ds ds' : Sls} : EvT X c ds true → RunB X W body ds (.bk ds') → WhR X W c body 0 ds (.nx ds')
  | rt {ds : Sls} {u : Out} : EvT X c ds true → RunB X W body ds u → u.gone = true → WhR X W c body 0 ds u
theorem run_while {n : Nat} (A : WhS X N sc k) (h : WhR X W c body n ds u) : Run X W (.While c body [] pos) ds u := fun F0 H0 F H σ E s q => by
  refine toS (ps_while A.hp wpT_pt wpB_pss) ?_
  let Pv : Nat → St → Hp → Prop := fun n σ H => ∃ F' ds', Same F F' ∧ StR X.K F0 H0 F' H σ ds' ∧ WhR X W c body n ds' u
  refine ⟨Pv, ⟨n, F, ds, Same.refl _, s, h⟩, ?_⟩
  rintro n σ2 H2 ⟨F2, ds2, sF, s2, r⟩
  cases r with
  | done hc =>
    refine hc F0 H0 F2 H2 σ2 s2 _ fun F3 H3 x3 => ?_
    rw [if_neg (by decide)]
    exact q σ2 F3 H3 (s2.to x3) (sF.trans x3.f)
  | nx hc r1 r2 =>
    refine hc F0 H0 F2 H2 σ2 s2 _ fun F3 H3 x3 => ?_
    rw [if_pos rfl]
    refine ⟨Pv _, fun σ' H' p2 => ⟨_, Nat.lt_succ_self _, p2⟩, ?_⟩
    exact r1 F0 H0 F3 H3 _ _ (s2.to x3) fun σ' F' H' s' sf => ⟨F', _, (sF.trans x3.f).trans sf, s', r2⟩
  | ct hc r1 r2 =>
    refine hc F0 H0 F2 H2 σ2 s2 _ fun F3 H3 x3 => ?_
    rw [if_pos rfl]
    refine ⟨Pv _, fun σ' H' p2 => ⟨_, Nat.lt_succ_self _, p2⟩, ?_⟩
    exact r1 F0 H0 F3 H3 _ _ (s2.to x3) fun σ' F' H' s' sf => ⟨F', _, (sF.trans x3.f).trans sf, s', r2⟩
  | bk hc r1 =>
    refine hc F0 H0 F2 H2 σ2 s2 _ fun F3 H3 x3 => ?_
    rw [if_pos rfl]
    refine ⟨fun _ _ => False, fun σ' H' p2 => p2.elim, ?_⟩
    exact r1 F0 H0 F3 H3 _ _ (s2.to x3) fun σ' F' H' s' sf => q σ' F' H' s' ((sF.trans x3.f).trans sf)
  | rt hc r1 hg =>
    refine hc F0 H0 F2 H2 σ2 s2 _ fun F3 H3 x3 => ?_
    rw [if_pos rfl]
    refine ⟨fun _ _ => False, fun σ' H' p2 => p2.elim, ?_⟩
    exact r1 F0 H0 F3 H3 _ _ (s2.to x3) (post_gone hg (sF.trans x3.f) q)

/-! ### several targets -/
/-- a, b = e1, e2 -/
theorem run_par {y1 y2 : Str} {p1 p2 pt pt2 : Pos} {kt k2 : Nat} {m1 m2 : Nat} (A : WhS X N sc k) (h1 : N[m1]? = some y1) (h2 : N[m2]? = some y2) (hne : m1 ≠ m2) (l1 : sc.names.lookup y1 = some .local) (l2 : sc.names.lookup y2 = some .local) (ha : EvA X [a, b] ds [d1, d2])
    (hw : swappedStores [.Tuple [.Name y1 p1, .Name y2 p2] kt pt] (.Tuple [a, b] k2 pt2) X.env = pure (some [y1, y2]))
    (hs : swapsWithSole [.Tuple [.Name y1 p1, .Name y2 p2] kt pt] (.Tuple [a, b] k2 pt2) pos.line X.env = pure false := by rfl) :
    Run X W (.Assign [.Tuple [.Name y1 p1, .Name y2 p2] kt pt] (.Tuple [a, b] k2 pt2) pos) ds (.nx ((ds.set m1 (.va d1)).set m2 (.va d2))) := fun F0 H0 F H σ E s q => by
  refine toS (ps_par A.calm (by rw [A.hN]; exact A.nd) (by rw [A.hN]; exact h1) (by rw [A.hN]; exact h2) hne (by rw [A.hsc]; exact l1) (by rw [A.hsc]; exact l2) wpA_pa hw hs) ?_
  refine ha F0 H0 F H σ s _ fun vs F' H' x r => ?_
  obtain ⟨v, w, rfl, r1, r2⟩ := rpAll2 r
  exact ⟨v, w, rfl, q _ F' H' (((s.to x).set r1).set r2) x.f⟩
/-- a, b = e, e a tuple -/
theorem run_unp {y1 y2 : Str} {p1 p2 pt : Pos} {kt : Nat} {m1 m2 : Nat} (A : WhS X N sc k) (h1 : N[m1]? = some y1) (h2 : N[m2]? = some y2) (l1 : L2.Loc sc y1) (l2 : L2.Loc sc y2) (he : EvE X e ds (.tuple [d1, d2]))
    (hs : swapsWithSole [.Tuple [.Name y1 p1, .Name y2 p2] kt pt] e pos.line X.env = pure false := by rfl) (hw : swappedStores [.Tuple [.Name y1 p1, .Name y2 p2] kt pt] e X.env = pure none := by rfl)
    (hh1 : (assignEach [.Tuple [.Name y1 p1, .Name y2 p2] kt pt] X.env).map (·.2) = [assign (.Tuple [.Name y1 p1, .Name y2 p2] kt pt) X.env] := by rfl) 
    (hn : (assignEach [.Name y1 p1, .Name y2 p2] X.env).length = 2 := by rfl) (hst : (assignEach [.Name y1 p1, .Name y2 p2] X.env).findIdx? (·.1) = none := by rfl)
    (hq1 : (assignEach (.Name y1 p1 :: [.Name y2 p2]) X.env).map (·.2) = assign (.Name y1 p1) X.env :: (assignEach [.Name y2 p2] X.env).map (·.2) := by rfl) (hq2 : (assignEach (.Name y2 p2 :: []) X.env).map (·.2) = assign (.Name y2 p2) X.env :: (assignEach [] X.env).map (·.2) := by rfl) :
    Run X W (.Assign [.Tuple [.Name y1 p1, .Name y2 p2] kt pt] e pos) ds (.nx ((ds.set m1 (.va d1)).set m2 (.va d2))) := fun F0 H0 F H σ E s q => by
  have g : ∀ {y : Str} {p : Pos} {m : Nat}, N[m]? = some y → L2.Loc sc y → PG X (.Name y p) (gName m) := fun {y p m} h l => pg_name (by rw [A.hN]; exact A.nd) (by rw [A.hN]; exact h) (by rw [A.hsc]; exact l) (.inl (A.fn y))
  refine toS (ps_asg wpE_pe (pg_tup A.calm (pgs_cons (g h1 l1) (pgs_cons (g h2 l2) pgs_nil hq2) hq1) hn hst) hs hw hh1) ?_
  refine he F0 H0 F H σ s _ fun v F' H' x r => ?_
  obtain ⟨a, vs, rfl, h3, h4⟩ := rp_tup.mp r
  cases h4 with
  | cons r1 h4 =>
    cases h4 with
    | cons r2 h4 =>
      cases h4
      refine ⟨a, _, rfl, sqT_mono x.fh h3, rfl, _, _, rfl, _, _, rfl, rfl, ?_⟩
      exact q _ F' H' (((s.to x).set (rp_of r1)).set (rp_of r2)) x.f

/-! ### what a def promises -/
def PostC (K : PySem.W.Frag) (F H : Hp) (Q : VK) (E : XK) : Out → Prop
  | .rt d => ∀ v F' H', Ext F H F' H' → Rp K F' v d → Q v H'
  | .rn xs => ∀ p vs F' H', Ext F H F' H' → H p = none → F' p = none → H' p = some (.lst vs) → DpAll K F' vs xs → Q (.ref p) H'
  | .rm kv => ∀ p ks F' H', Ext F H F' H' → H p = none → F' p = none → H' p = some (.dK ks) → KvR K F' ks kv → Q (.ref p) H'
  | .ex c => ∀ F' H', Ext F H F' H' → E c none H'
  | .dn => ∀ v F' H', Ext F H F' H' → Q v H'
  | .r2 xs ys => ∀ p q1 q2 vs ws F' H', Ext F H F' H' → P2 K H F' H' p q1 q2 vs ws xs ys → Q (.ref p) H'
  | _ => False
/-- a def, by data: S tells what comes of the arguments -/
def spD (K : PySem.W.Frag) (S : List D → Out → Prop) : Sp := fun vs H Q E => ∃ F ds r, Same F H ∧ RpAll K F vs ds ∧ S ds r ∧ PostC K F H Q E r
/-- the end of a body -/
def Fin (u r : Out) : Prop := u = r ∨ ∃ ds, u = .nx ds ∧ r = .rt .none
def startD (N : List Str) (ds : List D) : Sls := ds.map Sl.va ++ List.replicate (N.length - ds.length) .no
theorem rpAll_len {K : PySem.W.Frag} {H : Hp} {vs : List V} {ds : List D} (r : RpAll K H vs ds) : ds.length = vs.length := paired_len r
theorem rpAll_get {K : PySem.W.Frag} {H : Hp} : ∀ {vs : List V} {ds : List D} {i : Nat} {d : D}, RpAll K H vs ds → ds[i]? = some d → ∃ v, vs[i]? = some v ∧ Rp K H v d
  | _, _, _, _, .nil, e => by simp at e
  | _, _, 0, _, .cons h _, e => by
    have e := Option.some.inj e
    subst e
    exact ⟨_, rfl, h⟩
  | _, _, i + 1, _, .cons _ r, e => rpAll_get (i := i) r e
theorem str_start {K : PySem.W.Frag} {F H : Hp} {N : List Str} {vs : List V} {ds : List D} (s : Same F H) (r : RpAll K F vs ds) : StR K F H F H (L2.start N vs) (startD N ds) := by
  have hl := rpAll_len r
  have get : ∀ (i : Nat) (t : Sl), (startD N ds)[i]? = some t → (t = .no) ∨ ∃ d v, t = .va d ∧ (L2.start N vs)[i]? = some (some v) ∧ Rp K F v d := fun i t e => by
    unfold startD at e
    by_cases q : i < ds.length
    · rw [List.getElem?_append_left (by rw [List.length_map]; exact q), List.getElem?_map] at e
      rw [List.getElem?_eq_getElem q] at e
      obtain ⟨v, e2, r2⟩ := rpAll_get r (List.getElem?_eq_getElem q)
      refine .inr ⟨_, v, (Option.some.inj e).symm, ?_, r2⟩
      unfold L2.start
      rw [List.getElem?_append_left (by rw [List.length_map]; omega), List.getElem?_map, e2]
      rfl
    · rw [List.getElem?_append_right (by rw [List.length_map]; omega), List.getElem?_replicate] at e
      split at e
      · exact .inl (Option.some.inj e).symm
      · cases e
  refine ⟨.refl s, ?_, fun i t e => ?_, fun i j a ⟨t, e, mt⟩ _ _ _ => ?_⟩
  · unfold L2.start startD
    rw [List.length_append, List.length_map, List.length_replicate, List.length_append, List.length_map, List.length_replicate, hl]
  · rcases get i t e with rfl | ⟨d, v, rfl, e2, r2⟩
    · trivial
    · exact ⟨v, e2, r2⟩
  · rcases get i t e with rfl | ⟨d, v, rfl, _⟩
    · cases mt
    · cases mt
end
/-- the text's def x stands there -/
def DfG (K : PySem.W.Frag) (mg : Str → Option Value) (x : Str) (st : Stmt) (ps : List Str) : Prop := ∃ f fd, Fun K x x st f fd ∧ mg x = some (.ref f) ∧ Binds K fd ps []
/-- .. and keeps its promise -/
def FnG (P : Program) (w : World) (K : PySem.W.Frag) (mg : Str → Option Value) (base : Heap) (k : Nat) (x : Str) (ps : List Str) (S : List D → Out → Prop) : Prop :=
  ∃ f fd, FnOk P w K mg base (L2.CX P w) k f fd ps (spD K S) ∧ mg x = some (.ref f) ∧ PySem.W.keepIn K (.ref f) = true ∧ Binds K fd ps []
abbrev FnX (X : Cx) := FnG X.prog X.w X.K X.mg X.base
section
variable {P : Program} {w : World} {K : PySem.W.Frag} {mg : Str → Option Value} {base : Heap} {x : Str} {st : Stmt} {N ps : List Str} {k : Nat} {S : List D → Out → Prop}
theorem fn_body {f : Addr} {fd : FuncData} (Fu : Fun K x x st f fd) (Sc : FnScope N ps (defScope st)) (len : ∀ ds r, S ds r → ds.length = ps.length)
    (body : ∀ (X : Cx) (W : WX), X.prog = P → X.w = w → X.K = K → X.mg = mg → X.base = base → WhS X N (defScope st) k → Takes X W → ∀ ds r, S ds r → ∃ u, Fin u r ∧ RunB X W (defBody st) (startD N ds) u) :
    FnOk P w K mg base (L2.CX P w) (k + 1) f fd ps (spD K S) := by
  refine Fu.okX Sc (fun vs H Q E h => ?_) fun cdv A outer s H vs Q E hr h => ?_
  · obtain ⟨F, ds, r, _, h1, h2, _⟩ := h
    rw [← rpAll_len h1]; exact len _ _ h2
  · obtain ⟨F, ds, r, sf, h1, h2, q⟩ := h
    refine ⟨_, wpB_pss, ?_⟩
    obtain ⟨u, fin, run⟩ := body (cxOf (L2.CX P w) P w K mg base N x (defScope st) f cdv A outer s H E) (fun cls d σ H => E cls d H) rfl rfl rfl rfl rfl ⟨⟨⟨rfl, Sc.nd, rfl, Sc.kind⟩, rfl, hr⟩, passes_of rfl, fun _ => rfl, rfl, rfl⟩ (takes_of rfl rfl rfl rfl) ds r h2
    refine run F H F H _ _ (str_start sf h1) ?_
    rcases fin with rfl | ⟨ds', rfl, rfl⟩
    · cases u with
      | rt d => exact q
      | rn d => exact q
      | rm d => exact q
      | ex c => exact fun σ F' H' s' _ => q F' H' s'.ext
      | dn => exact q
      | r2 xs ys => exact q
      | _ => exact q.elim
    · exact fun σ F' H' s' _ => q _ F' H' s'.ext .non
theorem fn_D (Df : DfG K mg x st ps) (Sc : FnScope N ps (defScope st)) (len : ∀ ds r, S ds r → ds.length = ps.length)
    (body : ∀ (X : Cx) (W : WX), X.prog = P → X.w = w → X.K = K → X.mg = mg → X.base = base → WhS X N (defScope st) k → Takes X W → ∀ ds r, S ds r → ∃ u, Fin u r ∧ RunB X W (defBody st) (startD N ds) u) :
    FnG P w K mg base (k + 1) x ps S := by
  obtain ⟨f, fd, h1, h2, h3⟩ := Df
  exact ⟨f, fd, fn_body h1 Sc len body, h2, h1.kp, h3⟩
theorem FnG.mono {j : Nat} (G : FnG P w K mg base j x ps S) (h : j ≤ k) : FnG P w K mg base k x ps S := by
  obtain ⟨f, fd, h1, h2, h3, h4⟩ := G
  exact ⟨f, fd, h1.mono h, h2, h3, h4⟩
end
section
variable {X : Cx} {W : WX} {N ps : List Str} {sc : Scope} {k kf : Nat} {ds : Sls} {d : D} {as xs : List D} {e : Expr} {es : List Expr} {pos p : Pos} {x : Str} {S : List D → Out → Prop} {kv : List (Str × D)}
/-- a block's callees are its def's -/
theorem FnG.blk {X' : Cx} {scope : Scope} (G : FnX X kf x ps S) (h : BlkOf X scope X') : FnX X' kf x ps S := by
  obtain ⟨s, H, C, cl, fp, rfl⟩ := h
  exact G
theorem call_run (A : Wh X N sc k) (G : FnX X kf x ps S) (hk : kf ≤ k) (hg : GlS sc x) (ha : EvA X (e :: es) ds as) {r : Out} (hs : S as r) (hdb : (x == ("__debug__" : Str)) = false := by decide) (he : starEach (e :: es) X.env = (false, eval e X.env) :: starEach es X.env := by rfl) (hpl : (backTo pos (starEach es X.env)).any (·.1) = false := by rfl)
    {F0 H0 F H : Hp} {σ : St} (s : StR X.K F0 H0 F H σ ds) {Q : VK} (q : ∀ F' H', Ext F H F' H' → PostC X.K F' H' Q E0 r) : wpE X (.Call (.Name x p) (e :: es) [] pos) σ H Q := by
  obtain ⟨f, fd, h1, h2, h3, h4⟩ := G
  refine toE (pe_call h1 (A.room.mono hk) (A.gl hg) h2 h3 h4 .nil passL wpA_pa hdb he hpl) ?_
  refine ha F0 H0 F H σ s _ fun vs F' H' x r1 => ?_
  rw [List.append_nil]
  exact ⟨F', as, r, x.fh, r1, hs, q F' H' x⟩
theorem ev_call (A : Wh X N sc k) (G : FnX X kf x ps S) (hk : kf ≤ k) (hg : GlS sc x) (ha : EvA X (e :: es) ds as) (hs : S as (.rt d)) (hdb : (x == ("__debug__" : Str)) = false := by decide) (he : starEach (e :: es) X.env = (false, eval e X.env) :: starEach es X.env := by rfl) (hpl : (backTo pos (starEach es X.env)).any (·.1) = false := by rfl) :
    EvE X (.Call (.Name x p) (e :: es) [] pos) ds d := fun F0 H0 F H σ s Q q => call_run A G hk hg ha hs hdb he hpl s fun F' H' x v F2 H2 x2 r => q v F2 H2 (x.trans x2) r
theorem evn_call (A : Wh X N sc k) (G : FnX X kf x ps S) (hk : kf ≤ k) (hg : GlS sc x) (ha : EvA X (e :: es) ds as) (hs : S as (.rn xs)) (hdb : (x == ("__debug__" : Str)) = false := by decide) (he : starEach (e :: es) X.env = (false, eval e X.env) :: starEach es X.env := by rfl) (hpl : (backTo pos (starEach es X.env)).any (·.1) = false := by rfl) :
    EvN X (.Call (.Name x p) (e :: es) [] pos) ds xs := fun F0 H0 F H σ s Q q => call_run A G hk hg ha hs hdb he hpl s fun F' H' x p vs F2 H2 x2 n1 n2 n3 n4 => q p vs F2 H2 (x.trans x2) (x.h.free n1) n2 n3 n4
theorem evm_call (A : Wh X N sc k) (G : FnX X kf x ps S) (hk : kf ≤ k) (hg : GlS sc x) (ha : EvA X (e :: es) ds as) (hs : S as (.rm kv)) (hdb : (x == ("__debug__" : Str)) = false := by decide) (he : starEach (e :: es) X.env = (false, eval e X.env) :: starEach es X.env := by rfl) (hpl : (backTo pos (starEach es X.env)).any (·.1) = false := by rfl) :
    EvM X (.Call (.Name x p) (e :: es) [] pos) ds kv := fun F0 H0 F H σ s Q q => call_run A G hk hg ha hs hdb he hpl s fun F' H' x p vs F2 H2 x2 n1 n2 n3 n4 => q p vs F2 H2 (x.trans x2) (x.h.free n1) n2 n3 n4
/-- what was never reached -/
theorem run_never {st : Stmt} {u : Out} (h : False) : Run X W st ds u := h.elim
end
end Vs

namespace Vs
open PySem PySem.Spec L2

/-! ### texts as lists of codes -/
abbrev S (l : List Nat) : Str := ⟨l.toArray⟩
abbrev sD (l : List Nat) : D := .str (S l)
abbrev iD (i : Int) : D := .int i
abbrev bD (b : Bool) : D := .bool b
abbrev txts (ls : List (List Nat)) : D := .list (ls.map sD)
abbrev nums (ns : List Int) : D := .list (ns.map iD)
theorem S_len (l : List Nat) : (S l).length = l.length := rfl
theorem S_inj {a b : List Nat} : S a = S b ↔ a = b := ⟨fun h => by
  have h1 := congrArg (fun s : Str => s.cps.toList) h
  simpa using h1, fun h => by rw [h]⟩
theorem S_app (a b : List Nat) : S a ++ S b = S (a ++ b) := by
  show (⟨a.toArray ++ b.toArray⟩ : Str) = _
  simp
theorem S_mk (x : Str) : S x.cps.toList = x := rfl
def cutL {α : Type} (l : List α) (lo hi : Option Int) : List α := (l.drop (HT.sIx l.length 0 lo)).take (HT.sIx l.length l.length hi - HT.sIx l.length 0 lo)
theorem cutS_S (l : List Nat) (lo hi : Option Int) : cutS (S l) lo hi = S (cutL l lo hi) := rfl
theorem cutD_map {α : Type} (enc : α → D) (l : List α) (lo hi : Option Int) : cutD (l.map enc) lo hi = (cutL l lo hi).map enc := by
  unfold cutD cutL
  rw [List.length_map, List.map_take, List.map_drop]
theorem sIx_n (n d k : Nat) : HT.sIx n d (some (k : Int)) = min k n := HT.sIx_nat n d k
theorem cutL_from {α : Type} (l : List α) (k : Nat) : cutL l (some (k : Int)) none = l.drop k := by
  unfold cutL
  rw [sIx_n, HT.sIx_none]
  by_cases h : k ≤ l.length
  · rw [Nat.min_eq_left h]
    exact List.take_of_length_le (by rw [List.length_drop]; omega)
  · rw [Nat.min_eq_right (by omega), Nat.sub_self, List.take_zero, List.drop_of_length_le (by omega)]
theorem cutL_to {α : Type} (l : List α) (k : Nat) : cutL l none (some (k : Int)) = l.take k := by
  unfold cutL
  rw [sIx_n, HT.sIx_none, List.drop_zero, Nat.sub_zero]
  by_cases h : k ≤ l.length
  · rw [Nat.min_eq_left h]
  · rw [Nat.min_eq_right (by omega), List.take_of_length_le (Nat.le_refl _), List.take_of_length_le (by omega)]
theorem cutL_all {α : Type} (l : List α) : cutL l none none = l := by
  unfold cutL
  rw [HT.sIx_none, HT.sIx_none, List.drop_zero, Nat.sub_zero, List.take_length]
theorem cutL_mid {α : Type} (l : List α) (i j : Nat) : cutL l (some (i : Int)) (some (j : Int)) = (l.take j).drop i := by
  unfold cutL
  rw [sIx_n, sIx_n, List.drop_take]
  by_cases h : i ≤ l.length
  · rw [Nat.min_eq_left h]
    by_cases h2 : j ≤ l.length
    · rw [Nat.min_eq_left h2]
    · rw [Nat.min_eq_right (show l.length ≤ j by omega), List.take_of_length_le (by rw [List.length_drop]; omega), List.take_of_length_le (by rw [List.length_drop]; omega)]
  · rw [Nat.min_eq_right (show l.length ≤ i by omega), List.drop_of_length_le (Nat.le_refl _), List.drop_of_length_le (show l.length ≤ i by omega), List.take_nil, List.take_nil]
theorem cutL_last {α : Type} (l : List α) : cutL l none (some (-1)) = l.dropLast := by
  unfold cutL
  rw [HT.sIx_none, List.drop_zero, Nat.sub_zero, List.dropLast_eq_take]
  congr 1
  show (if (-1 : Int) < 0 then (-1 + (l.length : Int)).toNat else min (-1 : Int).toNat l.length) = l.length - 1
  rw [if_pos (by decide)]
  omega
theorem cutL_len {α : Type} (l : List α) (lo hi : Option Int) : (cutL l lo hi).length ≤ l.length := by
  unfold cutL
  rw [List.length_take, List.length_drop]
  omega
theorem cutL_sub {α : Type} {l : List α} {lo hi : Option Int} {x : α} (h : x ∈ cutL l lo hi) : x ∈ l := List.mem_of_mem_drop (List.mem_of_mem_take h)
theorem atI_n {α : Type} {l : List α} {k : Nat} {x : α} (h : l[k]? = some x) : atI l (k : Int) = some x := atI_nat h
/-! what the library reckons of texts, over lists -/
theorem sub_iff (a b : List Nat) (i : Nat) : (i + (S b).length ≤ (S a).length ∧ Builtin.Str.subAt (S a) (S b) i = true) ↔ i ≤ a.length ∧ b <+: a.drop i := by
  rw [PySem.StrLaws.subAt_eq, beq_iff_eq]
  show (i + b.length ≤ a.length ∧ (a.drop i).take b.length = b) ↔ _
  constructor
  · rintro ⟨h1, h2⟩
    exact ⟨by omega, h2 ▸ List.take_prefix _ _⟩
  · rintro ⟨h0, h⟩
    have h1 := h.length_le
    rw [List.length_drop] at h1
    exact ⟨by omega, (List.prefix_iff_eq_take.mp h).symm⟩
theorem in_txt (a b : List Nat) : (!(Builtin.Str.occurrences (S a) (S b) 0 (S a).length 1).isEmpty) = decide (b <:+: a) := by
  rw [Bool.eq_iff_iff, PySem.StrLaws.found_iff, decide_eq_true_eq]
  constructor
  · rintro ⟨i, h⟩
    obtain ⟨h1, h2⟩ := (sub_iff a b i).mp h
    exact h2.isInfix.trans (List.drop_suffix i a).isInfix
  · rintro ⟨s, t, rfl⟩
    refine ⟨s.length, (sub_iff _ b s.length).mpr ⟨by simp, ?_⟩⟩
    rw [List.append_assoc, List.drop_left]
    exact ⟨t, rfl⟩
theorem starts_txt (a b : List Nat) : PySem.Txt.startswith (S a) (S b) = decide (b <+: a) := by
  have h := sub_iff a b 0
  rw [List.drop_zero] at h
  rw [Bool.eq_iff_iff, decide_eq_true_eq]
  unfold PySem.Txt.startswith
  rw [Bool.and_eq_true, decide_eq_true_eq, h]
  exact ⟨fun h => h.2, fun h => ⟨Nat.zero_le _, h⟩⟩
theorem ends_txt (a b : List Nat) : PySem.Txt.endswith (S a) (S b) = decide (b <:+ a) := by
  rw [Bool.eq_iff_iff, decide_eq_true_eq]
  unfold PySem.Txt.endswith
  rw [Bool.and_eq_true, decide_eq_true_eq]
  show (0 + b.length ≤ a.length ∧ Builtin.Str.subAt (S a) (S b) (a.length - b.length) = true) ↔ _
  constructor
  · rintro ⟨h1, h2⟩
    have h3 := ((sub_iff a b (a.length - b.length)).mp ⟨by rw [S_len, S_len]; omega, h2⟩).2
    have h4 : a.drop (a.length - b.length) = b := by
      have := h3.eq_of_length (by rw [List.length_drop]; omega)
      exact this.symm
    exact h4 ▸ List.drop_suffix _ a
  · rintro ⟨s, rfl⟩
    refine ⟨by rw [List.length_append]; omega, ?_⟩
    refine ((sub_iff (s ++ b) b _).mpr ⟨by omega, ?_⟩).2
    rw [List.length_append, Nat.add_sub_cancel, List.drop_left]
    exact List.prefix_refl _
theorem idxOf_le : ∀ {a : List Nat} {i c : Nat}, a[i]? = some c → a.idxOf c ≤ i
  | [], _, _, h => by simp at h
  | b :: a, 0, c, h => by
    have e : b = c := Option.some.inj h
    rw [List.idxOf_cons, e]
    simp
  | b :: a, i + 1, c, h => by
    have ih := idxOf_le (a := a) (i := i) (c := c) h
    rw [List.idxOf_cons]
    cases (b == c) with
    | true => exact Nat.zero_le _
    | false => exact Nat.succ_le_succ ih
theorem index_txt (a : List Nat) (c : Nat) (h : c ∈ a) : ∃ rest, Builtin.Str.occurrences (S a) (S [c]) 0 (S a).length 1 = a.idxOf c :: rest := by
  have at_ : ∀ i, (i + (S [c]).length ≤ (S a).length ∧ Builtin.Str.subAt (S a) (S [c]) i = true) ↔ a[i]? = some c := fun i => PySem.StrLaws.subAt_one (S a) c i
  have hx : a[a.idxOf c]? = some c := by
    rw [List.getElem?_eq_getElem (List.idxOf_lt_length_iff.mpr h)]
    exact congrArg some (List.getElem_idxOf _)
  rcases PySem.StrLaws.occ_head (S a) (S [c]) 1 (Nat.le_refl _) with ⟨_, hn⟩ | ⟨i, r, e, h1, h2⟩
  · exact absurd ((at_ _).mpr hx) (hn _)
  · have e1 := (at_ i).mp h1
    have h3 : ¬ a.idxOf c < i := fun q => h2 _ q ((at_ _).mpr hx)
    have h4 : a.idxOf c ≤ i := idxOf_le e1
    have : i = a.idxOf c := by omega
    exact ⟨r, by rw [e, this]⟩

section
variable {X : Cx} {W : WX} {N : List Str} {sc : Scope} {k : Nat} {ds : Sls} {d d1 d2 d3 : D} {as xs ys : List D} {e a b c o tg iter : Expr} {es : List Expr} {pos p : Pos} {x : Str} {i j : Int} {l l1 l2 : List Nat} {ls : List (List Nat)}
theorem ev_strC (l : List Nat) {j : Nat} (h : x = S l) : EvE X (.Constant (.str x) j pos) ds (sD l) := by
  subst h
  exact ev_str
theorem ev_addT (ha : EvE X a ds (sD l1)) (hb : EvE X b ds (sD l2)) (h : l1.length + l2.length ≤ sizeLine) : EvE X (.BinOp a .Add b pos) ds (sD (l1 ++ l2)) := (ev_addS ha hb h).cast (by rw [S_app])
theorem ev_eqT (ha : EvE X a ds (sD l1)) (hb : EvE X b ds (sD l2)) : EvE X (.Compare a [.Eq] [b] pos) ds (bD (decide (l1 = l2))) := (ev_eqS ha hb).cast (congrArg PyData.bool (decide_eq_decide.mpr S_inj))
theorem ev_neT (ha : EvE X a ds (sD l1)) (hb : EvE X b ds (sD l2)) : EvE X (.Compare a [.NotEq] [b] pos) ds (bD (!decide (l1 = l2))) := (ev_neS ha hb).cast (congrArg (fun b => PyData.bool (!b)) (decide_eq_decide.mpr S_inj))
theorem evt_eqT (ha : EvE X a ds (sD l1)) (hb : EvE X b ds (sD l2)) : EvT X (.Compare a [.Eq] [b] pos) ds (decide (l1 = l2)) := (evt_eqS ha hb).cast (decide_eq_decide.mpr S_inj)
theorem evt_neT (ha : EvE X a ds (sD l1)) (hb : EvE X b ds (sD l2)) : EvT X (.Compare a [.NotEq] [b] pos) ds (!decide (l1 = l2)) := (evt_neS ha hb).cast (congrArg (fun b => !b) (decide_eq_decide.mpr S_inj))
theorem ev_lenT' (A : Wh X N sc k) (hg : GlS sc "len") (hm : X.mg "len" = none) (h : EvE X e ds (sD l)) (hz : l.length ≤ sizeLine) (he : starEach (e :: []) X.env = (false, eval e X.env) :: starEach [] X.env := by rfl) : EvE X (.Call (.Name "len" p) [e] [] pos) ds (iD l.length) := ev_lenS A hg hm h hz he
/-- a sign of a text -/
theorem ev_ixTx {c : Nat} (ha : EvE X a ds (sD l)) (hb : EvE X b ds (.int i)) (h : atI l i = some c) (hl : l.length ≤ sizeLine) (hs : PlainIx b := by exact fun _ _ => rfl) : EvE X (.Subscript a b pos) ds (sD [c]) := ev_ixS ha hb hl h hs
variable {lo hi : Option Expr} {u v : Option Int} {p2 : Pos}
theorem ev_slT (ha : EvE X a ds (sD l)) (hl : EvO X lo ds u) (hh : EvO X hi ds v) (hz : l.length ≤ sizeLine) : EvE X (.Subscript a (.Slice lo hi none p2) pos) ds (sD (cutL l u v)) := ev_slS ha hl hh hz
theorem evn_slM {α : Type} {enc : α → D} {ts : List α} (ha : EvE X a ds (.list (ts.map enc))) (hl : EvO X lo ds u) (hh : EvO X hi ds v) : EvN X (.Subscript a (.Slice lo hi none p2) pos) ds ((cutL ts u v).map enc) := (evn_slL ha hl hh).cast (cutD_map enc ts u v)
theorem evi_strT (h : EvE X e ds (sD l)) : EvI X tg e ds (l.map fun c => sD [c]) := by
  have := evi_str (tg := tg) h
  exact this
/-! in -/
theorem opd_inT : OpD X (fun x y H Q => ∃ i j, x = .str i ∧ y = .str j ∧ Q (.bl (!(Builtin.Str.occurrences j i 0 j.length 1).isEmpty)) H) (sD l1) (sD l2) (bD (decide (l1 <:+: l2))) := fun v1 v2 F H Q s r1 r2 q =>
  ⟨S l1, S l2, rp_str.mp r1, rp_str.mp r2, by rw [in_txt]; exact q _ F H (.refl s) (.bl _)⟩
theorem opd_ninT : OpD X (fun x y H Q => ∃ i j, x = .str i ∧ y = .str j ∧ Q (.bl (!(!(Builtin.Str.occurrences j i 0 j.length 1).isEmpty))) H) (sD l1) (sD l2) (bD (!decide (l1 <:+: l2))) := fun v1 v2 F H Q s r1 r2 q =>
  ⟨S l1, S l2, rp_str.mp r1, rp_str.mp r2, by rw [in_txt]; exact q _ F H (.refl s) (.bl _)⟩
theorem ev_inT (ha : EvE X a ds (sD l1)) (hb : EvE X b ds (sD l2)) (hm : behindInMarks .In b = false := by rfl) : EvE X (.Compare a [.In] [b] pos) ds (bD (decide (l1 <:+: l2))) := ev_cmp op_in_str ha hb opd_inT hm
theorem evt_inT (ha : EvE X a ds (sD l1)) (hb : EvE X b ds (sD l2)) (hm : behindInMarks .In b = false := by rfl) : EvT X (.Compare a [.In] [b] pos) ds (decide (l1 <:+: l2)) := evt_cmp op_in_str ha hb opd_inT hm
theorem ev_ninT (ha : EvE X a ds (sD l1)) (hb : EvE X b ds (sD l2)) (hm : behindInMarks .NotIn b = false := by rfl) : EvE X (.Compare a [.NotIn] [b] pos) ds (bD (!decide (l1 <:+: l2))) := ev_cmp op_notin_str ha hb opd_ninT hm
theorem evt_ninT (ha : EvE X a ds (sD l1)) (hb : EvE X b ds (sD l2)) (hm : behindInMarks .NotIn b = false := by rfl) : EvT X (.Compare a [.NotIn] [b] pos) ds (!decide (l1 <:+: l2)) := evt_cmp op_notin_str ha hb opd_ninT hm
theorem inV_strs (l : List Nat) : ∀ ls : List (List Nat), inV (.str (S l)) (ls.map fun l => V.str (S l)) = decide (l ∈ ls)
  | [] => by simp [inV]
  | m :: ls => by
    have ih := inV_strs l ls
    unfold inV at ih ⊢
    rw [List.map_cons, List.any_cons, ih]
    have e : eqV (.str (S m)) (.str (S l)) = decide (l = m) := by
      show (S m == S l) = decide (l = m)
      rw [Bool.eq_iff_iff, beq_iff_eq, decide_eq_true_eq, S_inj]
      exact eq_comm
    rw [e]
    by_cases q : l = m
    · rw [decide_eq_true q, Bool.true_or, decide_eq_true (by rw [q]; exact List.mem_cons_self)]
    · rw [decide_eq_false q, Bool.false_or]
      exact decide_eq_decide.mpr ⟨fun h => List.mem_cons_of_mem _ h, fun h => (List.mem_cons.mp h).resolve_left q⟩
theorem flat_strs : ∀ ls : List (List Nat), (ls.map fun l => V.str (S l)).all flatV = true
  | [] => rfl
  | _ :: ls => by rw [List.map_cons, List.all_cons, flat_strs ls]; rfl
theorem dpAll_S {K : PySem.W.Frag} {H : Hp} : ∀ {ls : List (List Nat)} {vs : List V}, DpAll K H vs (ls.map sD) → vs = ls.map fun l => V.str (S l)
  | [], _, h => by cases h; rfl
  | n :: ns, _, h => by
    cases h with
    | cons h r => cases h; rw [dpAll_S r]; rfl
theorem opd_inL : OpD X (rIn X.K false) (sD l) (txts ls) (bD (decide (l ∈ ls))) := fun v1 v2 F H Q s r1 r2 q => by
  obtain ⟨a, vs, rfl, h1, h2⟩ := rp_lst.mp r2
  have := dpAll_S h2
  subst this
  rw [rp_str.mp r1]
  refine ⟨a, _, rfl, .inl (s.seq h1), rfl, flat_strs ls, ?_⟩
  rw [inV_strs]
  exact q _ F H (.refl s) (.bl _)
theorem opd_ninL : OpD X (rIn X.K true) (sD l) (txts ls) (bD (!decide (l ∈ ls))) := fun v1 v2 F H Q s r1 r2 q => by
  obtain ⟨a, vs, rfl, h1, h2⟩ := rp_lst.mp r2
  have := dpAll_S h2
  subst this
  rw [rp_str.mp r1]
  refine ⟨a, _, rfl, .inl (s.seq h1), rfl, flat_strs ls, ?_⟩
  rw [inV_strs]
  exact q _ F H (.refl s) (.bl _)
theorem ev_inL (ha : EvE X a ds (sD l)) (hb : EvE X b ds (txts ls)) (hm : behindInMarks .In b = false := by rfl) : EvE X (.Compare a [.In] [b] pos) ds (bD (decide (l ∈ ls))) := ev_cmp op_in_seq ha hb opd_inL hm
theorem evt_inL (ha : EvE X a ds (sD l)) (hb : EvE X b ds (txts ls)) (hm : behindInMarks .In b = false := by rfl) : EvT X (.Compare a [.In] [b] pos) ds (decide (l ∈ ls)) := evt_cmp op_in_seq ha hb opd_inL hm
theorem ev_ninL (ha : EvE X a ds (sD l)) (hb : EvE X b ds (txts ls)) (hm : behindInMarks .NotIn b = false := by rfl) : EvE X (.Compare a [.NotIn] [b] pos) ds (bD (!decide (l ∈ ls))) := ev_cmp op_notIn_seq ha hb opd_ninL hm
theorem evt_ninL (ha : EvE X a ds (sD l)) (hb : EvE X b ds (txts ls)) (hm : behindInMarks .NotIn b = false := by rfl) : EvT X (.Compare a [.NotIn] [b] pos) ds (!decide (l ∈ ls)) := evt_cmp op_notIn_seq ha hb opd_ninL hm
/-! methods -/
variable {apos cpos : Pos}
theorem ev_starts (ho : EvE X o ds (sD l1)) (ha : EvE X a ds (sD l2)) (hbase : attributeBase o "startswith" X.env (eval o X.env) = eval o X.env := by rfl) (hfew : ((backTo cpos (starEach (a :: []) X.env)).all (fun x => !x.1) && (backToKw cpos (keywordEach [] X.env)).all (fun x => x.1.isSome) && decide ((a :: []).length + ([] : List Keyword).length + (if ([] : List Keyword).isEmpty then 0 else 1) < 30)) = true := by rfl) (hline : (apos.endLine == cpos.line) = true := by rfl) (hs : starEach (a :: []) X.env = (false, eval a X.env) :: starEach [] X.env := by rfl) (hplain : (backTo cpos (starEach [] X.env)).any (·.1) = false := by rfl) :
    EvE X (.Call (.Attribute o "startswith" apos) [a] [] cpos) ds (bD (decide (l2 <+: l1))) :=
  ev_bm PySem.F.plainAttrs_str PySem.F.slot_str_startswith PySem.F.type_str_startswith mt_startswith ho rfl (eva_cons ha eva_nil hs) (fun v0 vs F H Q s r0 r q => by
    obtain ⟨v, rfl, r1⟩ := rpAll1 r
    exact ⟨S l1, S l2, rp_str.mp r0, by rw [rp_str.mp r1], by rw [starts_txt]; exact q _ F H (.refl s) (.bl _)⟩) hbase hfew hline hs hplain
theorem ev_ends (ho : EvE X o ds (sD l1)) (ha : EvE X a ds (sD l2)) (hbase : attributeBase o "endswith" X.env (eval o X.env) = eval o X.env := by rfl) (hfew : ((backTo cpos (starEach (a :: []) X.env)).all (fun x => !x.1) && (backToKw cpos (keywordEach [] X.env)).all (fun x => x.1.isSome) && decide ((a :: []).length + ([] : List Keyword).length + (if ([] : List Keyword).isEmpty then 0 else 1) < 30)) = true := by rfl) (hline : (apos.endLine == cpos.line) = true := by rfl) (hs : starEach (a :: []) X.env = (false, eval a X.env) :: starEach [] X.env := by rfl) (hplain : (backTo cpos (starEach [] X.env)).any (·.1) = false := by rfl) :
    EvE X (.Call (.Attribute o "endswith" apos) [a] [] cpos) ds (bD (decide (l2 <:+ l1))) :=
  ev_bm PySem.F.plainAttrs_str PySem.F.slot_str_endswith PySem.F.type_str_endswith mt_endswith ho rfl (eva_cons ha eva_nil hs) (fun v0 vs F H Q s r0 r q => by
    obtain ⟨v, rfl, r1⟩ := rpAll1 r
    exact ⟨S l1, S l2, rp_str.mp r0, by rw [rp_str.mp r1], by rw [ends_txt]; exact q _ F H (.refl s) (.bl _)⟩) hbase hfew hline hs hplain
theorem ev_sindex {c : Nat} (ho : EvE X o ds (sD l)) (ha : EvE X a ds (sD [c])) (hc : c ∈ l) (hbase : attributeBase o "index" X.env (eval o X.env) = eval o X.env := by rfl) (hfew : ((backTo cpos (starEach (a :: []) X.env)).all (fun x => !x.1) && (backToKw cpos (keywordEach [] X.env)).all (fun x => x.1.isSome) && decide ((a :: []).length + ([] : List Keyword).length + (if ([] : List Keyword).isEmpty then 0 else 1) < 30)) = true := by rfl) (hline : (apos.endLine == cpos.line) = true := by rfl) (hs : starEach (a :: []) X.env = (false, eval a X.env) :: starEach [] X.env := by rfl) (hplain : (backTo cpos (starEach [] X.env)).any (·.1) = false := by rfl) :
    EvE X (.Call (.Attribute o "index" apos) [a] [] cpos) ds (iD (l.idxOf c)) :=
  ev_bm PySem.F.plainAttrs_str PySem.F.slot_str_index PySem.F.type_str_index mt_sindex ho rfl (eva_cons ha eva_nil hs) (fun v0 vs F H Q s r0 r q => by
    obtain ⟨v, rfl, r1⟩ := rpAll1 r
    obtain ⟨rest, e⟩ := index_txt l c hc
    exact ⟨S l, S [c], _, rest, rp_str.mp r0, by rw [rp_str.mp r1], e, q _ F H (.refl s) (.int _)⟩) hbase hfew hline hs hplain
/-! text * number -/
def rMulS : R2 := fun x y H Q => ∃ z n, x = .str z ∧ y = .int n ∧ 1 ≤ n ∧ n ≤ 1000 ∧ z.length ≤ 1000 ∧ Q (.str (S (List.replicate n.toNat z.cps.toList).flatten)) H
theorem fold_app : ∀ (n : Nat) (z acc : Array Nat), ((List.replicate n z).foldl (· ++ ·) acc).toList = acc.toList ++ (List.replicate n z.toList).flatten
  | 0, z, acc => by simp
  | n + 1, z, acc => by
    rw [List.replicate_succ, List.foldl_cons, fold_app n z (acc ++ z), List.replicate_succ, List.flatten_cons, Array.toList_append, List.append_assoc]
theorem op_mulS : OpR X (binaryOp .Mult) rMulS := by
  intro pins s σ H x y v u Q I rx ry h
  obtain ⟨z, n, rfl, rfl, h1, h2, h3, q⟩ := h
  obtain ⟨t, rfl⟩ := rx
  obtain ⟨t', rfl⟩ := ry
  have fl : S (List.replicate n.toNat z.cps.toList).flatten = ⟨(List.replicate n.toNat z.cps).foldl (· ++ ·) #[]⟩ := by
    congr 1
    rw [fold_app]
    simp
  have len : ((List.replicate n.toNat z.cps).foldl (· ++ ·) #[]).size = n.toNat * z.length := by
    rw [← Array.length_toList, fold_app]
    simp [Str.length]
  have big : n.toNat * z.length ≤ 1000 * 1000 := Nat.mul_le_mul (by omega) h3
  refine PySem.P.mul_str (by
      rw [decide_eq_false (show ¬ n < -(2 ^ 63 : Int) by omega), decide_eq_false (show ¬ n ≥ 2 ^ 63 by omega)]; rfl) (fun _ _ w => ?_) (fun _ _ => ?_) ?_
  · have h8 : (1000 : Int) ≤ ((2 : Int) ^ 63 - 1) / n := Int.le_ediv_of_mul_le (by omega) (by
      have : 1000 * n ≤ 1000 * 1000 := by omega
      omega)
    omega
  · show decide _ = false
    refine decide_eq_false ?_
    rw [Nat.mul_comm, sizeLine_eq]
    omega
  · rw [if_neg (by omega)]
    split
    · rename_i hc
      rw [Bool.or_eq_true, beq_iff_eq, beq_iff_eq] at hc
      have e : S (List.replicate n.toNat z.cps.toList).flatten = z := by
        rcases hc with rfl | hc
        · show S (List.replicate 1 z.cps.toList).flatten = z
          rw [List.replicate_succ, List.replicate_zero, List.flatten_cons, List.flatten_nil, List.append_nil]
        · have : z.cps.toList = [] := List.eq_nil_of_length_eq_zero (by rw [Array.length_toList]; exact hc)
          rw [this]
          have e2 : (List.replicate n.toNat ([] : List Nat)).flatten = [] := by simp
          rw [e2]
          rw [← S_mk z, this]
      rw [e] at q
      exact ⟨.str z, H, I, ⟨t, rfl⟩, q⟩
    · rw [fl] at q
      refine ⟨?_, .str _, H, I.tok _, ⟨_, rfl⟩, q⟩
      show ((List.replicate n.toNat z.cps).foldl (· ++ ·) #[]).size ≤ sizeLine
      rw [len, sizeLine_eq]
      omega
theorem ev_mulT (ha : EvE X a ds (sD l)) (hb : EvE X b ds (.int i)) (h1 : 1 ≤ i) (h2 : i ≤ 1000) (h3 : l.length ≤ 1000) : EvE X (.BinOp a .Mult b pos) ds (sD (List.replicate i.toNat l).flatten) :=
  ev_op op_mulS ha hb fun v1 v2 F H Q s r1 r2 q => ⟨S l, i, rp_str.mp r1, rp_int.mp r2, h1, h2, h3, q _ F H (.refl s) (.str _)⟩
/-! lists put together -/
/-- a list that may be put together with another -/
def EvC (X : Cx) (e : Expr) (ds : Sls) (xs : List D) : Prop := ∀ (F0 H0 F H : Hp) (σ : St), StR X.K F0 H0 F H σ ds → ∀ Q : VK,
  (∀ p vs F' H', Ext F H F' H' → H' p = some (.lst vs) → DpAll X.K F' vs xs → Q (.ref p) H') → wpE X e σ H Q
theorem EvN.toC (h : EvN X e ds xs) : EvC X e ds xs := fun F0 H0 F H σ s Q q => h F0 H0 F H σ s Q fun p vs F' H' x _ _ n3 n4 => q p vs F' H' x n3 n4
theorem EvC.cast {xs' : List D} (h : EvC X e ds xs) (q : xs = xs') : EvC X e ds xs' := q ▸ h
theorem evc_own (A : Wh X N sc k) (m : Nat) (hi : N[m]? = some x) (hv : Vis sc x) (h : ds[m]? = some (.ow xs)) (hd : (x == ("__debug__" : Str)) = false := by decide) (hcd : (x == ("__classdict__" : Str)) = false := by decide) : EvC X (.Name x pos) ds xs := fun F0 H0 F H σ r Q q => by
  obtain ⟨a, vs, e1, e2, e3, e4, e5⟩ := r.at_ m _ h
  exact toE (pe_var (i := m) (by rw [A.hN]; exact hi) (by rw [A.hsc]; exact hv) hd hcd) ⟨_, e1, q a vs F H (.refl r.fh) e4 e5⟩
theorem evn_cat (ha : EvC X a ds xs) (hb : EvC X b ds ys) (hl : xs.length + ys.length ≤ sizeLine) : EvN X (.BinOp a .Add b pos) ds (xs ++ ys) := fun F0 H0 F H σ s Q q =>
  toE (pe_op op_cat wpE_pe wpE_pe) (ha F0 H0 F H σ s _ fun p vs F1 H1 x1 n3 n4 => hb F0 H0 F1 H1 σ (s.to x1) _ fun p' ws F2 H2 x2 m3 m4 =>
    ⟨p, p', vs, ws, rfl, rfl, x2.h _ _ n3, m3, by rw [dpAll_len n4, dpAll_len m4]; exact hl, fun l hl => q l _ F2 _ ((x1.trans x2).trans (.newO x2.fh hl)) ((x1.h.trans x2.h).free hl) (x2.fh.free hl) upd_same (dpAll_append (dpAll_mono x2.f n4) m4)⟩)
/-- what is mine goes to another name -/
theorem run_move {y : Str} {py : Pos} {m n : Nat} (A : WhS X N sc k) (hi : N[m]? = some x) (hx : L2.Loc sc x) (hj : N[n]? = some y) (hv : Vis sc y) (hmn : m ≠ n) (h : ds[n]? = some (.ow xs)) (hd : (y == ("__debug__" : Str)) = false := by decide) (hcd : (y == ("__classdict__" : Str)) = false := by decide) (hs : swapsWith (.Name y py) (some (.Name x p)) pos.line X.env = pure false := by rfl) :
    Run X W (.Assign [.Name x p] (.Name y py) pos) ds (.nx ((ds.set n .no).set m (.ow xs))) := fun F0 H0 F H σ E s q => by
  obtain ⟨a, vs, e1, e2, e3, e4, e5⟩ := s.at_ n _ h
  refine toS (ps_set (i := m) (by rw [A.hN]; exact A.nd) (by rw [A.hN]; exact hi) (by rw [A.hsc]; exact hx) (pe_var (i := n) (by rw [A.hN]; exact hj) (by rw [A.hsc]; exact hv) hd hcd) hs (.inl (A.fn x))) ⟨_, e1, ?_⟩
  have s1 : StR X.K F0 H0 F H σ (ds.set n .no) := s.forget (List.length_set ..) fun i t e => by
    by_cases z : n = i
    · subst z
      rw [List.getElem?_set_self (List.getElem?_eq_some_iff.mp h).1] at e
      exact .inl (Option.some.inj e).symm
    · rw [List.getElem?_set_ne z] at e
      exact .inr e
  refine q _ F H (s1.setO e2 e3 e4 e5 fun j ⟨t, ej, mj⟩ z => ?_) (Same.refl _)
  by_cases w : n = j
  · subst w
    rw [List.getElem?_set_self (List.getElem?_eq_some_iff.mp h).1] at ej
    cases ej
    cases mj
  · rw [List.getElem?_set_ne w] at ej
    exact w (s.sep n j a ⟨_, h, rfl⟩ ⟨t, ej, mj⟩ e1 z)
end
end Vs

namespace Vs
open PySem PySem.Spec L2

/-! ### data of a kind -/
abbrev pD (p : Int × Int) : D := .tuple [iD p.1, iD p.2]
abbrev psD (ps : List (Int × Int)) : D := .list (ps.map pD)
abbrev lnD (ls : List (List (Int × Int))) : D := .list (ls.map psD)
/-- the built-ins' names are free -/
structure Bts (mg : Str → Option Value) : Prop where
  len : mg "len" = none
  abs : mg "abs" = none
  min : mg "min" = none
  sum : mg "sum" = none
  range : mg "range" = none
  sorted : mg "sorted" = none
  list : mg "list" = none
  int : mg "int" = none
  str : mg "str" = none
  tuple : mg "tuple" = none
  bool : mg "bool" = none
  isinstance : mg "isinstance" = none
  any : mg "any" = none
  all : mg "all" = none
def GlG (K : PySem.W.Frag) (mg : Str → Option Value) (x : Str) (d : D) : Prop := ∃ u v, mg x = some u ∧ RelV v u ∧ ∀ H, Rp K H v d
theorem atI_getD {α : Type} {l : List α} {i : Int} (z : α) (h0 : 0 ≤ i) (h1 : i < l.length) : atI l i = some (l.getD i.toNat z) := by
  obtain ⟨k, rfl⟩ := Int.eq_ofNat_of_zero_le h0
  have hk : k < l.length := by omega
  rw [Int.toNat_natCast, List.getD_eq_getElem?_getD, List.getElem?_eq_getElem hk]
  exact atI_n (List.getElem?_eq_getElem hk)
theorem atI_map {α β : Type} {l : List α} {i : Int} {x : α} (f : α → β) (h : atI l i = some x) : atI (l.map f) i = some (f x) := by
  unfold atI at *
  rw [List.length_map]
  cases q : ixN l.length i with
  | none => rw [q] at h; cases h
  | some j =>
    rw [q] at h
    have h : l[j]? = some x := h
    show (l.map f)[j]? = some (f x)
    rw [List.getElem?_map, h]; rfl
theorem atI_last {α : Type} {l : List α} (z : α) (h : 0 < l.length) : atI l (-1) = some (l.getLastD z) := by
  have e : ixN l.length (-1) = some (l.length - 1) := by
    unfold ixN
    rw [if_neg (by decide), if_pos (by omega)]
    congr 1
    omega
  unfold atI
  rw [e]
  show l[l.length - 1]? = _
  rw [List.getLastD_eq_getLast?, List.getLast?_eq_getElem?]
  rw [List.getElem?_eq_getElem (by omega)]
  rfl
section
variable {X : Cx} {W : WX} {N : List Str} {sc : Scope} {k : Nat} {ds ds' : Sls} {d d1 d2 d3 : D} {as xs ys : List D} {e a b c o tg iter : Expr} {es : List Expr} {pos p : Pos} {x : Str} {i j : Int} {l l1 l2 : List Nat} {ls : List (List Nat)} {α : Type} {enc : α → D} {ts : List α}
theorem BlkOf.mg {X' : Cx} {scope : Scope} (h : BlkOf X scope X') : X'.mg = X.mg ∧ X'.K = X.K := by
  obtain ⟨s, H, C, cl, fp, rfl⟩ := h
  exact ⟨rfl, rfl⟩
theorem Bts.blk {X' : Cx} {scope : Scope} (B : Bts X.mg) (h : BlkOf X scope X') : Bts X'.mg := by rw [h.mg.1]; exact B
theorem GlG.blk {X' : Cx} {scope : Scope} (g : GlG X.K X.mg x d) (h : BlkOf X scope X') : GlG X'.K X'.mg x d := by rw [h.mg.1, h.mg.2]; exact g
theorem ev_gl (A : Wh X N sc k) (g : GlG X.K X.mg x d) (hg : GlS sc x) (hd : (x == ("__debug__" : Str)) = false := by decide) : EvE X (.Name x pos) ds d := ev_glob A g hg hd
theorem ev_ixG (z : α) (ha : EvE X a ds (.list (ts.map enc))) (hb : EvE X b ds (.int i)) (h0 : 0 ≤ i) (h1 : i < ts.length) (hs : PlainIx b := by exact fun _ _ => rfl) : EvE X (.Subscript a b pos) ds (enc (ts.getD i.toNat z)) := ev_ixL ha hb (atI_map enc (atI_getD z h0 h1)) hs
theorem ev_ixGO (z : α) (A : Wh X N sc k) (m : Nat) (hi : N[m]? = some x) (hv : Vis sc x) (h : ds[m]? = some (.ow (ts.map enc))) (hb : EvE X b ds (.int i)) (h0 : 0 ≤ i) (h1 : i < ts.length) (hs : PlainIx b := by exact fun _ _ => rfl) (hd : (x == ("__debug__" : Str)) = false := by decide) (hcd : (x == ("__classdict__" : Str)) = false := by decide) : EvE X (.Subscript (.Name x p) b pos) ds (enc (ts.getD i.toNat z)) := ev_ixO A m hi hv h hb (atI_map enc (atI_getD z h0 h1)) hs hd hcd
theorem ev_ixTG (ha : EvE X a ds (sD l)) (hb : EvE X b ds (.int i)) (h0 : 0 ≤ i) (h1 : i < l.length) (hl : l.length ≤ sizeLine) (hs : PlainIx b := by exact fun _ _ => rfl) : EvE X (.Subscript a b pos) ds (sD [l.getD i.toNat 0]) := ev_ixTx ha hb (atI_getD 0 h0 h1) hl hs
theorem ev_ixLast (z : α) (ha : EvE X a ds (.list (ts.map enc))) (hb : EvE X b ds (.int (-1))) (h1 : 0 < ts.length) (hs : PlainIx b := by exact fun _ _ => rfl) : EvE X (.Subscript a b pos) ds (enc (ts.getLastD z)) := ev_ixL ha hb (atI_map enc (atI_last z h1)) hs
theorem ev_fst {q : Int × Int} (ha : EvE X a ds (pD q)) (hb : EvE X b ds (.int 0)) (hs : PlainIx b := by exact fun _ _ => rfl) : EvE X (.Subscript a b pos) ds (iD q.1) := ev_ixT ha hb (atI_n (k := 0) rfl) hs
theorem ev_snd {q : Int × Int} (ha : EvE X a ds (pD q)) (hb : EvE X b ds (.int 1)) (hs : PlainIx b := by exact fun _ _ => rfl) : EvE X (.Subscript a b pos) ds (iD q.2) := ev_ixT ha hb (atI_n (k := 1) rfl) hs
theorem ev_pair {n : Nat} (ha : EvE X a ds (.int i)) (hb : EvE X b ds (.int j)) (he : starEach (a :: [b]) X.env = (false, eval a X.env) :: starEach [b] X.env := by rfl) (he2 : starEach (b :: []) X.env = (false, eval b X.env) :: starEach [] X.env := by rfl) : EvE X (.Tuple [a, b] n pos) ds (pD (i, j)) :=
  ev_tup (eva_cons ha (eva_cons hb eva_nil he2) he) rfl (by show 2 ≤ sizeLine; rw [sizeLine_eq]; decide)
theorem eva_nilM : EvA X [] ds (([] : List α).map enc) := eva_nil
theorem eva_consM (t : α) (h : EvE X e ds (enc t)) (hr : EvA X es ds (ts.map enc)) (hs : starEach (e :: es) X.env = (false, eval e X.env) :: starEach es X.env := by rfl) : EvA X (e :: es) ds ((t :: ts).map enc) := eva_cons h hr hs
theorem all_nodict (hn : ∀ b, nodict (enc b) = true) : (ts.map enc).all nodict = true := by
  rw [List.all_eq_true]
  intro d hd
  obtain ⟨t, _, rfl⟩ := List.mem_map.mp hd
  exact hn t
theorem evn_lstM (ts : List α) (h : EvA X es ds (ts.map enc)) (hn : ∀ b, nodict (enc b) = true) (hl : ts.length ≤ sizeLine) : EvN X (.List es pos) ds (ts.map enc) := evn_lst h (all_nodict hn) (by rw [List.length_map]; exact hl)
/-! dicts -/
abbrev dkv (enc : α → D) (kv : List (List Nat × α)) : List (Str × D) := kv.map fun p => (S p.1, enc p.2)
abbrev dD (enc : α → D) (kv : List (List Nat × α)) : D := mD (dkv enc kv)
def putL (kv : List (List Nat × α)) (z : List Nat) (d : α) : List (List Nat × α) := if kv.any (fun p => decide (p.1 = z)) then kv.map (fun p => if p.1 = z then (p.1, d) else p) else kv ++ [(z, d)]
theorem dD_any (kv : List (List Nat × α)) (z : List Nat) : ((dkv enc kv).any fun p => decide (p.1 = S z)) = kv.any fun p => decide (p.1 = z) := by
  induction kv with
  | nil => rfl
  | cons h r ih =>
    unfold dkv at ih ⊢
    rw [List.map_cons, List.any_cons, List.any_cons, ih]
    congr 1
    exact decide_eq_decide.mpr S_inj
theorem dD_put (kv : List (List Nat × α)) (z : List Nat) (v : α) : putD (dkv enc kv) (S z) (enc v) = dkv enc (putL kv z v) := by
  unfold putD putL
  rw [dD_any]
  split
  · unfold dkv
    rw [List.map_map, List.map_map]
    refine List.map_congr_left fun p _ => ?_
    show (if S p.1 = S z then (S p.1, enc v) else (S p.1, enc p.2)) = (fun q : List Nat × α => (S q.1, enc q.2)) (if p.1 = z then (p.1, v) else p)
    by_cases q : p.1 = z
    · rw [if_pos (by rw [q]), if_pos q]
    · rw [if_neg (fun h => q (S_inj.mp h)), if_neg q]
  · unfold dkv
    rw [List.map_append]
    rfl
theorem dD_lookup (kv : List (List Nat × α)) (z : List Nat) : (dkv enc kv).lookup (S z) = (kv.lookup z).map enc := by
  induction kv with
  | nil => rfl
  | cons h r ih =>
    obtain ⟨k1, v1⟩ := h
    unfold dkv at ih ⊢
    rw [List.map_cons, List.lookup_cons, List.lookup_cons, ih]
    have e : (S z == S k1) = (z == k1) := by
      rw [Bool.eq_iff_iff, beq_iff_eq, beq_iff_eq, S_inj]
    show (match S z == S k1 with | true => some (enc v1) | false => _) = _
    rw [e]
    cases (z == k1) <;> rfl
variable {kv : List (List Nat × α)} {v : α}
theorem ev_dgetM (A : Wh X N sc k) (ha : EvE X a ds (dD enc kv)) (hb : EvE X b ds (sD l)) (h : kv.lookup l = some v) (hs : NoSl b := by exact fun _ _ => rfl) : EvE X (.Subscript a b pos) ds (enc v) := ev_dget A ha hb (by rw [dD_lookup, h]; rfl) hs
theorem ev_dgetMO (A : Wh X N sc k) (m : Nat) (hi : N[m]? = some x) (hv : Vis sc x) (hm : ds[m]? = some (.od (dkv enc kv))) (hb : EvE X b ds (sD l)) (h : kv.lookup l = some v) (hs : NoSl b := by exact fun _ _ => rfl) (hd : (x == ("__debug__" : Str)) = false := by decide) (hcd : (x == ("__classdict__" : Str)) = false := by decide) : EvE X (.Subscript (.Name x p) b pos) ds (enc v) := ev_dgetO A m hi hv hm hb (by rw [dD_lookup, h]; rfl) hs hd hcd
theorem ev_dgetDM {apos : Pos} (v : α) (A : Wh X N sc k) (ha : EvE X a ds (dD enc kv)) (hb : EvE X b ds (sD l)) (hc : EvE X c ds (enc v)) (hn : nodict (enc v) = true) (m : M2 X a "get" apos b c pos) : EvE X (.Call (.Attribute a "get" apos) [b, c] [] pos) ds (enc ((kv.lookup l).getD v)) := (ev_dgetD A ha hb hc hn m).cast (by
  rw [dD_lookup]
  cases kv.lookup l <;> rfl)
theorem run_dputM {i : Expr} (A : WhS X N sc k) (m : Nat) (hi : N[m]? = some x) (hv : Vis sc x) (h : ds[m]? = some (.od (dkv enc kv))) (hk : EvE X i ds (sD l)) (he : EvE X e ds (enc v)) (hn : nodict (enc v) = true) (hl : kv.length < sizeLine) (hd : (x == ("__debug__" : Str)) = false := by decide) (hcd : (x == ("__classdict__" : Str)) = false := by decide)
    {spos : Pos} (hsw : swapsWith e (some (.Subscript (.Name x p) i spos)) pos.line X.env = pure false := by rfl) : Run X W (.Assign [.Subscript (.Name x p) i spos] e pos) ds (.nx (ds.set m (.od (dkv enc (putL kv l v))))) := (run_dput A m hi hv h hk he hn (by rw [List.length_map]; exact hl) hd hcd hsw).cast (by rw [dD_put])
theorem evn_listM (A : Wh X N sc k) (hg : GlS sc "list") (hm : X.mg "list" = none) (h : EvE X e ds (dD enc kv)) (he : starEach (e :: []) X.env = (false, eval e X.env) :: starEach [] X.env := by rfl) : EvN X (.Call (.Name "list" p) [e] [] pos) ds ((kv.map (·.1)).map sD) := (evn_listD A hg hm h he).cast (by
  rw [List.map_map, List.map_map]; rfl)
/-! lists of one's own -/
variable {apos cpos : Pos}
theorem run_appendM {t : α} (A : WhS X N sc k) (m : Nat) (ts : List α) (hi : N[m]? = some x) (hv : Vis sc x) (h : ds[m]? = some (.ow (ts.map enc))) (he : EvE X e ds (enc t)) (hn : nodict (enc t) = true) (hl : ts.length < sizeLine) (hd : (x == ("__debug__" : Str)) = false := by decide) (hcd : (x == ("__classdict__" : Str)) = false := by decide) (hbase : attributeBase (.Name x p) "append" X.env (eval (.Name x p) X.env) = eval (.Name x p) X.env := by rfl) (hfew : ((backTo cpos (starEach (e :: []) X.env)).all (fun x => !x.1) && (backToKw cpos (keywordEach [] X.env)).all (fun x => x.1.isSome) && decide ((e :: []).length + ([] : List Keyword).length + (if ([] : List Keyword).isEmpty then 0 else 1) < 30)) = true := by rfl) (hline : (apos.endLine == cpos.line) = true := by rfl) (hs : starEach (e :: []) X.env = (false, eval e X.env) :: starEach [] X.env := by rfl) (hplain : (backTo cpos (starEach [] X.env)).any (·.1) = false := by rfl)
    (hsw : swapsWith (.Call (.Attribute (.Name x p) "append" apos) [e] [] cpos) none pos.line X.env = pure false := by rfl) :
    Run X W (.Expr (.Call (.Attribute (.Name x p) "append" apos) [e] [] cpos) pos) ds (.nx (ds.set m (.ow ((ts ++ [t]).map enc)))) :=
  (run_append A m hi hv h he hn (by rw [List.length_map]; exact hl) hd hcd hbase hfew hline hs hplain hsw).cast (by rw [List.map_append]; rfl)
theorem evo_none : EvO X none ds none := trivial
theorem evo_some (h : EvE X e ds (.int i)) : EvO X (some e) ds (some i) := h
theorem ev_lenM (A : Wh X N sc k) (hg : GlS sc "len") (hm : X.mg "len" = none) (h : EvE X e ds (.list (ts.map enc))) (he : starEach (e :: []) X.env = (false, eval e X.env) :: starEach [] X.env := by rfl) : EvE X (.Call (.Name "len" p) [e] [] pos) ds (.int ts.length) := (ev_lenL A hg hm h he).cast (by rw [List.length_map])
theorem evn_catM {t2 : List α} (ha : EvC X a ds (ts.map enc)) (hb : EvC X b ds (t2.map enc)) (hl : ts.length + t2.length ≤ sizeLine) : EvN X (.BinOp a .Add b pos) ds ((ts ++ t2).map enc) := (evn_cat ha hb (by rw [List.length_map, List.length_map]; exact hl)).cast (by rw [List.map_append])
theorem run_setIxM {i : Int} {ie : Expr} {v : α} (A : WhS X N sc k) (m : Nat) (ts : List α) (hi : N[m]? = some x) (hv : Vis sc x) (h : ds[m]? = some (.ow (ts.map enc))) (hk : EvE X ie ds (.int i)) (he : EvE X e ds (enc v)) (hn : nodict (enc v) = true) (h0 : 0 ≤ i) (h1 : i < ts.length) (hd : (x == ("__debug__" : Str)) = false := by decide) (hcd : (x == ("__classdict__" : Str)) = false := by decide)
    {spos : Pos} (ha : ∀ v, assign (.Subscript (.Name x p) ie spos) X.env v = (do
      let ov ← holding [v] (eval (.Name x p) X.env)
      let iv ← holding [v, ov] (eval ie X.env)
      standAt spos
      holding [v, ov, iv] (setItem ov iv v)
      release [v, ov, iv] []) := by intro _; rfl)
    (hs : swapsWithSole [.Subscript (.Name x p) ie spos] e pos.line X.env = pure false := by rfl) (hw : swappedStores [.Subscript (.Name x p) ie spos] e X.env = pure none := by rfl)
    (h1' : (assignEach [.Subscript (.Name x p) ie spos] X.env).map (·.2) = [assign (.Subscript (.Name x p) ie spos) X.env] := by rfl) : Run X W (.Assign [.Subscript (.Name x p) ie spos] e pos) ds (.nx (ds.set m (.ow ((ts.set i.toNat v).map enc)))) :=
  (run_setIx (j := i.toNat) A m hi hv h hk he hn (by
    obtain ⟨n, rfl⟩ := Int.eq_ofNat_of_zero_le h0
    rw [Int.toNat_natCast, List.length_map]
    unfold ixN
    rw [if_pos (by omega), if_pos (by omega)]; rfl) hd hcd ha hs hw h1').cast (by rw [List.map_set])
/-! what is of a class -/
theorem k_int_int : kitB "int" "int" = some true := by decide +kernel
theorem k_int_bool : kitB "int" "bool" = some false := by decide +kernel
theorem k_bool_bool : kitB "bool" "bool" = some true := by decide +kernel
theorem k_list_list : kitB "list" "list" = some true := by decide +kernel
theorem k_str_str : kitB "str" "str" = some true := by decide +kernel
theorem k_tuple_tuple : kitB "tuple" "tuple" = some true := by decide +kernel
theorem k_NoneType_tuple : kitB "NoneType" "tuple" = some false := by decide +kernel
/-! a slot forgotten -/
theorem fg_set (ds : Sls) (m : Nat) : Paired FgS ds (ds.set m .no) := by
  induction ds generalizing m with
  | nil => exact .nil
  | cons s r ih =>
    cases m with
    | zero => exact .cons (.no s) ((List.rec .nil (fun s r ih => .cons (.same s) ih) r : Paired FgS r r))
    | succ m => exact .cons (.same s) (ih m)
theorem RunB.clr (m : Nat) {st : List Stmt} {u : Out} (h : RunB X W st (ds.set m .no) u) : RunB X W st ds u := h.forget (fg_set ds m)
theorem Run.clr (m : Nat) {st : Stmt} {u : Out} (h : Run X W st (ds.set m .no) u) : Run X W st ds u := fun F0 H0 F H σ E s q =>
  h F0 H0 F H σ E (s.forget (paired_len (fg_set ds m)) fun i t e => fg_get (fg_set ds m) e) q
/-- on to the slots ds' -/
theorem runB_to (ds' : Sls) {st : Stmt} {rest : List Stmt} {u : Out} (h1 : Run X W st ds (.nx ds')) (h2 : RunB X W rest ds' u) : RunB X W (st :: rest) ds u := runB_cons h1 h2
/-- .. behind -/
theorem RunB.clrO (m : Nat) {st : List Stmt} {ds1 : Sls} (h : RunB X W st ds (.nx ds1)) : RunB X W st ds (.nx (ds1.set m .no)) := fun F0 H0 F H σ E s q =>
  h F0 H0 F H σ E s fun σ' F' H' s' sf => q σ' F' H' (s'.forget (paired_len (fg_set ds1 m)) fun i t e => fg_get (fg_set ds1 m) e) sf
theorem Run.clrO (m : Nat) {st : Stmt} {ds1 : Sls} (h : Run X W st ds (.nx ds1)) : Run X W st ds (.nx (ds1.set m .no)) := fun F0 H0 F H σ E s q =>
  h F0 H0 F H σ E s fun σ' F' H' s' sf => q σ' F' H' (s'.forget (paired_len (fg_set ds1 m)) fun i t e => fg_get (fg_set ds1 m) e) sf
end
/-! data of a kind, told apart and laid out -/
structure Dk {α : Type} [DecidableEq α] (enc : α → D) (n : Nat) (P : α → Prop) : Prop where
  lay : ∀ x, P x → (enc x).canLay0 = true
  dep : ∀ x, (enc x).depth ≤ n
  eqv : ∀ x y, PyData.eqv (enc x) (enc y) = decide (x = y)
def low (l : List Nat) : Prop := ∀ c ∈ l, c < 1114112
theorem dk_int : Dk iD 0 fun _ => True := ⟨fun x _ => by simp [PyData.canLay0], fun x => by simp [PyData.depth], fun x y => by
  simp only [PyData.eqv]
  exact Bool.beq_eq_decide_eq x y⟩
theorem dk_str : Dk sD 0 low := ⟨fun x h => by
  simp only [PyData.canLay0]
  show PyData.strOk (S x) = true
  unfold PyData.strOk
  simp only [Array.all_eq_true_iff_forall_mem, List.mem_toArray]
  intro c hc
  have := h c hc
  simpa using this, fun x => by simp [PyData.depth], fun x y => by
  simp only [PyData.eqv]
  rw [Bool.beq_eq_decide_eq]
  exact decide_eq_decide.mpr S_inj⟩
theorem dk_pair : Dk pD 1 fun _ => True := ⟨fun x _ => by simp [PyData.canLay0, PyData.canLayAll0], fun x => by simp [PyData.depth, PyData.depthAll], fun x y => by
  simp only [PyData.eqv, PyData.eqvAll, Bool.and_true]
  rw [Bool.beq_eq_decide_eq, Bool.beq_eq_decide_eq, ← Bool.decide_and]
  exact decide_eq_decide.mpr (Prod.ext_iff.symm)⟩
theorem dk_lays {α : Type} [DecidableEq α] {enc : α → D} {n : Nat} {P : α → Prop} (h : Dk enc n P) : ∀ xs : List α, (∀ x ∈ xs, P x) → PyData.canLayAll0 (xs.map enc) = true
  | [], _ => rfl
  | x :: xs, q => by
    rw [List.map_cons, PyData.canLayAll0, h.lay x (q x List.mem_cons_self), dk_lays h xs fun y m => q y (List.mem_cons_of_mem _ m)]; rfl
theorem dk_deps {α : Type} [DecidableEq α] {enc : α → D} {n : Nat} {P : α → Prop} (h : Dk enc n P) : ∀ xs : List α, PyData.depthAll (xs.map enc) ≤ n
  | [] => Nat.zero_le _
  | x :: xs => by
    rw [List.map_cons, PyData.depthAll]
    exact Nat.max_le.mpr ⟨h.dep x, dk_deps h xs⟩
theorem dk_eqvs {α : Type} [DecidableEq α] {enc : α → D} {n : Nat} {P : α → Prop} (h : Dk enc n P) : ∀ xs ys : List α, PyData.eqvAll (xs.map enc) (ys.map enc) = decide (xs = ys)
  | [], [] => by simp only [List.map_nil, PyData.eqvAll, decide_true]
  | [], _ :: _ => by simp [PyData.eqvAll]
  | _ :: _, [] => by simp [PyData.eqvAll]
  | x :: xs, y :: ys => by
    rw [List.map_cons, List.map_cons, PyData.eqvAll, h.eqv x y, dk_eqvs h xs ys, ← Bool.decide_and]
    exact decide_eq_decide.mpr (by rw [List.cons.injEq])
theorem dk_list {α : Type} [DecidableEq α] {enc : α → D} {n : Nat} {P : α → Prop} (h : Dk enc n P) : Dk (fun xs : List α => PyData.list (xs.map enc)) (n + 1) fun xs => ∀ x ∈ xs, P x :=
  ⟨fun xs q => by rw [PyData.canLay0]; exact dk_lays h xs q, fun xs => by rw [PyData.depth]; have := dk_deps h xs; omega, fun xs ys => by rw [PyData.eqv]; exact dk_eqvs h xs ys⟩
theorem Dk.shp {α : Type} [DecidableEq α] {enc : α → D} {n : Nat} {P : α → Prop} (h : Dk enc n P) (hn : n ≤ 64) {x : α} (p : P x) : SeqAt.shaped (enc x) = true := by
  unfold SeqAt.shaped
  rw [h.lay x p, decide_eq_true (Nat.le_trans (h.dep x) hn)]; rfl
theorem shp_nums (ns : List Int) : SeqAt.shaped (nums ns) = true := (dk_list dk_int).shp (by decide) (fun _ _ => trivial)
theorem shp_txts {ls : List (List Nat)} (h : ∀ l ∈ ls, low l) : SeqAt.shaped (txts ls) = true := (dk_list dk_str).shp (by decide) h
theorem shp_pair (p : Int × Int) : SeqAt.shaped (pD p) = true := dk_pair.shp (by decide) trivial
theorem shp_pairs (p : List (Int × Int)) : SeqAt.shaped (psD p) = true := (dk_list dk_pair).shp (by decide) (fun _ _ => trivial)
theorem eqv_nums (a b : List Int) : PyData.eqv (nums a) (nums b) = decide (a = b) := (dk_list dk_int).eqv a b
theorem eqv_txts (a b : List (List Nat)) : PyData.eqv (txts a) (txts b) = decide (a = b) := (dk_list dk_str).eqv a b
theorem eqv_pair (a b : Int × Int) : PyData.eqv (pD a) (pD b) = decide (a = b) := dk_pair.eqv a b
theorem eqv_pairs (a b : List (Int × Int)) : PyData.eqv (psD a) (psD b) = decide (a = b) := (dk_list dk_pair).eqv a b
/-- a race: a die and words -/
abbrev raceD (a : List Int) (ws : List (List Nat)) : D := .list [nums a, txts ws]
theorem shp_race {a : List Int} {ws : List (List Nat)} (h : ∀ l ∈ ws, low l) : SeqAt.shaped (raceD a ws) = true := by
  unfold SeqAt.shaped
  have h1 := (dk_list dk_int).lay a fun _ _ => trivial
  have h2 := (dk_list dk_str).lay ws h
  have d1 := (dk_list dk_int).dep a
  have d2 := (dk_list dk_str).dep ws
  rw [Bool.and_eq_true, decide_eq_true_eq]
  refine ⟨?_, ?_⟩
  · simp only [PyData.canLay0, PyData.canLayAll0] at h1 h2 ⊢
    rw [h1, h2]; rfl
  · simp only [PyData.depth, PyData.depthAll] at d1 d2 ⊢
    omega
theorem eqv_race (a b : List Int) (ws vs : List (List Nat)) : PyData.eqv (raceD a ws) (raceD b vs) = (decide (a = b) && decide (ws = vs)) := by
  rw [PyData.eqv, PyData.eqvAll, PyData.eqvAll, PyData.eqvAll, eqv_nums, eqv_txts, Bool.and_true]
/-- nothing, or a pair -/
abbrev optD : Option (Int × Int) → D
  | none => .none
  | some p => pD p
/-! a def's parts -/
def bodyOf : Stmt → List Stmt
  | .If _ b _ _ => b
  | .While _ b _ _ => b
  | .For _ _ b _ _ => b
  | _ => []
def elseOf : Stmt → List Stmt
  | .If _ _ b _ => b
  | _ => []
def testOf : Stmt → Expr
  | .If c _ _ _ => c
  | .While c _ _ _ => c
  | _ => .Constant .none 0 ⟨0, 0, 0, 0⟩
def stAt (b : List Stmt) (i : Nat) : Stmt := b.getD i (.Pass ⟨0, 0, 0, 0⟩)
end Vs

namespace Vs
open PySem PySem.Spec L2

theorem idxOf_leG {α : Type} [BEq α] [LawfulBEq α] : ∀ {a : List α} {i : Nat} {c : α}, a[i]? = some c → a.idxOf c ≤ i
  | [], _, _, h => by simp at h
  | b :: a, 0, c, h => by
    have e : b = c := Option.some.inj h
    rw [List.idxOf_cons, e]
    simp
  | b :: a, i + 1, c, h => by
    have ih := idxOf_leG (a := a) (i := i) (c := c) h
    rw [List.idxOf_cons]
    cases (b == c) with
    | true => exact Nat.zero_le _
    | false => exact Nat.succ_le_succ ih
theorem sw_par {y1 y2 : Str} {p1 p2 pt pt2 : Pos} {kt k2 : Nat} {a b : Expr} {env : Env} (hk : env.scope.kind = .function) (h1 : env.scope.names.lookup y1 = some .local) (h2 : env.scope.names.lookup y2 = some .local)
    (hst : ([a, b].any fun | .Starred .. => true | _ => false) = false := by rfl) (hln : (p2.line == p1.line) = true := by rfl) (hne : (y1 == y2) = false := by decide +kernel) (hf : [a, b].all (foldedForSure 8) = false := by rfl) (hca : [a, b].all (constantsAlone 8) = false := by rfl) :
    swappedStores [.Tuple [.Name y1 p1, .Name y2 p2] kt pt] (.Tuple [a, b] k2 pt2) env = pure (some [y1, y2]) := by
  have hb : env.blockKind = .function := by unfold Env.blockKind; rw [hk]; rfl
  have k1 : env.kindOf y1 = some .local := h1
  have k2' : env.kindOf y2 = some .local := h2
  have hl1 : (p1.line == p1.line) = true := by simp
  have hd : [y1, y2].eraseDups = [y1, y2] := by
    have : (y2 == y1) = false := by
      rw [Bool.eq_false_iff] at hne ⊢
      intro h
      exact hne (by rw [beq_iff_eq] at h ⊢; exact h.symm)
    simp [List.eraseDups_cons, this]
  simp only [List.any_cons, List.any_nil, Bool.or_false, Bool.or_eq_false_iff] at hst
  obtain ⟨hsa, hsb⟩ := hst
  have hln' : p2.line = p1.line := beq_iff_eq.mp hln
  simp only [List.all_cons, List.all_nil, Bool.and_true] at hf hca
  unfold swappedStores
  simp [hb, k1, k2', hln', hd, hsa, hsb, List.filterMap_cons, Expr.pos]
  have nf : ¬ (foldedForSure 8 a = true ∧ foldedForSure 8 b = true) := fun h => by rw [h.1, h.2] at hf; cases hf
  have nc : ¬ (constantsAlone 8 a = true ∧ constantsAlone 8 b = true) := fun h => by rw [h.1, h.2] at hca; cases hca
  rw [if_neg nf, if_neg nc]
  exact if_neg fun h => h.elim (fun h => Bool.noConfusion (hsa.symm.trans h)) fun h => Bool.noConfusion (hsb.symm.trans h)
theorem sw_cell {elt : Expr} {gs : List Comprehension} {scope : Scope} {pos py : Pos} {y : Str} {l : Nat} {env : Env} (hy : env.scope.names.lookup y = some .cell) : swapsWith (.ListComp elt gs scope pos) (some (.Name y py)) l env = pure false := by
  have ky : env.kindOf y = some .cell := hy
  have e : (some NameKind.cell == some NameKind.local) = false := rfl
  unfold swapsWith
  simp only [ky, e, Bool.and_false, Bool.false_and]
/-! ### sorted, of data -/
section
variable {β : Type} {R : V → β → Prop}
abbrev EachV (R : V → β → Prop) : List Value → List β → Prop := PySem.W.EachIs fun u b => ∃ w, RelV w u ∧ R w b
theorem vals_each : ∀ {bs : List β} {ws : List V} {us : List Value}, Vals ws us → Paired R ws bs → EachV R us bs
  | [], _, _, r, h => by cases h; cases r; exact .nil
  | b :: bs, _, _, r, h => by
    cases h with
    | cons h1 h2 => cases r with
      | cons r1 r2 => exact .cons ⟨_, r1, h1⟩ (vals_each r2 h2)
theorem each_vals : ∀ {bs : List β} {us : List Value}, EachV R us bs → ∃ ws, Vals ws us ∧ Paired R ws bs
  | _, _, .nil => ⟨[], .nil, .nil⟩
  | _, _, .cons ⟨w, r, h⟩ t => by
    obtain ⟨ws, q1, q2⟩ := each_vals t
    exact ⟨w :: ws, .cons r q1, .cons h q2⟩
theorem each_reads {X : Cx} {pins : List (Addr × Obj)} {σ : St} {H : Hp} {s : Shared} {enc : β → D} (I : Inv X pins σ H s) (hR : ∀ w b, R w b → Dp X.K H w (enc b)) : ∀ {bs : List β} {us : List Value}, EachV R us bs → PySem.W.EachIs (fun u b => ∃ as, Reads s.heap u (enc b) as) us bs
  | _, _, .nil => .nil
  | _, _, .cons ⟨w, r, h⟩ t => .cons (Dp.reads I _ w _ (hR w _ h) r) (each_reads I hR t)
theorem pair_len {γ δ : Type} {R : γ → δ → Prop} : ∀ {l : List γ} {l' : List δ}, Paired R l l' → l.length = l'.length
  | _, _, .nil => rfl
  | _, _, .cons _ r => congrArg (· + 1) (pair_len r)
theorem dpAll_pair {K : PySem.W.Frag} {H : Hp} {enc : β → D} : ∀ {bs : List β} {ws : List V}, DpAll K H ws (bs.map enc) → Paired (fun w b => Dp K H w (enc b)) ws bs
  | [], _, h => by cases h; exact .nil
  | b :: bs, _, h => by
    cases h with
    | cons h1 h2 => exact .cons h1 (dpAll_pair h2)
theorem pair_dpAll {K : PySem.W.Frag} {H : Hp} {enc : β → D} : ∀ {bs : List β} {ws : List V}, Paired (fun w b => Dp K H w (enc b)) ws bs → DpAll K H ws (bs.map enc)
  | _, _, .nil => .nil
  | _, _, .cons h r => .cons h (pair_dpAll r)
end
structure SortOk {β : Type} (enc : β → D) : Prop where
  ali : ∀ b b', PySem.W.alike (enc b) (enc b') = true
  srt : (∀ b, ∃ x r, enc b = .tuple (x :: r)) ∨ (∀ b, enc b ≠ .none ∧ ∀ xs, enc b ≠ .tuple xs)
  dep : ∀ b, (enc b).depth ≤ 8
def rSortD (K : PySem.W.Frag) {β : Type} (enc : β → D) : List V → Hp → VK → Prop := fun vs H Q => ∃ (a : Addr) (ws : List V) (bs : List β) (R : V → β → Prop), vs = [V.ref a] ∧ SqL K H a ws ∧ Paired R ws bs ∧ (∀ w b, R w b → Dp K H w (enc b)) ∧ bs.length ≤ sizeLine ∧
  ∀ (ws' : List V) (p : Addr), Paired R ws' (bs.mergeSort (PySem.W.dataLe false enc)) → H p = none → Q (.ref p) (upd H p (.lst ws'))
theorem cr_sortD {X : Cx} {β : Type} {enc : β → D} (hu : X.A.units + 64 < cLine) (o : SortOk enc) : CallR X (.builtin "sorted") (rSortD X.K enc) := by
  intro pins s σ H vs us Q I r h
  obtain ⟨a, ws, bs, R, rfl, hs, dp, hR, hl, q⟩ := h
  obtain ⟨its, rv, hL, _⟩ := I.list hs
  rw [Vals.ref1 r]
  have e := vals_each rv dp
  refine PySem.W.sorted_data (vs := its) (bs := bs) (enc := enc) hL.isList e (each_reads I hR e) (.of o.ali) (o.srt.elim .tuples .others) hl (fun b _ => by have := o.dep b; omega) fun out h1 h2 => ?_
  obtain ⟨ep, he'⟩ := PyProof.Rows.sortedAll_at s.heap its out.toArray
  obtain ⟨ws', v1, v2⟩ := each_vals h2
  have hlen : ws'.length ≤ sizeLine := by rw [pair_len v2, List.length_mergeSort]; exact hl
  exact ⟨.ref _, upd H (s.heap.objs.size + 1) (.lst ws'), I.laid (t' := s.toks) (fun _ _ => PyProof.Rows.sortedAll_old) (Nat.le_succ _) ⟨hlen, out, ep, v1, he'⟩, rfl, q ws' _ v2 (I.hok.fresh (Nat.le_succ _))⟩
/-- a count and a text -/
abbrev tD (p : Int × List Nat) : D := .tuple [iD p.1, sD p.2]
def leT (p q : Int × List Nat) : Bool := decide (p.1 < q.1 ∨ (p.1 = q.1 ∧ p.2 ≤ q.2))
theorem sortOk_t : SortOk tD := ⟨fun b b' => by simp [PySem.W.alike, PySem.W.alikeAll], .inl fun b => ⟨_, _, rfl⟩, fun b => by simp [PyData.depth, PyData.depthAll]⟩
theorem sortOk_s : SortOk sD := ⟨fun b b' => by simp [PySem.W.alike], .inr fun b => ⟨(fun h => nomatch h), fun _ h => nomatch h⟩, fun b => by simp [PyData.depth]⟩
theorem dataLe_s : PySem.W.dataLe false sD = fun a b : List Nat => decide (a ≤ b) := PySem.W.dataLe_str S
theorem dataLe_t : PySem.W.dataLe false tD = leT := by
  rw [PySem.W.dataLe_eq]
  funext p q
  show (!PySem.W.dataLt (.tuple [.int q.1, .str (S q.2)]) (.tuple [.int p.1, .str (S p.2)])) = leT p q
  rw [PySem.W.dataLt_pair (by simp [PySem.W.alike]) (by simp [PySem.W.alike])]
  rw [dk_int.eqv, dk_str.eqv]
  have hi : PySem.W.dataLt (iD q.1) (iD p.1) = decide (q.1 < p.1) := PySem.W.dataLt_int q.1 p.1
  have hs : PySem.W.dataLt (sD q.2) (sD p.2) = decide (q.2 < p.2) := PySem.W.dataLt_str (S q.2) (S p.2)
  show (!(if decide (q.1 = p.1) = true then (if decide (q.2 = p.2) = true then false else PySem.W.dataLt (sD q.2) (sD p.2)) else PySem.W.dataLt (iD q.1) (iD p.1))) = leT p q
  rw [hi, hs]
  unfold leT
  by_cases h1 : q.1 = p.1
  · by_cases h2 : q.2 = p.2
    · simp only [h1, h2, decide_true, if_true, Bool.not_false]
      exact (decide_eq_true (.inr ⟨trivial, List.le_refl _⟩)).symm
    · simp only [h1, h2, decide_true, decide_false, if_true]
      by_cases h3 : q.2 < p.2
      · simp only [h3, decide_true]
        exact (decide_eq_false (fun h => h.elim (by omega) fun h => List.not_lt.mpr h.2 h3)).symm
      · simp only [h3, decide_false]
        exact (decide_eq_true (.inr ⟨trivial, List.not_lt.mp h3⟩)).symm
  · simp only [h1, decide_false]
    by_cases h3 : q.1 < p.1
    · simp only [h3, decide_true]
      exact (decide_eq_false (fun h => h.elim (by omega) fun h => h1 h.1.symm)).symm
    · simp only [h3, decide_false]
      exact (decide_eq_true (.inl (by omega))).symm
section
variable {X : Cx} {W : WX} {N : List Str} {sc : Scope} {k : Nat} {ds : Sls} {d d1 d2 d3 : D} {as xs ys : List D} {e a b c o : Expr} {es : List Expr} {pos p : Pos} {x : Str} {i j : Int} {l l1 l2 : List Nat} {ls : List (List Nat)}
theorem evn_sortD {β : Type} {enc : β → D} {bs : List β} (so : SortOk enc) (A : Wh X N sc k) (hg : GlS sc "sorted") (hm : X.mg "sorted" = none) (h : EvE X e ds (.list (bs.map enc))) (hl : bs.length ≤ sizeLine) (he : starEach (e :: []) X.env = (false, eval e X.env) :: starEach [] X.env := by rfl) : EvN X (.Call (.Name "sorted" p) [e] [] pos) ds ((bs.mergeSort (PySem.W.dataLe false enc)).map enc) :=
  evn_callB A (cr_sortD A.u64 so) hg hm (by decide +kernel) (eva_cons h eva_nil he) (fun vs F H Q s r q => by
    obtain ⟨v, rfl, r1⟩ := rpAll1 r
    obtain ⟨a, ws, rfl, h1, h2⟩ := rp_lst.mp r1
    exact ⟨a, ws, bs, _, rfl, s.seq h1, dpAll_pair h2, fun w b h => dp_mono s h, hl, fun ws' p dp hp => q p ws' F _ (.newO s hp) hp (s.free hp) upd_same (pair_dpAll dp)⟩) (by decide) (by decide) he
theorem evn_sortedS (A : Wh X N sc k) (hg : GlS sc "sorted") (hm : X.mg "sorted" = none) (h : EvE X e ds (txts ls)) (hl : ls.length ≤ sizeLine) (he : starEach (e :: []) X.env = (false, eval e X.env) :: starEach [] X.env := by rfl) : EvN X (.Call (.Name "sorted" p) [e] [] pos) ds ((ls.mergeSort fun a b => decide (a ≤ b)).map sD) := (evn_sortD sortOk_s A hg hm h hl he).cast (by rw [dataLe_s])
theorem evn_sortedP {bs : List (Int × List Nat)} (A : Wh X N sc k) (hg : GlS sc "sorted") (hm : X.mg "sorted" = none) (h : EvE X e ds (.list (bs.map tD))) (hl : bs.length ≤ sizeLine) (he : starEach (e :: []) X.env = (false, eval e X.env) :: starEach [] X.env := by rfl) : EvN X (.Call (.Name "sorted" p) [e] [] pos) ds ((bs.mergeSort leT).map tD) := (evn_sortD sortOk_t A hg hm h hl he).cast (by rw [dataLe_t])
theorem ev_tpair {n : Nat} (ha : EvE X a ds (.int i)) (hb : EvE X b ds (sD l)) (he : starEach (a :: [b]) X.env = (false, eval a X.env) :: starEach [b] X.env := by rfl) (he2 : starEach (b :: []) X.env = (false, eval b X.env) :: starEach [] X.env := by rfl) : EvE X (.Tuple [a, b] n pos) ds (tD (i, l)) :=
  ev_tup (eva_cons ha (eva_cons hb eva_nil he2) he) rfl (by show 2 ≤ sizeLine; rw [sizeLine_eq]; decide)
theorem ev_tsnd {q : Int × List Nat} (ha : EvE X a ds (tD q)) (hb : EvE X b ds (.int 1)) (hs : PlainIx b := by exact fun _ _ => rfl) : EvE X (.Subscript a b pos) ds (sD q.2) := ev_ixT ha hb (atI_n (k := 1) rfl) hs
/-! ### a text's parts put together -/
def joinT (l : List Nat) (ls : List (List Nat)) : List Nat := (Txt.join (S l) (ls.map S)).cps.toList
variable {apos cpos : Pos}
theorem ev_join (ho : EvE X o ds (sD l)) (ha : EvE X a ds (txts ls)) (hz : (ls.map (·.length)).sum + ls.length * l.length ≤ 16777216) (hbase : attributeBase o "join" X.env (eval o X.env) = eval o X.env := by rfl) (hfew : ((backTo cpos (starEach (a :: []) X.env)).all (fun x => !x.1) && (backToKw cpos (keywordEach [] X.env)).all (fun x => x.1.isSome) && decide ((a :: []).length + ([] : List Keyword).length + (if ([] : List Keyword).isEmpty then 0 else 1) < 30)) = true := by rfl) (hline : (apos.endLine == cpos.line) = true := by rfl) (hs : starEach (a :: []) X.env = (false, eval a X.env) :: starEach [] X.env := by rfl) (hplain : (backTo cpos (starEach [] X.env)).any (·.1) = false := by rfl) :
    EvE X (.Call (.Attribute o "join" apos) [a] [] cpos) ds (sD (joinT l ls)) :=
  ev_bm PySem.F.plainAttrs_str PySem.F.slot_str_join PySem.F.type_str_join mt_join ho rfl (eva_cons ha eva_nil hs) (fun v0 vs F H Q s r0 r q => by
    obtain ⟨v, rfl, r1⟩ := rpAll1 r
    obtain ⟨p, ws, rfl, h1, h2⟩ := rp_lst.mp r1
    have := dpAll_S h2
    subst this
    refine ⟨S l, p, ls.map S, rp_str.mp r0, rfl, .inl ?_, ?_, q _ F H (.refl s) (.str _)⟩
    · rw [List.map_map]; exact s.seq h1
    · rw [List.map_map, List.length_map]; exact hz) hbase hfew hline hs hplain
/-! ### min of a list, an item's place -/
def minL (ns : List Int) : Int := ns.min?.getD 0
theorem minL_of {ns : List Int} {m : Int} (h1 : m ∈ ns) (h2 : ∀ y, y ∈ ns → m ≤ y) : m = minL ns := by
  unfold minL
  rw [List.min?_eq_some_iff.mpr ⟨h1, h2⟩]; rfl
theorem ev_minL {ns : List Int} (A : Wh X N sc k) (hg : GlS sc "min") (hm : X.mg "min" = none) (h : EvE X e ds (nums ns)) (hn : 0 < ns.length) (he : starEach (e :: []) X.env = (false, eval e X.env) :: starEach [] X.env := by rfl) : EvE X (.Call (.Name "min" p) [e] [] pos) ds (iD (minL ns)) :=
  ev_callB A (cr_min A.calm) hg hm (by decide +kernel) (eva_cons h eva_nil he) (fun vs F H Q s r q => by
    obtain ⟨v, rfl, r1⟩ := rpAll1 r
    obtain ⟨a, ws, rfl, h1, h2⟩ := rp_lst.mp r1
    have e := dpAll_ints h2
    subst e
    exact ⟨a, ns, rfl, s.seq h1, hn, fun m m1 m2 => by rw [minL_of m1 m2]; exact q _ F H (.refl s) (.int _)⟩) (by decide) (by decide) he
theorem ev_lindex (ho : EvE X o ds (txts ls)) (ha : EvE X a ds (sD l)) (hc : l ∈ ls) (hbase : attributeBase o "index" X.env (eval o X.env) = eval o X.env := by rfl) (hfew : ((backTo cpos (starEach (a :: []) X.env)).all (fun x => !x.1) && (backToKw cpos (keywordEach [] X.env)).all (fun x => x.1.isSome) && decide ((a :: []).length + ([] : List Keyword).length + (if ([] : List Keyword).isEmpty then 0 else 1) < 30)) = true := by rfl) (hline : (apos.endLine == cpos.line) = true := by rfl) (hs : starEach (a :: []) X.env = (false, eval a X.env) :: starEach [] X.env := by rfl) (hplain : (backTo cpos (starEach [] X.env)).any (·.1) = false := by rfl) :
    EvE X (.Call (.Attribute o "index" apos) [a] [] cpos) ds (iD (ls.idxOf l : Nat)) :=
  ev_bm PySem.F.plainAttrs_list PySem.F.slot_list_index PySem.F.type_list_index mt_index ho rfl (eva_cons ha eva_nil hs) (fun v0 vs F H Q s r0 r q => by
    obtain ⟨v, rfl, r1⟩ := rpAll1 r
    obtain ⟨p, ws, rfl, h1, h2⟩ := rp_lst.mp r0
    have e := dpAll_S h2
    subst e
    rw [rp_str.mp r1]
    have hl : ls.idxOf l < ls.length := List.idxOf_lt_length_iff.mpr hc
    have eqS : ∀ m : List Nat, eqV (.str (S m)) (.str (S l)) = decide (m = l) := fun m => by
      show (S m == S l) = decide (m = l)
      rw [Bool.eq_iff_iff, beq_iff_eq, decide_eq_true_eq, S_inj]
    refine ⟨p, _, .str (S l), ls.idxOf l, .str (S l), rfl, rfl, s.seq h1, rfl, flat_strs ls, ?_, ?_, fun m z' hm hz => ?_, q _ F H (.refl s) (.int _)⟩
    · rw [List.getElem?_map, List.getElem?_eq_getElem hl, List.getElem_idxOf hl]; rfl
    · rw [eqS]; exact decide_eq_true rfl
    · rw [List.getElem?_map] at hz
      have hm' : m < ls.length := by omega
      rw [List.getElem?_eq_getElem hm'] at hz
      have hz := (Option.some.inj hz).symm
      subst hz
      rw [eqS]
      refine decide_eq_false fun e => ?_
      have := idxOf_leG (a := ls) (i := m) (c := l) (by rw [List.getElem?_eq_getElem hm', e])
      omega) hbase hfew hline hs hplain
/-! ### a dict of one text -/
theorem evm_disp1 (hk : EvE X a ds (.str x)) (hv : EvE X b ds d) (hn : nodict d = true) : EvM X (.Dict [some a] [b] pos) ds [(x, d)] := fun F0 H0 F H σ s Q q =>
  toE (pe_disp (pps_cons wpE_pe wpE_pe pps_nil) rfl rfl (by simp) (by show 1 ≤ 15; decide)) fun p hp => by
    have x0 : Ext F H F (upd H p (.dK [])) := .newO s.fh hp
    refine hk F0 H0 F _ σ (s.to x0) _ fun v1 F1 H1 x1 r1 => hv F0 H0 F1 H1 σ ((s.to x0).to x1) _ fun v2 F2 H2 x2 r2 => ?_
    have e2 : H2 p = some (.dK []) := x2.h _ _ (x1.h _ _ upd_same)
    have f1 : F1 p = none := x1.own p (s.fh.free hp) (by rw [upd_same]; exact fun z => nomatch z)
    have f2 : F2 p = none := x2.own p f1 (by rw [x1.h _ _ upd_same]; exact fun z => nomatch z)
    refine ⟨e2, [(Sum.inr x, v2)], by rw [rp_str.mp r1]; rfl, by show 1 ≤ 15; decide, ?_⟩
    have x3 : Ext F H F2 H2 := x0.trans (x1.trans x2)
    refine q p _ F2 _ ⟨x3.f, fun b o z => ?_, fun b o z => ?_, x3.own⟩ hp f2 upd_same (.cons ⟨rfl, rp_dp r2 hn⟩ .nil)
    · rw [upd_ne (fun w => by rw [w, hp] at z; cases z)]; exact x3.h _ _ z
    · rw [upd_ne (fun w => by rw [w, f2] at z; cases z)]; exact x3.fh _ _ z
theorem evm_disp1M {α : Type} {enc : α → D} {v : α} (hk : EvE X a ds (sD l)) (hv : EvE X b ds (enc v)) (hn : nodict (enc v) = true) : EvM X (.Dict [some a] [b] pos) ds (dkv enc [(l, v)]) := evm_disp1 hk hv hn
end
end Vs

/-! Texts cut in parts; a try that is never needed; a pair of two new lists. -/
namespace Vs
open PySem PySem.Spec L2
section
variable {X : Cx} {W : WX} {N ps : List Str} {sc : Scope} {k kf : Nat} {ds : Sls} {d : D} {as xs ys : List D} {e a b o : Expr} {es : List Expr} {pos p apos cpos : Pos} {x y : Str} {S' : List D → Out → Prop} {l m : List Nat} {u : Out}
/-! ### parts -/
def partL (m l : List Nat) : List Nat × List Nat × List Nat := match TL.par m [] l with
  | some (a, b) => (a, m, b)
  | none => (l, [], [])
abbrev tsD3 (q : List Nat × List Nat × List Nat) : D := .tuple [sD q.1, sD q.2.1, sD q.2.2]
theorem part_S (hm : m ≠ []) : Txt.partition (S l) (S m) = (S (partL m l).1, S (partL m l).2.1, S (partL m l).2.2) := by
  unfold partL
  cases h : TL.par m [] l with
  | some q =>
    obtain ⟨a, b⟩ := q
    exact SX.partition_some hm h
  | none => exact SX.partition_none hm h
theorem ev_partition (ho : EvE X o ds (sD l)) (ha : EvE X a ds (sD m)) (hm : m ≠ []) (hl : l.length ≤ sizeLine) (hbase : attributeBase o "partition" X.env (eval o X.env) = eval o X.env := by rfl) (hfew : ((backTo cpos (starEach (a :: []) X.env)).all (fun x => !x.1) && (backToKw cpos (keywordEach [] X.env)).all (fun x => x.1.isSome) && decide ((a :: []).length + ([] : List Keyword).length + (if ([] : List Keyword).isEmpty then 0 else 1) < 30)) = true := by rfl)
    (hline : (apos.endLine == cpos.line) = true := by rfl) (hs : starEach (a :: []) X.env = (false, eval a X.env) :: starEach [] X.env := by rfl) (hplain : (backTo cpos (starEach [] X.env)).any (·.1) = false := by rfl) :
    EvE X (.Call (.Attribute o "partition" apos) [a] [] cpos) ds (tsD3 (partL m l)) :=
  ev_bm PySem.F.plainAttrs_str PySem.F.slot_str_partition PySem.F.type_str_partition mt_partition ho rfl (eva_cons ha eva_nil hs) (fun v0 vs F H Q s r0 r q => by
    obtain ⟨v, rfl, r1⟩ := rpAll1 r
    refine ⟨S l, S m, rp_str.mp r0, by rw [rp_str.mp r1], ?_, hl, fun p hp => ?_⟩
    · cases m with
      | nil => exact absurd rfl hm
      | cons c r => rfl
    · rw [part_S hm]
      exact q (.ref p) _ _ (.new s hp) (rp_tup.mpr ⟨p, _, rfl, .inl (.inl upd_same), .cons (.str _) (.cons (.str _) (.cons (.str _) .nil))⟩)) hbase hfew hline hs hplain
def splitL (m l : List Nat) : List (List Nat) := TL.spl m 0 [] l
theorem evn_split (ho : EvE X o ds (sD l)) (ha : EvE X a ds (sD m)) (hm : m ≠ []) (hk : m.all (· < 256) = true) (hl : l.length + 2 ≤ sizeLine) (hbase : attributeBase o "split" X.env (eval o X.env) = eval o X.env := by rfl) (hfew : ((backTo cpos (starEach (a :: []) X.env)).all (fun x => !x.1) && (backToKw cpos (keywordEach [] X.env)).all (fun x => x.1.isSome) && decide ((a :: []).length + ([] : List Keyword).length + (if ([] : List Keyword).isEmpty then 0 else 1) < 30)) = true := by rfl)
    (hline : (apos.endLine == cpos.line) = true := by rfl) (hs : starEach (a :: []) X.env = (false, eval a X.env) :: starEach [] X.env := by rfl) (hplain : (backTo cpos (starEach [] X.env)).any (·.1) = false := by rfl) :
    EvN X (.Call (.Attribute o "split" apos) [a] [] cpos) ds ((splitL m l).map sD) :=
  evn_bm PySem.F.plainAttrs_str PySem.F.slot_str_split PySem.F.type_str_split mt_split ho rfl (eva_cons ha eva_nil hs) (fun v0 vs F H Q s r0 r q => by
    obtain ⟨v, rfl, r1⟩ := rpAll1 r
    refine ⟨S l, S m, rp_str.mp r0, by rw [rp_str.mp r1], ?_, hl, fun p hp => ?_⟩
    · cases m with
      | nil => exact absurd rfl hm
      | cons c r => rfl
    · rw [SX.split_S hm hk]
      have dp : DpAll X.K F (((TL.spl m 0 [] l).map S).map V.str) ((splitL m l).map sD) := by
        have := strs_dpAll (K := X.K) (H := F) ((TL.spl m 0 [] l).map S)
        rw [List.map_map (g := PyData.str)] at this
        exact this
      exact q p _ F _ (.newO s hp) hp (s.free hp) upd_same dp) hbase hfew hline hs hplain
/-! ### a try whose body raises nothing -/
theorem run_try0 {h₀ : ExceptHandler} {hs : List ExceptHandler} {body : List Stmt} (A : WhS X N sc k) (hb : WhS X.nox N sc k → RunB X.nox W body ds u) : Run X W (.Try body (h₀ :: hs) [] [] pos) ds u := fun F0 H0 F H σ E s q =>
  toS (ps_try_thru0 (wpB_pss (X := X.nox))) (hb ⟨⟨⟨A.hN, A.nd, A.hsc, A.kind⟩, A.calm, A.room⟩, .never, A.fn, A.stk, A.frm⟩ F0 H0 F H σ E s q)
/-! ### a pair of two new lists -/
def EvR2 (X : Cx) (e : Expr) (ds : Sls) (xs ys : List D) : Prop := ∀ (F0 H0 F H : Hp) (σ : St), StR X.K F0 H0 F H σ ds → ∀ Q : VK, (∀ p q1 q2 vs ws F' H', Ext F H F' H' → P2 X.K H F' H' p q1 q2 vs ws xs ys → Q (.ref p) H') → wpE X e σ H Q
theorem P2.up {K : PySem.W.Frag} {H F' H' H0 : Hp} {p q1 q2 : Addr} {vs ws : List V} (h : P2 K H F' H' p q1 q2 vs ws xs ys) (s : Same H0 H) : P2 K H0 F' H' p q1 q2 vs ws xs ys :=
  ⟨s.free h.n0, h.f0, h.h0, s.free h.n1, h.f1, h.h1, s.free h.n2, h.f2, h.h2, h.ne, h.d1, h.d2⟩
theorem evr2_call (A : Wh X N sc k) (G : FnX X kf x ps S') (hk : kf ≤ k) (hg : GlS sc x) (ha : EvA X (e :: es) ds as) (hs : S' as (.r2 xs ys)) (hdb : (x == ("__debug__" : Str)) = false := by decide) (he : starEach (e :: es) X.env = (false, eval e X.env) :: starEach es X.env := by rfl) (hpl : (backTo pos (starEach es X.env)).any (·.1) = false := by rfl) :
    EvR2 X (.Call (.Name x p) (e :: es) [] pos) ds xs ys := fun F0 H0 F H σ s Q q => call_run A G hk hg ha hs hdb he hpl s fun F' H' x p q1 q2 vs ws F2 H2 x2 h => q p q1 q2 vs ws F2 H2 (x.trans x2) (h.up x.h)
theorem run_ret2 {py : Pos} {i j kk : Nat} (A : WhS X N sc k) (hi : N[i]? = some x) (hv : Vis sc x) (h : ds[i]? = some (.ow xs)) (hj : N[j]? = some y) (hw : Vis sc y) (h' : ds[j]? = some (.ow ys)) (hij : i ≠ j) (hd : (x == ("__debug__" : Str)) = false := by decide) (hcd : (x == ("__classdict__" : Str)) = false := by decide) (hd' : (y == ("__debug__" : Str)) = false := by decide) (hcd' : (y == ("__classdict__" : Str)) = false := by decide)
    {tp : Pos} (he1 : starEach (Expr.Name x p :: [.Name y py]) X.env = (false, eval (Expr.Name x p) X.env) :: starEach [Expr.Name y py] X.env := by rfl) (he2 : starEach (Expr.Name y py :: []) X.env = (false, eval (Expr.Name y py) X.env) :: starEach [] X.env := by rfl) : Run X W (.Return (some (.Tuple [.Name x p, .Name y py] kk tp)) pos) ds (.r2 xs ys) := fun F0 H0 F H σ E s q => by
  obtain ⟨a, vs, e1, e2, e3, e4, e5⟩ := s.at_ i _ h
  obtain ⟨b, ws, g1, g2, g3, g4, g5⟩ := s.at_ j _ h'
  have ne : a ≠ b := fun z => hij (s.sep i j a ⟨_, h, rfl⟩ ⟨_, h', rfl⟩ e1 (z ▸ g1))
  refine toS (ps_ret (pe_tup (pa_cons (pe_var (i := i) (by rw [A.hN]; exact hi) (by rw [A.hsc]; exact hv) hd hcd) (pa_cons (pe_var (i := j) (by rw [A.hN]; exact hj) (by rw [A.hsc]; exact hw) hd' hcd') pa_nil he2) he1))) ?_
  refine ⟨_, e1, _, g1, by show 2 ≤ sizeLine; rw [sizeLine_eq]; decide, fun p hp => ?_⟩
  exact q p a b vs ws F _ (s.ext.trans (.newO s.fh hp)) ⟨s.ext.h.free hp, s.fh.free hp, upd_same, e2, e3, by rw [upd_ne (fun z => by rw [z, hp] at e4; cases e4)]; exact e4, g2, g3, by rw [upd_ne (fun z => by rw [z, hp] at g4; cases g4)]; exact g4, ne, e5, g5⟩
theorem StR.setNo {K : PySem.W.Frag} {F0 H0 F H : Hp} {σ : St} {i : Nat} (v : Option V) (r : StR K F0 H0 F H σ ds) : StR K F0 H0 F H (σ.set i v) (ds.set i .no) := by
  have at2 : ∀ (j : Nat) (s : Sl), (ds.set i .no)[j]? = some s → s = .no ∨ (i ≠ j ∧ ds[j]? = some s) := fun j s e => by
    by_cases q : i = j
    · subst q
      have hl : i < ds.length := by
        have z := (List.getElem?_eq_some_iff.mp e).1
        rwa [List.length_set] at z
      rw [List.getElem?_set_self hl] at e
      exact .inl (Option.some.inj e).symm
    · rw [List.getElem?_set_ne q] at e
      exact .inr ⟨q, e⟩
  have nm : ∀ k, Mine (ds.set i .no) k → i ≠ k ∧ Mine ds k := fun k ⟨s, e, m⟩ => by
    rcases at2 k s e with rfl | ⟨h1, h2⟩
    · cases m
    · exact ⟨h1, s, h2, m⟩
  refine ⟨r.ext, by rw [List.length_set, List.length_set, r.len], fun j s e => ?_, fun j k a h1 h2 e1 e2 => ?_⟩
  · rcases at2 j s e with rfl | ⟨h1, h2⟩
    · trivial
    · rw [List.getElem?_set_ne h1]
      exact r.at_ j s h2
  · obtain ⟨n1, m1⟩ := nm j h1
    obtain ⟨n2, m2⟩ := nm k h2
    rw [List.getElem?_set_ne n1] at e1
    rw [List.getElem?_set_ne n2] at e2
    exact r.sep j k a m1 m2 e1 e2
/-- .. taken as fixed -/
theorem P2.fix {K : PySem.W.Frag} {F H F' H' : Hp} {pr q1 q2 : Addr} {vs ws : List V} (P : P2 K H F' H' pr q1 q2 vs ws xs ys) (x1 : Ext F H F' H') : ∃ F1, Ext F H F1 H' ∧ Rp K F1 (.ref pr) (.tuple [.list xs, .list ys]) := by
  have r01 : pr ≠ q1 := fun z => by have h := P.h0; rw [z, P.h1] at h; cases h
  have r02 : pr ≠ q2 := fun z => by have h := P.h0; rw [z, P.h2] at h; cases h
  have g1 : upd F' q1 (.lst vs) q2 = none := by rw [upd_ne P.ne.symm]; exact P.f2
  have g0 : upd (upd F' q1 (.lst vs)) q2 (.lst ws) pr = none := by rw [upd_ne r02, upd_ne r01]; exact P.f0
  have sF : Same F' (upd (upd (upd F' q1 (.lst vs)) q2 (.lst ws)) pr (.tup [.ref q1, .ref q2])) := ((same_upd P.f1).trans (same_upd g1)).trans (same_upd g0)
  have sq1 : upd (upd (upd F' q1 (.lst vs)) q2 (.lst ws)) pr (.tup [.ref q1, .ref q2]) q1 = some (.lst vs) := by rw [upd_ne r01.symm, upd_ne P.ne, upd_same]
  have sq2 : upd (upd (upd F' q1 (.lst vs)) q2 (.lst ws)) pr (.tup [.ref q1, .ref q2]) q2 = some (.lst ws) := by rw [upd_ne r02.symm, upd_same]
  refine ⟨_, ⟨x1.f.trans sF, x1.h, fun b o z => ?_, fun b z n => ?_⟩, rp_tup.mpr ⟨pr, _, rfl, .inl (.inl upd_same), .cons (.lst (SqL.of sq1) (dpAll_mono sF P.d1)) (.cons (.lst (SqL.of sq2) (dpAll_mono sF P.d2)) .nil)⟩⟩
  · by_cases z0 : b = pr
    · subst z0; rw [upd_same] at z; rw [← z]; exact P.h0
    rw [upd_ne z0] at z
    by_cases z2 : b = q2
    · subst z2; rw [upd_same] at z; rw [← z]; exact P.h2
    rw [upd_ne z2] at z
    by_cases z1 : b = q1
    · subst z1; rw [upd_same] at z; rw [← z]; exact P.h1
    rw [upd_ne z1] at z
    exact x1.fh b o z
  · rw [upd_ne (fun w => n (by rw [w]; exact P.n0)), upd_ne (fun w => n (by rw [w]; exact P.n2)), upd_ne (fun w => n (by rw [w]; exact P.n1))]
    exact x1.own b z n
theorem EvR2.ev (h : EvR2 X e ds xs ys) : EvE X e ds (.tuple [.list xs, .list ys]) := fun F0 H0 F H σ s Q q => h F0 H0 F H σ s Q fun p q1 q2 vs ws F' H' x1 P => by
  obtain ⟨F1, x, r⟩ := P.fix x1
  exact q _ F1 H' x r
/-- x[i].append(a), where x is a pair of lists -/
theorem tup_app {F0 H0 F H : Hp} {σ : St} {E : Ends} {i : Int} {ix : Expr} {m : Nat} {pr q : Addr} {us vs : List V} {p1 p3 : Pos} (A : WhS X N sc k) (hi : N[m]? = some x) (hv : Vis sc x) (s : StR X.K F0 H0 F H σ ds) (e1 : σ[m]? = some (some (.ref pr))) (hp : H pr = some (.tup us)) (hu : atI us i = some (.ref q)) (hq : H q = some (.lst vs)) (hl : vs.length < sizeLine)
    (hix : EvE X ix ds (.int i)) (ha : EvE X a ds d) (hpx : PlainIx ix) (hd : (x == ("__debug__" : Str)) = false) (hcd : (x == ("__classdict__" : Str)) = false)
    (hbase : attributeBase (.Subscript (.Name x p1) ix p3) "append" X.env (eval (.Subscript (.Name x p1) ix p3) X.env) = eval (.Subscript (.Name x p1) ix p3) X.env) (hfew : ((backTo cpos (starEach (a :: []) X.env)).all (fun x => !x.1) && (backToKw cpos (keywordEach [] X.env)).all (fun x => x.1.isSome) && decide ((a :: []).length + ([] : List Keyword).length + (if ([] : List Keyword).isEmpty then 0 else 1) < 30)) = true) (hline : (apos.endLine == cpos.line) = true) (hs : starEach (a :: []) X.env = (false, eval a X.env) :: starEach [] X.env) (hplain : (backTo cpos (starEach [] X.env)).any (·.1) = false)
    (hsw : swapsWith (.Call (.Attribute (.Subscript (.Name x p1) ix p3) "append" apos) [a] [] cpos) none pos.line X.env = pure false)
    (q1 : ∀ F' H' v, Ext F H F' H' → E.nx σ (upd H' q (.lst (vs ++ [v])))) : wpS X (.Expr (.Call (.Attribute (.Subscript (.Name x p1) ix p3) "append" apos) [a] [] cpos) pos) E σ H := by
  refine toS (ps_expr (pe_bm PySem.F.plainAttrs_list PySem.F.slot_list_append PySem.F.type_list_append mt_append (pe_ix ix_tup (pe_var (i := m) (by rw [A.hN]; exact hi) (by rw [A.hsc]; exact hv) hd hcd) wpE_pe hpx) (pa_cons wpE_pe pa_nil hs) hbase hfew hline hs hplain) hsw) ?_
  refine ⟨_, e1, hix F0 H0 F H σ s _ fun vi F1 H1 x1 r1 => ?_⟩
  refine ⟨pr, us, i, .ref q, rfl, rp_int.mp r1, .inl (.inl (x1.h _ _ hp)), hu, .inl ⟨rfl, vs, SqL.of (x1.h _ _ hq)⟩, ?_⟩
  refine ha F0 H0 F1 H1 σ (s.to x1) _ fun v F2 H2 x2 r2 => ?_
  exact ⟨q, vs, v, rfl, rfl, (x1.trans x2).h _ _ hq, hl, q1 F2 H2 v (x1.trans x2)⟩
/-- a pair of lists is told, looked at, and changed; from then on nothing is known of it -/
theorem run_found {t a1 a2 i1 i2 : Expr} {d1 d2 : D} {m : Nat} {body rest : List Stmt} {p0 p1 p2 p3 p4 pos1 pos2 pos3 apos2 cpos2 : Pos} (A : WhS X N sc k) (hi : N[m]? = some x) (hx : L2.Loc sc x) (hv : Vis sc x) (he : EvR2 X e ds xs ys) (ht : EvT X t (ds.set m (.va (.tuple [.list xs, .list ys]))) false)
    (hi1 : ∀ ds, EvE X i1 ds (.int 0)) (hi2 : ∀ ds, EvE X i2 ds (.int 1)) (h1 : ∀ ds, EvE X a1 ds d1) (h2 : ∀ ds, EvE X a2 ds d2) (hl1 : xs.length < sizeLine) (hl2 : ys.length < sizeLine) (hr : RunB X W rest (ds.set m .no) u) (hm : m < ds.length)
    (hd : (x == ("__debug__" : Str)) = false := by decide) (hcd : (x == ("__classdict__" : Str)) = false := by decide) (hs : swapsWith e (some (.Name x p0)) pos.line X.env = pure false := by rfl)
    (hpx1 : PlainIx i1 := by exact fun _ _ => rfl) (hpx2 : PlainIx i2 := by exact fun _ _ => rfl)
    (hbase1 : attributeBase (.Subscript (.Name x p1) i1 p2) "append" X.env (eval (.Subscript (.Name x p1) i1 p2) X.env) = eval (.Subscript (.Name x p1) i1 p2) X.env := by rfl) (hfew1 : ((backTo cpos (starEach (a1 :: []) X.env)).all (fun x => !x.1) && (backToKw cpos (keywordEach [] X.env)).all (fun x => x.1.isSome) && decide ((a1 :: []).length + ([] : List Keyword).length + (if ([] : List Keyword).isEmpty then 0 else 1) < 30)) = true := by rfl) (hline1 : (apos.endLine == cpos.line) = true := by rfl) (hs1 : starEach (a1 :: []) X.env = (false, eval a1 X.env) :: starEach [] X.env := by rfl) (hplain1 : (backTo cpos (starEach [] X.env)).any (·.1) = false := by rfl)
    (hsw1 : swapsWith (.Call (.Attribute (.Subscript (.Name x p1) i1 p2) "append" apos) [a1] [] cpos) none pos2.line X.env = pure false := by rfl)
    (hbase2 : attributeBase (.Subscript (.Name x p3) i2 p4) "append" X.env (eval (.Subscript (.Name x p3) i2 p4) X.env) = eval (.Subscript (.Name x p3) i2 p4) X.env := by rfl) (hfew2 : ((backTo cpos2 (starEach (a2 :: []) X.env)).all (fun x => !x.1) && (backToKw cpos2 (keywordEach [] X.env)).all (fun x => x.1.isSome) && decide ((a2 :: []).length + ([] : List Keyword).length + (if ([] : List Keyword).isEmpty then 0 else 1) < 30)) = true := by rfl) (hline2 : (apos2.endLine == cpos2.line) = true := by rfl) (hs2 : starEach (a2 :: []) X.env = (false, eval a2 X.env) :: starEach [] X.env := by rfl) (hplain2 : (backTo cpos2 (starEach [] X.env)).any (·.1) = false := by rfl)
    (hsw2 : swapsWith (.Call (.Attribute (.Subscript (.Name x p3) i2 p4) "append" apos2) [a2] [] cpos2) none pos3.line X.env = pure false := by rfl) :
    RunB X W (.Assign [.Name x p0] e pos :: .If t body [] pos1 :: .Expr (.Call (.Attribute (.Subscript (.Name x p1) i1 p2) "append" apos) [a1] [] cpos) pos2 :: .Expr (.Call (.Attribute (.Subscript (.Name x p3) i2 p4) "append" apos2) [a2] [] cpos2) pos3 :: rest) ds u := fun F0 H0 F H σ E s q => by
  refine toB (pss_cons wpS_ps wpB_pss) ?_
  refine toS (ps_set (i := m) (by rw [A.hN]; exact A.nd) (by rw [A.hN]; exact hi) (by rw [A.hsc]; exact hx) wpE_pe hs (.inl (A.fn x))) (he F0 H0 F H σ s _ fun pr q1 q2 vs ws F' H' x1 P => ?_)
  have e1 : (σ.set m (some (V.ref pr)))[m]? = some (some (.ref pr)) := List.getElem?_set_self (by rw [s.len]; exact hm)
  have r01 : pr ≠ q1 := fun z => by have h := P.h0; rw [z, P.h1] at h; cases h
  obtain ⟨F1, xF, rp⟩ := P.fix x1
  refine toB (pss_cons wpS_ps wpB_pss) ?_
  refine toS (ps_if wpT_pt wpB_pss wpB_pss) (ht F0 H0 _ H' _ ((s.to xF).set rp) _ fun F2 H2 x2 => ?_)
  rw [if_neg (by decide)]
  refine toB pss_nil ?_
  -- the first list is changed
  have k2 : Ext F H F' H2 := ⟨x1.f, x1.h.trans x2.h, x1.fh.trans x2.h, x1.own⟩
  refine toB (pss_cons wpS_ps wpB_pss) ?_
  refine tup_app A hi hv ((s.to k2).setNo (some (.ref pr))) e1 (x2.h _ _ P.h0) (atI_nat (j := 0) rfl) (x2.h _ _ P.h1) (by rw [dpAll_len P.d1]; exact hl1) (hi1 _) (h1 _) hpx1 hd hcd hbase1 hfew1 hline1 hs1 hplain1 hsw1 fun F3 H3 v3 x3 => ?_
  have keep3 : ∀ b, b ≠ q1 → ∀ o, H2 b = some o → upd H3 q1 (.lst (vs ++ [v3])) b = some o := fun b n o z => by rw [upd_ne n]; exact x3.h _ _ z
  have k3 : Ext F H F' (upd H3 q1 (.lst (vs ++ [v3]))) := ⟨x1.f, fun b o z => keep3 b (fun w => by rw [w, P.n1] at z; cases z) o (k2.h b o z), fun b o z => keep3 b (fun w => by rw [w, P.f1] at z; cases z) o (k2.fh b o z), x1.own⟩
  refine toB (pss_cons wpS_ps wpB_pss) ?_
  refine tup_app A hi hv ((s.to k3).setNo (some (.ref pr))) e1 (keep3 pr r01 _ (x2.h _ _ P.h0)) (atI_nat (j := 1) rfl) (keep3 q2 P.ne.symm _ (x2.h _ _ P.h2)) (by rw [dpAll_len P.d2]; exact hl2) (hi2 _) (h2 _) hpx2 hd hcd hbase2 hfew2 hline2 hs2 hplain2 hsw2 fun F4 H4 v4 x4 => ?_
  have keep4 : ∀ b, b ≠ q2 → ∀ o, upd H3 q1 (.lst (vs ++ [v3])) b = some o → upd H4 q2 (.lst (ws ++ [v4])) b = some o := fun b n o z => by rw [upd_ne n]; exact x4.h _ _ z
  have k4 : Ext F H F' (upd H4 q2 (.lst (ws ++ [v4]))) := ⟨x1.f, fun b o z => keep4 b (fun w => by rw [w, P.n2] at z; cases z) o (k3.h b o z), fun b o z => keep4 b (fun w => by rw [w, P.f2] at z; cases z) o (k3.fh b o z), x1.own⟩
  exact hr F0 H0 F' _ _ E ((s.to k4).setNo (some (.ref pr))) (post_mono x1.f q)
end
end Vs

/-! Errors, by data. -/
namespace Vs
open PySem PySem.Spec L2
/-- an own class x of errors, at C -/
structure ErrC (K : PySem.W.Frag) (mg : Str → Option Value) (x : Str) (C : Addr) : Prop where
  ex : PySem.W.excIn K C [.type "ValueError", .type "Exception", .type "BaseException", .type "object"] "ValueError.__new__" = true
  gl : mg x = some (.ref C)
  kp : PySem.W.keepIn K (.ref C) = true
  sub : PySem.W.subIn K (.ref C) (.type "BaseException") = some true
  ty : PySem.W.typeIn K (.ref C) = some (.type "type")
/-- e raises an error of class c -/
def EvX (X : Cx) (W : WX) (e : Expr) (ds : Sls) (c : Value) : Prop := ∀ (F0 H0 F H : Hp) (σ : St), StR X.K F0 H0 F H σ ds → (∀ F' H', Ext F H F' H' → W c none σ H') → ∀ Q : VK, wpE X e σ H Q
section
variable {X : Cx} {W : WX} {N ps : List Str} {sc : Scope} {k kf : Nat} {ds : Sls} {d : D} {as xs : List D} {e a b : Expr} {es : List Expr} {pos p : Pos} {x m : Str} {S : List D → Out → Prop} {c : Value}
theorem StR.nos {K : PySem.W.Frag} {F0 H0 F H : Hp} {σ : St} (s : StR K F0 H0 F H σ ds) : StR K F0 H0 F H σ (List.replicate σ.length .no) := s.forget (by rw [List.length_replicate, s.len]) fun i t e => by
  rw [List.getElem?_replicate] at e
  split at e
  · exact .inl (Option.some.inj e).symm
  · cases e
theorem StR.rf {K : PySem.W.Frag} {F0 H0 F H : Hp} {σ : St} {n i : Nat} (s : StR K F0 H0 F H σ (List.replicate n .no)) (a : Addr) : StR K F0 H0 F H (σ.set i (some (.ref a))) ((List.replicate n .no).set i (.rf a)) := by
  have nm : ∀ j, ¬ Mine ((List.replicate n Sl.no).set i (.rf a)) j := fun j ⟨t, e, mt⟩ => by
    by_cases q : i = j
    · subst q
      have hl : i < (List.replicate n Sl.no).length := by
        have z := (List.getElem?_eq_some_iff.mp e).1
        rwa [List.length_set] at z
      rw [List.getElem?_set_self hl] at e
      cases e
      cases mt
    · rw [List.getElem?_set_ne q, List.getElem?_replicate] at e
      split at e
      · cases e; cases mt
      · cases e
  refine ⟨s.ext, by rw [List.length_set, List.length_set, s.len], fun j t e => ?_, fun j _ _ h1 _ _ _ => absurd h1 (nm j)⟩
  by_cases q : i = j
  · subst q
    have hl : i < (List.replicate n Sl.no).length := by
      have z := (List.getElem?_eq_some_iff.mp e).1
      rwa [List.length_set] at z
    rw [List.getElem?_set_self hl] at e
    cases e
    exact List.getElem?_set_self (by rw [s.len]; exact hl)
  · rw [List.getElem?_set_ne q, List.getElem?_replicate] at e
    split at e
    · cases e; trivial
    · cases e
/-- raise x('m') -/
theorem run_raise {C : Addr} {j : Nat} {p1 p2 : Pos} (A : Wh X N sc k) (tk : Takes X W) (c : ErrC X.K X.mg x C) (hg : GlS sc x) (hdb : (x == ("__debug__" : Str)) = false := by decide) : Run X W (.Raise (some (.Call (.Name x p) [.Constant (.str m) j p2] [] p1)) none pos) ds (.ex (.ref C)) := fun F0 H0 F H σ E s q =>
  toS (ps_raise A.calm tk (pmk_own PySem.F.excBase_ValueError c.ex c.gl c.kp (raises_own c.sub c.ty) (A.gl hg) hdb)) (q σ F H s.nos (Same.refl _))
/-- a call that raises -/
theorem evx_call (A : Wh X N sc k) (tk : Takes X W) (G : FnX X kf x ps S) (hk : kf ≤ k) (hg : GlS sc x) (ha : EvA X (e :: es) ds as) (hs : S as (.ex c)) (hdb : (x == ("__debug__" : Str)) = false := by decide) (he : starEach (e :: es) X.env = (false, eval e X.env) :: starEach es X.env := by rfl) (hpl : (backTo pos (starEach es X.env)).any (·.1) = false := by rfl) :
    EvX X W (.Call (.Name x p) (e :: es) [] pos) ds c := fun F0 H0 F H σ s w Q => by
  obtain ⟨f, fd, h1, h2, h3, h4⟩ := G
  refine toE (pe_callS (E := WE W) h1 (A.room.mono hk) (A.gl hg) h2 h3 h4 (fun σ => passAt tk σ) wpA_pa hdb he hpl) ?_
  exact ha F0 H0 F H σ s _ fun vs F' H' x r1 => ⟨F', as, .ex c, x.fh, r1, hs, fun F2 H2 x2 => w F2 H2 (x.trans x2)⟩
theorem run_exprX (h : EvX X W e ds c) (hs : swapsWith e none pos.line X.env = pure false := by rfl) : Run X W (.Expr e pos) ds (.ex c) := fun F0 H0 F H σ E s q =>
  toS (ps_expr wpE_pe hs) (h F0 H0 F H σ s (fun F' H' x => q σ F' H' (s.to x).nos x.f) _)
theorem run_retX (h : EvX X W e ds c) : Run X W (.Return (some e) pos) ds (.ex c) := fun F0 H0 F H σ E s q =>
  toS (ps_ret wpE_pe) (h F0 H0 F H σ s (fun F' H' x => q σ F' H' (s.to x).nos x.f) _)
theorem run_setX (A : WhS X N sc k) (n : Nat) (hi : N[n]? = some x) (hx : L2.Loc sc x) (h : EvX X W e ds c) (hs : swapsWith e (some (.Name x p)) pos.line X.env = pure false := by rfl) : Run X W (.Assign [.Name x p] e pos) ds (.ex c) := fun F0 H0 F H σ E s q =>
  toS (ps_set (i := n) (by rw [A.hN]; exact A.nd) (by rw [A.hN]; exact hi) (by rw [A.hsc]; exact hx) wpE_pe hs (.inl (A.fn x))) (h F0 H0 F H σ s (fun F' H' x => q σ F' H' (s.to x).nos x.f) _)
/-- .. within a subscript -/
theorem evx_ix (h : EvX X W a ds c) (hs : PlainIx b := by exact fun _ _ => rfl) : EvX X W (.Subscript a b pos) ds c := fun F0 H0 F H σ s w Q =>
  toE (pe_ix ix_list wpE_pe (tb := wpE X b) wpE_pe hs) (h F0 H0 F H σ s w _)
theorem evx_sl {lo hi : Option Expr} {l u : Option Int} {p2 : Pos} (h : EvX X W a ds c) (hl : EvO X lo ds l) (hh : EvO X hi ds u) : EvX X W (.Subscript a (.Slice lo hi none p2) pos) ds c := fun F0 H0 F H σ s w Q => by
  obtain ⟨tl, pl, ql⟩ := evo_run hl
  obtain ⟨th, ph, qh⟩ := evo_run hh
  exact toE (pe_slice sl_list wpE_pe pl ph) (h F0 H0 F H σ s w _)
theorem evx_tup2 (ha : EvE X a ds d) (hb : EvX X W b ds c) (he1 : starEach (a :: [b]) X.env = (false, eval a X.env) :: starEach [b] X.env := by rfl) (he2 : starEach (b :: []) X.env = (false, eval b X.env) :: starEach [] X.env := by rfl) : EvX X W (.Tuple [a, b] k pos) ds c := fun F0 H0 F H σ s w Q =>
  toE (pe_tup (pa_cons wpE_pe (pa_cons wpE_pe pa_nil he2) he1)) (ha F0 H0 F H σ s _ fun v F' H' x r => hb F0 H0 F' H' σ (s.to x) (fun F2 H2 x2 => w F2 H2 (x.trans x2)) _)
/-- e gives something -/
def EvD (X : Cx) (e : Expr) (ds : Sls) : Prop := ∀ (F0 H0 F H : Hp) (σ : St), StR X.K F0 H0 F H σ ds → ∀ Q : VK, (∀ v F' H', Ext F H F' H' → Q v H') → wpE X e σ H Q
theorem EvE.dn (h : EvE X e ds d) : EvD X e ds := fun F0 H0 F H σ s Q q => h F0 H0 F H σ s Q fun v F' H' x _ => q v F' H' x
theorem EvN.dn (h : EvN X e ds xs) : EvD X e ds := fun F0 H0 F H σ s Q q => h F0 H0 F H σ s Q fun p vs F' H' x _ _ _ _ => q _ F' H' x
theorem evd_call (A : Wh X N sc k) (G : FnX X kf x ps S) (hk : kf ≤ k) (hg : GlS sc x) (ha : EvA X (e :: es) ds as) (hs : S as .dn) (hdb : (x == ("__debug__" : Str)) = false := by decide) (he : starEach (e :: es) X.env = (false, eval e X.env) :: starEach es X.env := by rfl) (hpl : (backTo pos (starEach es X.env)).any (·.1) = false := by rfl) :
    EvD X (.Call (.Name x p) (e :: es) [] pos) ds := fun F0 H0 F H σ s Q q => call_run A G hk hg ha hs hdb he hpl s fun F' H' x v F2 H2 x2 => q v F2 H2 (x.trans x2)
theorem run_exprD (h : EvD X e ds) (hs : swapsWith e none pos.line X.env = pure false := by rfl) : Run X W (.Expr e pos) ds (.nx ds) := fun F0 H0 F H σ E s q =>
  toS (ps_expr wpE_pe hs) (h F0 H0 F H σ s _ fun v F' H' x => q σ F' H' (s.to x) x.f)
theorem run_retD (h : EvD X e ds) : Run X W (.Return (some e) pos) ds .dn := fun F0 H0 F H σ E s q =>
  toS (ps_ret wpE_pe) (h F0 H0 F H σ s _ fun v F' H' x => q v F' H' (s.ext.trans x))
theorem runB_X {st : Stmt} {rest : List Stmt} (h : Run X W st ds (.ex c)) : RunB X W (st :: rest) ds (.ex c) := runB_stop h rfl
/-! ### try -/
def Out.isEx : Out → Bool
  | .ex _ => true
  | _ => false
theorem WhS.tr (A : WhS X N sc k) {pn : List (Addr × Obj)} {xe : Value → Shared → Prop} (p : PassesOwn (model X.prog X.w) X.A X.env xe) : WhS (X.tr pn xe) N sc k := ⟨⟨⟨A.hN, A.nd, A.hsc, A.kind⟩, A.calm, A.room⟩, p, A.fn, A.stk, A.frm⟩
theorem Wh0.suite (A : Wh0 X N sc) {a : Addr} {pn : List (Addr × Obj)} : Wh0 (X.suite a pn) N sc := ⟨A.hN, A.nd, A.hsc, A.kind⟩
/-- try: body; except x as n: suite -/
theorem run_try {i : Nat} {n : Str} {C CR : Addr} {np pos' : Pos} {body suite : List Stmt} {b₀ : Stmt} {u v : Out} (A : WhS X N sc k) (tk : Takes X W) (hi : N[i]? = some n) (hln : sc.names.lookup n = some .local)
    (hg : GlS sc x) (hm : X.mg x = some (.ref CR)) (he : PySem.W.exmOne X.K (.ref C) (.ref CR) = some true) (hv : v.isEx = false)
    (hb : ∀ (W' : WX) (pn : List (Addr × Obj)) (xe : Value → Shared → Prop), WhS (X.tr pn xe) N sc k → Takes (X.tr pn xe) W' → RunB (X.tr pn xe) W' body ds u) (hu : u = .ex (.ref C) ∨ u = v)
    (hsu : u = .ex (.ref C) → ∀ (a : Addr) (oe : Obj) (pn : List (Addr × Obj)) (W' : WX), Zc (.ref C) none oe → (∃ vs, oe.data = .fields vs) → ∃ d, v = .rt d ∧ RunB (X.suite a ((a, oe) :: pn)) W' (b₀ :: suite) ((List.replicate N.length .no).set i (.rf a)) (.rt d))
    (hdb : (x == ("__debug__" : Str)) = false := by decide) :
    Run X W (.Try body [.ExceptHandler (some (.Name x np)) (some n) (b₀ :: suite) pos'] [] [] pos) ds v := fun F0 H0 F H σ E s q => by
  refine toS (ps_try_as (i := i) (c := .ref CR) (tb := fun W' D σ H => ∀ (pn : List (Addr × Obj)) (xe : Value → Shared → Prop), Takes (X.tr pn xe) W' → PassesOwn (model X.prog X.w) X.A X.env xe → wpB (X.tr pn xe) body D σ H)
    (ts := fun a cls d D σ H => ∀ (oe : Obj) (pn : List (Addr × Obj)), Zc cls d oe → (∃ vs, oe.data = .fields vs) → wpB (X.suite a ((a, oe) :: pn)) (b₀ :: suite) D σ H)
    A.stk A.frm (by rw [A.hN]; exact A.nd) (by rw [A.hN]; exact hi) (by show X.env.scope.names.lookup n = _; rw [A.hsc]; exact hln) ⟨A.gl hg, hdb, .inl hm⟩ tk
    (fun W' pn xe t p => ⟨fun pins s σ H D I h => h pn xe t p pins s I⟩) (fun a oe cls d pn hz hf => ⟨fun pins s σ H D I h => h oe pn hz hf pins s I⟩)) ?_
  intro pn xe t p
  have B := hb _ pn xe (A.tr p) t F0 H0 F H σ E s
  refine B ?_
  rcases hu with rfl | rfl
  · intro σ1 F1 H1 s1 sf
    refine ⟨true, he, fun _ a ha => ?_, fun z => Bool.noConfusion z⟩
    intro oe pn2 hz hfs
    obtain ⟨d, rfl, R⟩ := hsu rfl a oe pn2 (fun _ _ _ _ => False) hz hfs
    intro pins s3 I
    have ls : σ1.length = N.length := by
      have := I.len
      rw [List.length_set] at this
      rw [this, ← A.hN]
    have s2 := s1.rf (i := i) a
    rw [ls] at s2
    refine R F0 H0 F1 H1 _ _ s2 ?_ pins s3 I
    exact q
  · cases u <;> first | exact q | cases hv
end
end Vs

/-! The caught error, asked for its class by another def. -/
namespace Vs
open PySem PySem.Spec PyProof.Rows L2
theorem reads_bools {h : Heap} : ∀ {bs : List Bool} {us : List Value}, Vals (bs.map V.bl) us → us = bs.map Value.bool ∧ ReadsAll h us (bs.map PyData.bool) []
  | [], _, r => by cases r; exact ⟨rfl, .nil⟩
  | b :: bs, _, r => by
    cases r with
    | cons r1 r2 =>
      obtain ⟨e1, e2⟩ := reads_bools (h := h) r2
      have q : _ = Value.bool b := r1
      subst q
      subst e1
      exact ⟨rfl, ReadsAll.cons (as := []) (bs := []) (.bool b) e2⟩
theorem countIn_bools (k : Bool) : ∀ bs : List Bool, countIn (.bool k) (bs.map PyData.bool) = (bs.count k : Nat)
  | [] => rfl
  | b :: bs => by
    rw [List.map_cons, countIn, List.count_cons, countIn_bools k bs]
    cases b <;> cases k <;> simp [same] <;> omega
theorem mt_countB {X : Cx} : MtR X "list.count" (fun x xs H Q => ∃ (a : Addr) (bs : List Bool) (k : Bool), x = V.ref a ∧ xs = [V.bl k] ∧ SqL X.K H a (bs.map V.bl) ∧ Q (.int (bs.count k : Nat)) H) := by
  intro pins s σ H x xs v us Q I rx rxs h
  obtain ⟨a, bs, k, rfl, rfl, hs, q⟩ := h
  cases rx
  obtain ⟨u, rfl, ru⟩ := rxs.one
  have ru : u = Value.bool k := ru
  subst ru
  obtain ⟨its, rv, hl, _⟩ := I.list hs
  obtain ⟨e, ra⟩ := reads_bools (h := s.heap) rv
  refine count_list_bools hl.isList ra (by rw [List.all_map]; exact List.all_eq_true.mpr fun _ _ => rfl) ?_
  rw [countIn_bools]
  exact ⟨.int (bs.count k : Nat), H, I.tok _, ⟨_, rfl⟩, q⟩
section
variable {X : Cx} {W : WX} {N ps : List Str} {sc : Scope} {k kf : Nat} {ds : Sls} {d : D} {as xs : List D} {e a b : Expr} {es : List Expr} {pos p p1 p2 apos cpos : Pos} {x y m : Str} {S : List D → Out → Prop} {c : Value} {o : Expr}
theorem ev_var0 (A : Wh0 X N sc) (i : Nat) {x : Str} (hi : N[i]? = some x) (hv : Vis sc x) (h : ds[i]? = some (.va d)) (hd : (x == ("__debug__" : Str)) = false := by decide) (hcd : (x == ("__classdict__" : Str)) = false := by decide) : EvE X (.Name x pos) ds d := by
  intro F0 H0 F H σ r Q q
  obtain ⟨v, e1, e2⟩ := r.at_ i _ h
  refine toE (pe_var (i := i) (by rw [A.hN]; exact hi) (by rw [A.hsc]; exact hv) hd hcd) ⟨v, e1, q v F H (.refl r.fh) e2⟩
theorem evc_own0 (A : Wh0 X N sc) (m : Nat) (hi : N[m]? = some x) (hv : Vis sc x) (h : ds[m]? = some (.ow xs)) (hd : (x == ("__debug__" : Str)) = false := by decide) (hcd : (x == ("__classdict__" : Str)) = false := by decide) : EvC X (.Name x pos) ds xs := fun F0 H0 F H σ r Q q => by
  obtain ⟨a, vs, e1, e2, e3, e4, e5⟩ := r.at_ m _ h
  exact toE (pe_var (i := m) (by rw [A.hN]; exact hi) (by rw [A.hsc]; exact hv) hd hcd) ⟨_, e1, q a vs F H (.refl r.fh) e4 e5⟩
theorem run_setN0 (A : Wh0 X N sc) (hfn : X.fn x = true) (m : Nat) (hi : N[m]? = some x) (hx : L2.Loc sc x) (h : EvN X e ds xs) (hs : swapsWith e (some (.Name x p)) pos.line X.env = pure false := by rfl) : Run X W (.Assign [.Name x p] e pos) ds (.nx (ds.set m (.ow xs))) := fun F0 H0 F H σ E s q =>
  toS (ps_set (i := m) (by rw [A.hN]; exact A.nd) (by rw [A.hN]; exact hi) (by rw [A.hsc]; exact hx) wpE_pe hs (.inl hfn)) (h F0 H0 F H σ s _ fun p vs F' H' x n1 n2 n3 n4 => q _ F' H' ((s.to x).setO (s.ext.h.free n1) n2 n3 n4 (s.apart n1)) x.f)
theorem dpAll_B {K : PySem.W.Frag} {H : Hp} : ∀ {bs : List Bool} {vs : List V}, DpAll K H vs (bs.map fun b => PyData.bool b) → vs = bs.map V.bl := fun h => dpAll_bls h
/-- bs.count(b) -/
theorem ev_countB {bs : List Bool} {t : Bool} (ho : EvE X o ds (.list (bs.map fun b => PyData.bool b))) (ha : EvE X a ds (.bool t)) (hbase : attributeBase o "count" X.env (eval o X.env) = eval o X.env := by rfl) (hfew : ((backTo cpos (starEach (a :: []) X.env)).all (fun x => !x.1) && (backToKw cpos (keywordEach [] X.env)).all (fun x => x.1.isSome) && decide ((a :: []).length + ([] : List Keyword).length + (if ([] : List Keyword).isEmpty then 0 else 1) < 30)) = true := by rfl)
    (hline : (apos.endLine == cpos.line) = true := by rfl) (hs : starEach (a :: []) X.env = (false, eval a X.env) :: starEach [] X.env := by rfl) (hplain : (backTo cpos (starEach [] X.env)).any (·.1) = false := by rfl) :
    EvE X (.Call (.Attribute o "count" apos) [a] [] cpos) ds (.int (bs.count t : Nat)) :=
  ev_bm PySem.F.plainAttrs_list PySem.F.slot_list_count PySem.F.type_list_count mt_countB ho rfl (eva_cons ha eva_nil hs) (fun v0 vs F H Q s r0 r q => by
    obtain ⟨v, rfl, r1⟩ := rpAll1 r
    obtain ⟨p, ws, rfl, h1, h2⟩ := rp_lst.mp r0
    have e := dpAll_B h2
    subst e
    rw [rp_bl.mp r1]
    exact ⟨p, bs, t, rfl, rfl, s.seq h1, q _ F H (.refl s) (.int _)⟩) hbase hfew hline hs hplain
theorem flat_bools (bs : List Bool) : (bs.map V.bl).all flatV = true := by
  rw [List.all_map]; exact List.all_eq_true.mpr fun _ _ => rfl
/-- bs.index(b) -/
theorem ev_indexB {bs : List Bool} {t : Bool} (ho : EvE X o ds (.list (bs.map fun b => PyData.bool b))) (ha : EvE X a ds (.bool t)) (hc : t ∈ bs) (hbase : attributeBase o "index" X.env (eval o X.env) = eval o X.env := by rfl) (hfew : ((backTo cpos (starEach (a :: []) X.env)).all (fun x => !x.1) && (backToKw cpos (keywordEach [] X.env)).all (fun x => x.1.isSome) && decide ((a :: []).length + ([] : List Keyword).length + (if ([] : List Keyword).isEmpty then 0 else 1) < 30)) = true := by rfl)
    (hline : (apos.endLine == cpos.line) = true := by rfl) (hs : starEach (a :: []) X.env = (false, eval a X.env) :: starEach [] X.env := by rfl) (hplain : (backTo cpos (starEach [] X.env)).any (·.1) = false := by rfl) :
    EvE X (.Call (.Attribute o "index" apos) [a] [] cpos) ds (.int (bs.idxOf t : Nat)) :=
  ev_bm PySem.F.plainAttrs_list PySem.F.slot_list_index PySem.F.type_list_index mt_index ho rfl (eva_cons ha eva_nil hs) (fun v0 vs F H Q s r0 r q => by
    obtain ⟨v, rfl, r1⟩ := rpAll1 r
    obtain ⟨p, ws, rfl, h1, h2⟩ := rp_lst.mp r0
    have e := dpAll_B h2
    subst e
    rw [rp_bl.mp r1]
    have hl : bs.idxOf t < bs.length := List.idxOf_lt_length_iff.mpr hc
    have eqB : ∀ m : Bool, eqV (.bl m) (.bl t) = decide (m = t) := fun m => by cases m <;> cases t <;> rfl
    refine ⟨p, _, .bl t, bs.idxOf t, .bl t, rfl, rfl, s.seq h1, rfl, flat_bools bs, ?_, ?_, fun m z' hm hz => ?_, q _ F H (.refl s) (.int _)⟩
    · rw [List.getElem?_map, List.getElem?_eq_getElem hl, List.getElem_idxOf hl]; rfl
    · rw [eqB]; exact decide_eq_true rfl
    · rw [List.getElem?_map] at hz
      have hml : m < bs.length := by omega
      rw [List.getElem?_eq_getElem hml] at hz
      have hz := Option.some.inj hz
      subst hz
      rw [eqB]
      refine decide_eq_false fun e => ?_
      have := idxOf_leG (a := bs) (i := m) (c := t) (by rw [List.getElem?_eq_getElem hml, e])
      omega) hbase hfew hline hs hplain
/-! ### isinstance of the caught error -/
theorem call_isEX {D : Addr} {q : Addr × Obj} (C : ExcC X.K D) (hq : q ∈ X.pn) (hz : Zc (.ref D) none q.2) (hf : ∃ vs, q.2.data = .fields vs) : CallR X (.builtin "isinstance") (rIsE X.K D q.1) := by
  intro pins s σ H xs us Q I r h
  obtain ⟨c, cv, b, rfl, hcv, e, w⟩ := h
  cases r with
  | cons rx rr =>
    cases rr with
    | cons rt rr =>
      cases rr
      cases rx
      have ec := hcv _ rt
      subst ec
      obtain ⟨hget, _⟩ := I.pin q (List.mem_append.mpr (.inl hq))
      obtain ⟨vs, hv⟩ := hf
      have J : PySem.W.InstAt s.heap q.1 q.2 D none := by
        obtain ⟨qa, ⟨oc, od, oda, osl⟩⟩ := q
        obtain ⟨h1, h2⟩ := hz
        dsimp only at h1 h2 hv
        subst h1 h2 hv
        exact ⟨hget, rfl, rfl, trivial⟩
      exact PySem.W.kia_one (PySem.W.handS_kitx_exc C.hg C.hk C.hs C.hd C.ha C.hn C.ht C.hm) I.kIn J e (fun z => nomatch z) fun tk => ⟨.bl b, H, I.kept (t' := tk) fun _ _ z => z, rfl, w⟩
theorem ev_isE {D C2 : Addr} {t : Bool} {m : Nat} {q : Addr × Obj} (A : Wh0 X N sc) (C : ExcC X.K D) (hq : q ∈ X.pn) (hz : Zc (.ref D) none q.2) (hf : ∃ vs, q.2.data = .fields vs) (hi : N[m]? = some x) (hv : Vis sc x) (h : ds[m]? = some (.rf q.1)) (hg : GlS sc "isinstance") (hm : X.mg "isinstance" = none) (hg2 : GlS sc y) (hm2 : X.mg y = some (.ref C2)) (hk : PySem.W.kitOne X.K (.ref D) (.ref C2) = some t)
    (hd : (x == ("__debug__" : Str)) = false := by decide) (hcd : (x == ("__classdict__" : Str)) = false := by decide) (hd2 : (y == ("__debug__" : Str)) = false := by decide)
    (he : starEach (.Name x p1 :: [.Name y p2]) X.env = (false, eval (.Name x p1) X.env) :: starEach [.Name y p2] X.env := by rfl) : EvE X (.Call (.Name "isinstance" p) [.Name x p1, .Name y p2] [] pos) ds (.bool t) := fun F0 H0 F H σ s Q w => by
  have e1 := s.at_ m _ h
  refine toE (pe_callB (call_isEX C hq hz hf) (A.gl hg) hm (by decide +kernel) (pa_cons (pe_var (i := m) (by rw [A.hN]; exact hi) (by rw [A.hsc]; exact hv) hd hcd) (pa_cons (pe_glob (v := .ref C2) (A.gl hg2) hm2 rfl hd2) pa_nil (by rfl)) he) (by decide) (by decide) he (by rfl)) ?_
  exact ⟨_, e1, .ref C2, .ref C2, t, rfl, fun _ z => z, hk, w _ F H (.refl s.fh) (.bl _)⟩
theorem ev_isEV {D : Addr} {T : String} {t : Bool} {m : Nat} {q : Addr × Obj} (A : Wh0 X N sc) (C : ExcC X.K D) (hq : q ∈ X.pn) (hz : Zc (.ref D) none q.2) (hf : ∃ vs, q.2.data = .fields vs) (hi : N[m]? = some x) (hv : Vis sc x) (h : ds[m]? = some (.rf q.1)) (hg : GlS sc "isinstance") (hm : X.mg "isinstance" = none) (hg2 : GlS sc y) (hm2 : X.mg y = none) (hb2 : bootBuiltins y = some (.type T)) (hk : PySem.W.kitOne X.K (.ref D) (.type T) = some t) (hn : y ≠ "__name__" := by decide)
    (hd : (x == ("__debug__" : Str)) = false := by decide) (hcd : (x == ("__classdict__" : Str)) = false := by decide) (hd2 : (y == ("__debug__" : Str)) = false := by decide)
    (he : starEach (.Name x p1 :: [.Name y p2]) X.env = (false, eval (.Name x p1) X.env) :: starEach [.Name y p2] X.env := by rfl) : EvE X (.Call (.Name "isinstance" p) [.Name x p1, .Name y p2] [] pos) ds (.bool t) := fun F0 H0 F H σ s Q w => by
  have e1 := s.at_ m _ h
  refine toE (pe_callB (call_isEX C hq hz hf) (A.gl hg) hm (by decide +kernel) (pa_cons (pe_var (i := m) (by rw [A.hN]; exact hi) (by rw [A.hsc]; exact hv) hd hcd) (pa_cons (pe_bltn (v := .ty T) (A.gl hg2) hm2 hb2 rfl hn hd2) pa_nil (by rfl)) he) (by decide) (by decide) he (by rfl)) ?_
  exact ⟨_, e1, .ty T, .type T, t, rfl, fun _ z => z, hk, w _ F H (.refl s.fh) (.bl _)⟩
end
/-! ### a def that is handed the caught error -/
structure FnK (P : Program) (w : World) (K : PySem.W.Frag) (mg : Str → Option Value) (base : Heap) (k : Nat) (f : Addr) (fd : FuncData) (D : Addr) (l : List Nat) : Prop where
  run : ∀ (A : Around) (outer : List Env) (s : Shared) (H F : Hp) (args : Args) (us : List Value) (Q : VK) (E : XK) (p : Addr × Obj), L2H.RoomH k A → L2H.PinOk outer H s p → Zc (.ref D) none p.2 → (∃ vs, p.2.data = .fields vs) → Env0 P w K mg base A outer s H → BindsTo s fd args ([Str.ofString "e"].zip us) → Vals [V.ref p.1] us → Same F H → PostC K F H Q E (.rt (sD l)) →
    codeAny (model P w) A (.call (.ref f) args) (CR (L2.CX P w) outer P w H s Q E) s
theorem fn_ofK {P : Program} {w : World} {K : PySem.W.Frag} {mg : Str → Option Value} {base : Heap} {k : Nat} {D f : Addr} {l : List Nat} {name qual : Str} {params : Arguments} {body : List Stmt} {scope : Scope} {dV kV doc pm cdv ct oc : Value} {an od : Option Addr}
    {osl : Array (Option Value)} (lk : K.lookup f = some ⟨oc, od, .func (PySem.W.fnOf name qual params body scope dV kV doc pm an cdv ct), osl⟩) (hcd : PySem.W.codeIn K cdv qual = true) (S : FnScope ["e", "kinds"] ["e"] scope)
    (hbody : ∀ (X : Cx) (p : Addr × Obj), X.prog = P → X.w = w → X.K = K → X.mg = mg → X.base = base → Wh0 X ["e", "kinds"] scope → (∀ x, X.fn x = true) → p ∈ X.pn → Zc (.ref D) none p.2 → (∃ vs, p.2.data = .fields vs) → RunB X (fun _ _ _ _ => False) body [.rf p.1, .no] (.rt (sD l))) :
    FnK P w K mg base (k + 1) f (PySem.W.fnOf name qual params body scope dV kV doc pm an cdv ct) D l := by
  refine ⟨fun A outer s H F args us Q E p hr hpin hz hf e0 hb r sf post => ?_⟩
  have hl : ([V.ref p.1] : List V).length = (["e"] : List Str).length := rfl
  have KX : K.In s.heap := e0.mod.kin.keeps fun b o e => (e0.bs b o e).1
  have lim : s.heap.NoLimit := e0.mod.nolimit.keeps fun b o e => (e0.bs b o e).1
  have hkind : ∀ y ∈ (["e"] : List Str).zip us, scope.names.lookup y.1 = some .local ∨ (scope.names.lookup y.1 = some .cell ∧ ((cellsFrom (s.heap.objs.size + 1) scope.names []).lookup y.1).isSome = true) := fun ⟨n, v⟩ hy => by
    rcases S.par n (List.of_mem_zip hy).1 with q | q
    · exact .inl q
    · exact .inr ⟨q, PySem.W.cellsFrom_some _ _ _ (.inl q)⟩
  refine codeAny_call_function hr.depth (KX _ _ lk) rfl S.co S.gen rfl (PySem.W.codeRec_of KX hcd) (hb _ _ _ _ ?_)
  refine wpAny_newFunctionEnv_cells S.kind hkind fun env he s1 x => ?_
  subst he
  refine ⟨lim.keeps x.toInCall.keep, codeAny_func ?_⟩
  have I : Inv (L2H.cxH (L2.CX P w) P w K mg base ["e", "kinds"] qual scope f cdv A outer s H E p) [] (L2.start ["e", "kinds"] [V.ref p.1]) H s1 := L2H.inv_startH S hpin e0 hl r x
  have R := hbody (L2H.cxH (L2.CX P w) P w K mg base ["e", "kinds"] qual scope f cdv A outer s H E p) p rfl rfl rfl rfl rfl ⟨rfl, S.nd, rfl, S.kind⟩ (fun _ => rfl) (List.mem_singleton.mpr rfl) hz hf
  have st : StR K F H F H (L2.start ["e", "kinds"] [V.ref p.1]) [.rf p.1, .no] := by
    refine ⟨.refl sf, rfl, fun i t e => ?_, fun i j a ⟨t, e, mt⟩ _ _ _ => ?_⟩
    · match i, e with
      | 0, e => cases e; rfl
      | 1, e => cases e; trivial
    · match i, e with
      | 0, e => cases e; cases mt
      | 1, e => cases e; cases mt
  have RB := R F H F H _ { nx := fun _ H' => Q .non H', rt := Q } st post
  refine wpAny_mono (RB [] s1 I) (fun fl s' hs => ?_) fun e s' hs => hs
  have fin : ∀ {σ' : L2.St} {H' : Hp} {v : V} {u : Value}, Inv (L2H.cxH (L2.CX P w) P w K mg base ["e", "kinds"] qual scope f cdv A outer s H E p) [] σ' H' s' → RelV v u → Q v H' → CE outer P w H s Q u s' :=
    fun {σ' H' v u} J rv q => ⟨v, H', J.os, J.bare, J.base, J.hok, rv, q⟩
  cases fl with
  | ret u =>
    obtain ⟨v, σ', H', J, rv, q⟩ := hs
    exact fin J rv q
  | next =>
    obtain ⟨σ', H', J, q⟩ := hs
    exact fin (v := V.non) (u := Value.none) J rfl q
  | brk =>
    obtain ⟨_, _, _, q⟩ := hs
    exact False.elim q
  | cont =>
    obtain ⟨_, _, _, q⟩ := hs
    exact False.elim q
def KndG (P : Program) (w : World) (K : PySem.W.Frag) (mg : Str → Option Value) (base : Heap) (k : Nat) (D : Addr) (l : List Nat) : Prop :=
  ∃ f fd, FnK P w K mg base k f fd D l ∧ mg "_law_kind" = some (.ref f) ∧ PySem.W.keepIn K (.ref f) = true ∧ Binds K fd ["e"] []
theorem WhS.roomS {X : Cx} {N : List Str} {sc : Scope} {k : Nat} (A : WhS X N sc k) {a : Addr} {pn : List (Addr × Obj)} : L2H.RoomH k (X.suite a pn).A := ⟨A.room.dp, A.room.un⟩
/-- .. called in the suite -/
theorem ev_kind {X : Cx} {N : List Str} {sc : Scope} {k kf i : Nat} {D : Addr} {l : List Nat} {x : Str} {ds : Sls} {q : Addr × Obj} {p p1 pos : Pos} (A : Wh0 X N sc) (hr : L2H.RoomH k X.A) (G : KndG X.prog X.w X.K X.mg X.base kf D l) (hk : kf ≤ k) (hq : q ∈ X.pn) (hz : Zc (.ref D) none q.2) (hf : ∃ vs, q.2.data = .fields vs)
    (hi : N[i]? = some x) (hv : Vis sc x) (h : ds[i]? = some (.rf q.1)) (hg : GlS sc "_law_kind") (hd : (x == ("__debug__" : Str)) = false := by decide) (hcd : (x == ("__classdict__" : Str)) = false := by decide)
    (he : starEach (.Name x p1 :: []) X.env = (false, eval (.Name x p1) X.env) :: starEach [] X.env := by rfl) (hpl : (backTo pos (starEach [] X.env)).any (·.1) = false := by rfl) :
    EvE X (.Call (.Name "_law_kind" p) [.Name x p1] [] pos) ds (sD l) := fun F0 H0 F H σ st Q w pins s I => by
  obtain ⟨f, fd, F1, hm, hkp, hb⟩ := G
  have e1 := st.at_ i _ h
  refine wpAny_Call_Name_kw (ld_glob I (A.gl hg) hm ?_ (by decide))
  have ha : PA X [.Name x p1] (tCons (tVar i) tNil) := pa_cons (pe_var (i := i) (by rw [A.hN]; exact hi) (by rw [A.hsc]; exact hv) hd hcd) pa_nil he
  refine PySem.W.callWith_K (h₀ := X.base) I.ok.mod.kin hkp (thn (ha.run pos pins s σ H (fun vs H1 => vs = [V.ref q.1] ∧ H = H1) I ⟨_, e1, rfl, rfl⟩) fun us s1 hh => ?_) he hpl
  obtain ⟨vs, H1, I1, r1, ev, eH⟩ := hh
  subst ev
  subst eH
  refine ⟨I1.kIn, ?_⟩
  have b := hb s1 us I1.kIn (by rw [List.append_nil, ← r1.length]; rfl)
  rw [List.append_nil] at b
  have P1 := I1.pin q (List.mem_append_left _ hq)
  have hpin : L2H.PinOk X.stack H s1 q := ⟨P1.1, P1.2.1, fun hm => (List.mem_cons.mp (I1.stkSub q.1 hm)).elim P1.2.2.1 P1.2.2.2.1, P1.2.2.2.2⟩
  refine wpAny_call (codeAny_mono (F1.run X.A X.stack s1 H F ⟨us, []⟩ us Q (fun _ _ _ => False) q ⟨Nat.lt_of_le_of_lt (by omega) hr.dp, Nat.lt_of_le_of_lt (by omega) hr.un⟩ hpin hz hf I1.env0 b r1 st.fh (fun v F' H' x r => w v F' H' x r)) fun r s' hq => ?_)
  cases r with
  | error e =>
    obtain ⟨_, _, _, _, _, _, _, _, _, _, _, _, z⟩ := hq
    exact z.elim
  | ok fl =>
    cases fl with
    | ret u => exact I1.after hq
    | next => exact False.elim hq
    | brk => exact False.elim hq
    | cont => exact False.elim hq
end Vs

/-! Lists of any home put together; a choice of two new lists. -/
namespace Vs
open PySem PySem.Spec PyProof.Rows L2
def rCatL (K : PySem.W.Frag) : R2 := fun x y H Q => ∃ (l b : Addr) (xs zs : List V), x = .ref l ∧ y = .ref b ∧ SqL K H l xs ∧ SqL K H b zs ∧ xs.length + zs.length ≤ sizeLine ∧ ∀ p, H p = none → Q (.ref p) (upd H p (.lst (xs ++ zs)))
theorem op_catL {X : Cx} : OpR X (binaryOp .Add) (rCatL X.K) := by
  intro pins s σ H x y v u Q I rx ry h
  obtain ⟨l, b, xs, zs, rfl, rfl, hH, hB, hz, q⟩ := h
  cases rx
  cases ry
  obtain ⟨its, r1, pl1, z1⟩ := I.list hH
  obtain ⟨its2, r2, pl2, z2⟩ := I.list hB
  obtain ⟨⟨cls, dd, data, sl⟩, ho, hc, n, hd⟩ := id pl1.isList
  obtain ⟨⟨cls2, dd2, data2, sl2⟩, ho2, hc2, n2, hd2⟩ := id pl2.isList
  simp only at hc hd hc2 hd2
  subst hc hd hc2 hd2
  have ea : its.toArray ++ its2.toArray = (its ++ its2).toArray := by simp
  have g1 := r1.length
  have g2 := r2.length
  refine concat_meets ⟨_, ho, rfl⟩ ⟨_, ho2, rfl⟩ noFill_list_add seq_list_add PySem.F.slot_list_add PySem.F.entry_list_add (PySem.F.args_list_add_2 _ _) (list_addW l b its.toArray its2.toArray n n2 dd dd2 sl sl2 (by rw [List.size_toArray, List.size_toArray]; omega)) ⟨ho, ho2, ?_⟩
  rw [ea]
  exact ⟨.ref _, _, I.lnew (t' := s.toks) (r1.append r2) (by rw [List.length_append]; omega), rfl, q _ I.fresh⟩
section
variable {X : Cx} {ds : Sls} {xs ys : List D} {e a b c : Expr} {pos : Pos} {t1 : Bool} {α : Type} {enc : α → D} {ts t2 : List α}
theorem evn_catV (ha : EvE X a ds (.list xs)) (hb : EvE X b ds (.list ys)) (hl : xs.length + ys.length ≤ sizeLine) : EvN X (.BinOp a .Add b pos) ds (xs ++ ys) := fun F0 H0 F H σ s Q q =>
  toE (pe_op op_catL wpE_pe wpE_pe) (ev2 ha hb s fun v1 v2 F' H' x r1 r2 => by
    obtain ⟨p, vs, rfl, h1, n1⟩ := rp_lst.mp r1
    obtain ⟨p', ws, rfl, h2, n2⟩ := rp_lst.mp r2
    exact ⟨p, p', vs, ws, rfl, rfl, x.fh.seq h1, x.fh.seq h2, by rw [dpAll_len n1, dpAll_len n2]; exact hl, fun l hl => q l _ F' _ (x.trans (.newO x.fh hl)) (x.h.free hl) (x.fh.free hl) upd_same (dpAll_append n1 n2)⟩)
theorem evn_catVM (ha : EvE X a ds (.list (ts.map enc))) (hb : EvE X b ds (.list (t2.map enc))) (hl : ts.length + t2.length ≤ sizeLine) : EvN X (.BinOp a .Add b pos) ds ((ts ++ t2).map enc) := (evn_catV ha hb (by rw [List.length_map, List.length_map]; exact hl)).cast (by rw [List.map_append])
theorem evn_ifT (hc : EvT X c ds t1) (e : t1 = true) (ha : EvN X a ds xs) : EvN X (.IfExp c a b pos) ds xs := fun F0 H0 F H σ s Q q =>
  toE (pe_ifExp wpT_pt wpE_pe wpE_pe) (hc F0 H0 F H σ s _ fun F' H' x => by
    rw [if_pos e]; exact ha F0 H0 F' H' σ (s.to x) Q fun p vs F2 H2 x2 n1 n2 n3 n4 => q p vs F2 H2 (x.trans x2) (x.h.free n1) n2 n3 n4)
theorem evn_ifF (hc : EvT X c ds t1) (e : t1 = false) (hb : EvN X b ds xs) : EvN X (.IfExp c a b pos) ds xs := fun F0 H0 F H σ s Q q =>
  toE (pe_ifExp wpT_pt wpE_pe wpE_pe) (hc F0 H0 F H σ s _ fun F' H' x => by
    rw [if_neg (by rw [e]; decide)]; exact hb F0 H0 F' H' σ (s.to x) Q fun p vs F2 H2 x2 n1 n2 n3 n4 => q p vs F2 H2 (x.trans x2) (x.h.free n1) n2 n3 n4)
end
end Vs

/-! An error out of a comprehension. -/
namespace Vs
open L2 PySem PySem.Spec PyProof.Rows
theorem hide_sub {B : Heap} {cs : List Addr} {b : Addr} (h : B.get? b = none) : (PySem.W.hideAll B cs).get? b = none := by
  cases q : (PySem.W.hideAll B cs).get? b with
  | none => rfl
  | some o => rw [PySem.W.of_hideAll _ q] at h; cases h
theorem hide_frames {h B : Heap} {cs : List Addr} : ∀ {l : List Env}, h.FunFrames B l → h.FunFrames (PySem.W.hideAll B cs) l
  | [], _ => trivial
  | _ :: _, ⟨k, ⟨L, o, e1, e2, e3⟩, r⟩ => ⟨k, ⟨L, o, e1, hide_sub e2, e3⟩, hide_frames r⟩
section
variable {X : Cx} {W : WX} {pins pins2 : List (Addr × Obj)} {σ σ8 : L2.St} {H3 H9 : Hp} {s3 sx s' : Shared} {scope : Scope} {ce : Env} {fp : List Addr} {xe : Value → Shared → Prop} {E' : XK} {u : Value}
theorem comp_fails (hs : X.stack = X.env :: X.outer) (hf : X.env.frame = some X.env.locals) (hcf : ce.frame = X.env.frame) (hC : ce.locals = s3.heap.objs.size) (I3 : Inv X pins σ H3 s3) (J : Inv ((X.blk s3 H3 scope ce fp).wish xe) pins2 σ8 H9 sx)
    (hfp : ∀ b ∈ fp, (b ∈ X.ex ∨ X.s_0.heap.objs.size ≤ b) ∧ b ≠ X.env.locals ∧ (∀ x c, X.env.cells.lookup x = some c → c ≠ b) ∧ ∀ p ∈ X.pn ++ pins, p.1 ≠ b) (tk : Takes X W) (c : L2.CX X.prog X.w X.stack H9 sx E' u s') (hW : ∀ cls d H', E' cls d H' → W cls d σ H') :
    notedBy (model X.prog X.w) X.A ce (CompFails (model X.prog X.w) X.A X.xe ce) u s' := by
  obtain ⟨a, B, H', cls, d, rfl, fl, hokB, uB, na, os, ag, hE⟩ := c
  have hfr : X.A.frames = some (X.env :: X.outer) := by rw [I3.ok.frames, hs]
  obtain ⟨m, hns, _⟩ := J.loc
  have hns : sx.heap.Ns ce.locals m := hns
  have nC9 : H9 ce.locals = none := J.free
  have frm : ∀ b, b ∈ frs X.stack → ∃ o, s3.heap.get? b = some o ∧ ∀ vs, o.data ≠ .fields vs := fun b hb => (J.ok.funs.mem (show b ∈ _ from hb)).2
  have nFr : ce.locals ∉ frs X.stack := fun hb => by
    obtain ⟨o, e, _⟩ := frm _ hb
    have := Heap.lt_size e
    rw [hC] at this
    exact absurd this (Nat.lt_irrefl _)
  have old : ∀ b o, s3.heap.get? b = some o → b ≠ ce.locals := fun b o e z => by
    have := Heap.lt_size e
    rw [z, hC] at this
    exact absurd this (Nat.lt_irrefl _)
  obtain ⟨oC, es, ep, hoC, hdC, hrC⟩ := id hns
  have hBC : B.get? ce.locals = some oC := uB.keep _ _ hoC nC9 nFr
  have ns' : s'.heap.Ns ce.locals m := ⟨oC, es, ep, fl.1 _ _ hBC, hdC, hrC⟩
  have hidC : (PySem.W.hideAll B [ce.locals]).get? ce.locals = none := PySem.W.hideAll_none _ (List.mem_singleton.mpr rfl)
  have hidN : ∀ {b o}, (PySem.W.hideAll B [ce.locals]).get? b = some o → b ≠ ce.locals := fun e z => by rw [z, hidC] at e; cases e
  have hidS : ∀ {b o}, B.get? b = some o → b ≠ ce.locals → (PySem.W.hideAll B [ce.locals]).get? b = some o := fun e n => PySem.W.hideAll_get _ e (fun z => n (List.mem_singleton.mp z))
  have fl' : HandSPX.FlyingZ (PySem.W.hideAll B [ce.locals]) (X.env :: X.outer) a (Zc cls d) s'.heap := by
    obtain ⟨f1, f2, f3, ob, vs, T, oT, ts, hea, hza, hda, h1, hTn, r⟩ := fl
    rw [← hs]
    exact ⟨fun b o e => f1 b o (PySem.W.of_hideAll _ e), hide_sub f2, hide_frames f3, ob, vs, T, oT, ts, hea, hza, hda, h1, hide_sub hTn, r⟩
  show wpAny _ _ (noteFrame (.ref a) ce) _ _ s'
  rw [noteFrame_env _ hcf]
  refine HandSPX.looks_onZ Zc.steady hfr hf fl' fun h1 hh up1 => ?_
  have hn1 : h1.Ns ce.locals m := Heap.Ns.upToSlots ns' up1
  refine ⟨m, hn1, fun h2 m2 hn2 sb => ?_⟩
  obtain ⟨k1, k2, k3, ob, vs, T, oT, ts, hea, hza, hda, h1a, hTn, hTa, hTo, hTd, hfl⟩ := hh
  have neC : ∀ {b : Addr} {o : Obj} {us : Array Value}, h1.get? b = some o → o.data = .fields us → b ≠ ce.locals := fun {b o us} e q z => by
    obtain ⟨oC1, es1, ep1, ho1, hd1, _⟩ := hn1
    rw [z, ho1] at e
    cases e
    rw [hd1] at q
    cases q
  have he2 : h2.get? a = some ob := (sb.2 a (neC hea hda)).trans hea
  have hT2 : h2.get? T = some oT := (sb.2 T (neC hTo hTd)).trans hTo
  have st2 : (PySem.W.hideAll B [ce.locals]).StaysIn h2 := fun b o e => (sb.2 b (hidN e)).trans (k1 b o e)
  unfold PySem.passOn
  refine wpAny_bind (wpAny_field he2 hda h1a ?_)
  rw [if_neg (show ¬ ((Value.ref T == Value.none) = true) from by simp), hcf, hf]
  have fin : wpAny (model X.prog X.w) X.A (setFlight (.ref a) (some X.env.locals)) (fun _ s4 => wpAny (model X.prog X.w) X.A (throw (.ref a) : Sem Value) (fun _ _ => False) X.xe s4) X.xe { s' with heap := h2 } := by
    refine HandSPX.setFlight_anyZ (fr := some X.env.locals) st2 (Heap.FunFrames.sameBut sb hn2 k3) ⟨ob, vs, T, oT, ts, he2, hza, hda, h1a, hTn, hTa, hT2, hTd, hfl⟩ fun h4 j1 j2 j3 up4 => wpAny_throw (tk _ _ ?_)
    have to4 : ∀ b o, s'.heap.get? b = some o → (∀ vs, o.data ≠ .fields vs) → b ≠ ce.locals → ∃ sl, h4.get? b = some { o with slots := sl } := fun b o e nf n => by
      obtain ⟨sl, e1⟩ := up1 b o e nf
      obtain ⟨sl2, e2⟩ := up4 b _ ((sb.2 b n).trans e1) nf
      exact ⟨sl2, e2⟩
    obtain ⟨G, g1, g2⟩ := restrict h4 fun b => ((PySem.W.hideAll B [ce.locals]).get? b).isSome || decide (b ∈ frs X.stack)
    have gB : ∀ b o, (PySem.W.hideAll B [ce.locals]).get? b = some o → G.get? b = some o := fun b o e => by
      rw [g1 b (by simp [e])]
      exact j1 b o e
    have gF : ∀ b, b ∈ frs X.stack → G.get? b = h4.get? b := fun b hb => g1 b (by simp [hb])
    have og : ∀ b o, G.get? b = some o → h4.get? b = some o ∧ (((PySem.W.hideAll B [ce.locals]).get? b).isSome = true ∨ b ∈ frs X.stack) := fun b o e => by
      cases q : (((PySem.W.hideAll B [ce.locals]).get? b).isSome || decide (b ∈ frs X.stack)) with
      | false => rw [g2 b q] at e; cases e
      | true =>
        rw [g1 b q] at e
        exact ⟨e, by simpa [Bool.or_eq_true] using q⟩
    have slot4 : ∀ b o, s3.heap.get? b = some o → b ∈ frs X.stack → H3 b = none → b ∉ fp → ∃ sl, G.get? b = some { o with slots := sl } := fun b o e hb n hx => by
      obtain ⟨sl, e1⟩ := J.base.slot b o e n hb hx
      obtain ⟨sl2, e2⟩ := uB.slot b _ e1 hb
      have nf : ∀ vs, o.data ≠ .fields vs := by
        obtain ⟨o', e', nf⟩ := frm b hb
        rw [e] at e'; cases e'
        exact nf
      obtain ⟨sl3, e3⟩ := to4 b _ e2 nf (old b o e)
      exact ⟨sl3, by rw [gF b hb]; exact e3⟩
    have un : Un (frs X.stack) fp H3 H' s3.heap G := by
      refine ⟨fun b o e n hb hx => ?_, fun b o e n hb hx => slot4 b o e hb n hx, fun b o e n hx => ?_, fun b o e hx => ?_, fun b xs e => uB.tups b xs (J.base.tups b xs e), fun b o xs e => uB.frzs b o xs (J.base.frzs b o xs e), fun b ps e => ?_⟩
      · exact gB b o (hidS (uB.keep b o (J.base.keep b o e n hb hx) (J.base.free b o e n hx) hb) (old b o e))
      · obtain ⟨o1, e1⟩ := J.base.there b o e hx
        exact uB.free b o1 e1 (J.base.free b o e n hx)
      · obtain ⟨o1, e1⟩ := J.base.there b o e hx
        by_cases hb : b ∈ frs X.stack
        · obtain ⟨sl2, e2⟩ := uB.slot b _ e1 hb
          obtain ⟨o', e', hn'⟩ := fl.2.2.1.mem hb |>.2
          rw [e2] at e'
          cases e'
          obtain ⟨sl3, e3⟩ := to4 b _ e2 hn' (old b o e)
          exact ⟨_, by rw [gF b hb]; exact e3⟩
        · obtain ⟨o', q⟩ := uB.there b o1 e1 hb
          exact ⟨o', gB b o' (hidS q (old b o e))⟩
      · obtain ⟨m1, q1⟩ := J.base.tbls b ps e
        obtain ⟨m2, q2⟩ := uB.tbls b _ q1
        exact ⟨m1 ++ m2, by rw [q2, Array.append_assoc]⟩
    have nC' : H' ce.locals = none := uB.free _ _ hoC nC9
    have hokG : HOk X.prog X.w H' G := fun b o e => (hokB b o e).stay (fun x v hx q => gB x v (hidS q (fun z => by
      rw [z] at hx
      rcases hx with hx | hx
      · rw [← hx, nC'] at e; cases e
      · rw [nC'] at hx; cases hx))) (fun _ q => q) (fun _ _ q => q)
    have I5 : Inv X pins σ H' { s3 with heap := G, gens := s'.gens, drawn := s'.drawn, toks := s'.toks } := I3.call' (ch := fp) rfl un hokG ag hfp
    refine ⟨a, PySem.W.hideAll B [ce.locals], _, pins, σ, H', cls, d, rfl, I5, fun b o e hb => ?_, Heap.UpToSlots.of_keeps fun b o e => (og b o e).1, .inr (.inr ⟨j1, k2, by rw [hs]; exact j2, j3⟩), na, os.trans J.os, ag, hW _ _ _ hE⟩
    obtain ⟨e', h⟩ := og b o e
    rcases h with h | h
    · obtain ⟨o', q⟩ := Option.isSome_iff_exists.mp h
      have z := j1 b o' q
      rw [e'] at z; cases z
      exact q
    · exact absurd h hb
  first
    | exact wpAny_bind (wpAny_pure (wpAny_bind fin))
    | exact wpAny_bind fin
end
/-! ### an element that raises -/
/-- a block of a comprehension, whatever is wished of errors there -/
def BlkE (X : Cx) (scope : Scope) (X' : Cx) : Prop := ∃ (s : Shared) (H : Hp) (C : Addr) (cl : List (Str × Addr)) (fp : List Addr) (xe : Value → Shared → Prop), X' = (X.blk s H scope (compEnvC scope cl C X.env) fp).wish xe
section
variable {X : Cx} {W : WX} {N ps : List Str} {sc scope : Scope} {k kf m : Nat} {ds : Sls} {d : D} {as xs : List D} {e elt iter : Expr} {es : List Expr} {pos p : Pos} {x : Str} {S' : List D → Out → Prop} {c : Value}
theorem Wh.blkE {X' : Cx} (A : Wh X N sc k) (h : BlkE X scope X') (hk : scope.kind = .function := by rfl) : Wh X' N (relS scope sc) k := by
  obtain ⟨s, H, C, cl, fp, xe, rfl⟩ := h
  refine ⟨⟨A.hN, A.nd, ?_, hk⟩, A.calm, A.room⟩
  rw [← A.hsc]
  rfl
theorem FnG.blkE {X' : Cx} (G : FnX X kf x ps S') (h : BlkE X scope X') : FnX X' kf x ps S' := by
  obtain ⟨s, H, C, cl, fp, xe, rfl⟩ := h
  exact G
/-- e raises c by a call -/
def EvXB (X : Cx) (e : Expr) (ds : Sls) (c : Value) : Prop := ∀ (F0 H0 F H : Hp) (σ : L2.St), StR X.K F0 H0 F H σ ds →
  (∀ (pins : List (Addr × Obj)) (H2 : Hp) (s : Shared) (u : Value) (s' : Shared), Inv X pins σ H2 s → L2.CX X.prog X.w X.stack H2 s (fun cls d H3 => cls = c ∧ d = none ∧ ∃ F3, Ext F H F3 H3) u s' → X.xe u s') → ∀ Q : VK, wpE X e σ H Q
theorem evxb_call (A : Wh X N sc k) (G : FnX X kf x ps S') (hk : kf ≤ k) (hg : GlS sc x) (ha : EvA X (e :: es) ds as) (hs : S' as (.ex c)) (hdb : (x == ("__debug__" : Str)) = false := by decide) (he : starEach (e :: es) X.env = (false, eval e X.env) :: starEach es X.env := by rfl) (hpl : (backTo pos (starEach es X.env)).any (·.1) = false := by rfl) :
    EvXB X (.Call (.Name x p) (e :: es) [] pos) ds c := fun F0 H0 F H σ s hx Q => by
  obtain ⟨f, fd, h1, h2, h3, h4⟩ := G
  refine toE (pe_callS (E := fun σ' cls d H3 => σ' = σ ∧ cls = c ∧ d = none ∧ ∃ F3, Ext F H F3 H3) h1 (A.room.mono hk) (A.gl hg) h2 h3 h4 (fun σ' pins H2 s2 u s' I q => ?_) wpA_pa hdb he hpl) ?_
  · obtain ⟨a, B, H', cls, d, r1, r2, r3, r4, r5, r6, r7, rfl, r8⟩ := q
    exact hx pins H2 s2 u s' I ⟨a, B, H', cls, d, r1, r2, r3, r4, r5, r6, r7, r8⟩
  · exact ha F0 H0 F H σ s _ fun vs F' H' x r1 => ⟨F', as, .ex c, x.fh, r1, hs, fun F2 H2 x2 => ⟨rfl, rfl, rfl, F2, x.trans x2⟩⟩
/-- [elt for x in iter], where an item's element raises -/
theorem noted_err {M : Model} {A : Around} {E : Value → Shared → Prop} {ce : Env} {use : Option (Value → Sem Unit)} {Q : Value → Shared → Prop} {acc u : Value} {s' : Shared} (h : notedBy M A ce (CompFails M A E ce) u s') : notedBy M A ce (fun e s' => compEnds M A E use Q acc ce (.error e) s') u s' := by
  cases use <;> exact h
theorem lcx_core {α : Type} {l : List α} {enc : α → D} (P : α → Prop) (m : Nat) (A : WhS X N sc k) (tk : Takes X W) (L : LcOk N sc scope x m ds.length) (hI : EvI X (.Name x p) iter ds (l.map enc))
    (hgd : ∀ a, a ∈ l → P a → ∀ X', BlkE X scope X' → ∃ d, EvE X' elt ((wipeD ds [m]).set m (.va (enc a))) d) (hbd : ∀ a, a ∈ l → ¬ P a → ∀ X', BlkE X scope X' → EvXB X' elt ((wipeD ds [m]).set m (.va (enc a))) c)
    (hex : ∃ a ∈ l, ¬ P a) (hl : l.length ≤ sizeLine) (hs : ∀ x, foldedSetIterable iter X.env x = pure x) {F0 H0 F H : Hp} {σ : L2.St} (st : StR X.K F0 H0 F H σ ds) (w : ∀ F' H', Ext F H F' H' → W c none σ H') (use : Option (Value → Sem Unit)) (Q : Value → Shared → Prop) (pos' : Pos) {pins : List (Addr × Obj)} {s : Shared} (I : Inv X pins σ H s) :
    wpAny (model X.prog X.w) X.A (comprehension (.ListComp elt [⟨.Name x p, iter, [], 0⟩] scope pos) scope X.env pos' (newList []) false (eval iter X.env) use) Q X.xe s := by
  obtain ⟨b, hbm, hnb⟩ := hex
  obtain ⟨i1, hi1, eb⟩ := List.getElem_of_mem hbm
  have hN : X.N.Nodup := by rw [A.hN]; exact A.nd
  have bok : BlkOk X.N X.env.scope scope [(x, m)] := blkOk_by (by rw [A.hN, A.hsc]; exact L.blk)
  have hfr0 : ∀ y ∈ scope.names, y.2 = .free → ∃ c, X.env.cells.lookup y.1 = some c := fun y hy e => (bok.free y hy e).elim (fun k => I.ok.has _ (.inl k)) (fun k => I.ok.has _ (.inr k))
  refine comprehension_at (use := use) rfl hs (closure_ok hfr0) bok.kind (fun y hy e => by rw [bok.uniq y hy, e]) (thn ((wpI_pi (X := X)).run pins s σ H (fun J H1 => ∃ F1, Ext F H F1 H1 ∧ Wk X.K J F1 (l.map enc)) I (hI F0 H0 F H σ st _ fun J F1 H1 x1 wk => ⟨F1, x1, wk⟩)) fun xv s1 hx => thn hx fun itv sh2 h2 => ?_)
  obtain ⟨it, fp, tn, J, H2, e, J2, T, tn2, fp2, F1, x1, wk⟩ := h2
  subst e
  refine wpAny_newObj_type (newEnv_comp ?_) (Nat.zero_le _)
  generalize hD : sh2.heap.objs.size = D0; have hDn : H2 D0 = none := J2.hok.fresh (Nat.le_of_eq hD)
  generalize es3 : ({ sh2 with heap := sh2.heap.push { cls := .type "list", data := .seq ([] : List Value).toArray } } : Shared) = sh3
  have eh3 : sh3.heap = sh2.heap.push { cls := .type "list", data := .seq ([] : List Value).toArray } := by rw [← es3]
  have J3 : Inv X pins σ (upd H2 D0 (.lst [])) sh3 := by
    rw [← es3]; refine J2.laid (t' := sh2.toks) (fun b o e => Heap.get?_push_of_some _ e) (Nat.le_of_eq hD) ⟨Nat.zero_le _, [], 0, .nil, ?_⟩
    rw [← hD]; exact Heap.get?_push_size _ rfl
  have fp3 : ∀ b ∈ fp, FpOk X pins (upd H2 D0 (.lst [])) b ∧ b < sh3.heap.objs.size := fun b hb => by
    have hlt : b < sh2.heap.objs.size := by obtain ⟨o, e, _⟩ := T.obj _ _ tn2 b hb; exact Heap.lt_size e
    refine ⟨⟨?_, (fp2 b hb).2⟩, by rw [eh3, Heap.size_push]; exact Nat.lt_succ_of_lt hlt⟩
    rw [upd_ne (by rw [← hD]; exact Nat.ne_of_lt hlt)]; exact (fp2 b hb).1
  have tn3 : tn 0 sh3.heap := T.keep _ _ _ tn2 fun b _ o e => by rw [eh3]; exact Heap.get?_push_of_some _ e
  show codeAny _ _ (.compStart (.ListComp elt [⟨.Name x p, iter, [], 0⟩] scope pos) 0 (.ref it) (.ref D0) (compEnvC scope (cellsFrom (sh3.heap.objs.size + 1) scope.names (cloFrom X.env.cells scope.names [])) sh3.heap.objs.size X.env)) (compEnds (model X.prog X.w) X.A X.xe use Q (.ref D0) (compEnvC scope (cellsFrom (sh3.heap.objs.size + 1) scope.names (cloFrom X.env.cells scope.names [])) sh3.heap.objs.size X.env)) { sh3 with heap := pushCells (sh3.heap.push { cls := .type "dict", data := .dict #[] }) scope.names }
  have J4 := block_start J3 bok hN fp3
  have bE : ∀ xe, BlkE X scope ((X.blk sh3 (upd H2 D0 (.lst [])) scope (compEnvC scope (cellsFrom (sh3.heap.objs.size + 1) scope.names (cloFrom X.env.cells scope.names [])) sh3.heap.objs.size X.env) fp).wish xe) := fun xe => ⟨_, _, _, _, _, xe, rfl⟩
  have hcf : (compEnvC scope (cellsFrom (sh3.heap.objs.size + 1) scope.names (cloFrom X.env.cells scope.names [])) sh3.heap.objs.size X.env).frame = X.env.frame := rfl
  have nofp : ∀ b ∈ fp, (upd H2 D0 (.lst [])) b = none := fun b hb => (fp3 b hb).1.1
  generalize hce : compEnvC scope (cellsFrom (sh3.heap.objs.size + 1) scope.names (cloFrom X.env.cells scope.names [])) sh3.heap.objs.size X.env = ce at J4 bE hcf ⊢
  have ceL : ce.locals = sh3.heap.objs.size := by subst hce; rfl
  generalize hH3 : upd H2 D0 (.lst []) = H3 at J3 J4 bE nofp fp3
  generalize es4 : ({ sh3 with heap := pushCells (sh3.heap.push { cls := .type "dict", data := .dict #[] }) scope.names } : Shared) = sh4 at J4 ⊢
  have tn4 : tn 0 sh4.heap := T.keep _ _ _ tn3 fun b _ o e => by rw [← es4]; exact pushCells_keeps _ _ _ _ (Heap.get?_push_of_some _ e)
  -- the block's context, with what becomes of an error there
  let XE := (X.blk sh3 H3 scope ce fp).wish (notedBy (model X.prog X.w) X.A ce fun e s' => compEnds (model X.prog X.w) X.A X.xe use Q (.ref D0) ce (.error e) s')
  have bX : BlkE X scope XE := bE _
  have J5 : Inv XE [] (L2.wipe σ [m]) H3 sh4 := J4.wish _
  have stay : ∀ {σ' : L2.St} {H' : Hp} {s' : Shared}, Inv XE [] σ' H' s' → (∀ b ∈ fp, H' b = none) → ∀ b ∈ fp, FpOk XE [] H' b := fun {σ' H' s'} I' hn b hb =>
    ⟨hn b hb, (I'.ok.exf b hb).1, I'.ok.exfs b hb, .inl hb, fun x c e => (I'.ok.exf b hb).2 x c e, fun p hp => nomatch (show p ∈ ([] : List (Addr × Obj)) ++ [] from hp)⟩
  have B : Wh XE N (relS scope sc) k := A.toWh.blkE bX L.kind
  have pg : PG XE (.Name x p) (gName m) := by
    have nl : ∀ kd : NameKind, kd ≠ .free → scope.names.lookup x = some kd → (relS scope sc).names.lookup x = some kd := fun kd h1 h2 => lookup_relS_keep h1 h2
    refine pg_name (by rw [B.hN]; exact B.nd) (by rw [B.hN]; exact L.at_) (by rw [B.hsc]; exact L.loc.imp (nl _ (by decide)) (nl _ (by decide))) ?_
    rcases L.loc with h | h
    · exact .inr (by rw [B.hsc]; exact nl _ (by decide) h)
    · exact .inl (by show (scope.names.lookup x == some .cell) = true; rw [h]; rfl)
  have len : (l.map enc).length = l.length := List.length_map _
  have x3 : Ext F1 H2 F1 H3 := by rw [← hH3]; exact .newO x1.fh hDn
  have loop : codeAny (model X.prog X.w) X.A (.compLoop (.ListComp elt [⟨.Name x p, iter, [], 0⟩] scope pos) 0 (.ref it) (.ref D0) ce) (compEnds (model X.prog X.w) X.A X.xe use Q (.ref D0) ce) sh4 := by
    refine compLoop_any (fun n s' => ∃ i H' F' vs, n = l.length - i ∧ i ≤ i1 ∧ Inv XE [] (L2.wipe σ [m]) H' s' ∧ tn i s'.heap ∧ (∀ b ∈ fp, H' b = none) ∧ Ext F1 H2 F' H' ∧ F' D0 = none ∧ H' D0 = some (.lst vs) ∧ vs.length ≤ i) ?_ l.length ⟨0, H3, F1, [], rfl, Nat.zero_le _, J5, tn4, nofp, x3, x1.fh.free hDn, by rw [← hH3]; exact upd_same, Nat.le_refl _⟩
    rintro n sh5 ⟨i, H5, F', vs, rfl, hii, J5, tn5, no5, x2, fD, hD5, hvs⟩
    have hlt : i < l.length := Nat.lt_of_le_of_lt hii hi1
    have sF : Same F1 H5 := x2.f.trans x2.fh
    have tIt := T.item XE rfl rfl rfl A.calm i [] sh5 _ H5 (fun _ _ => False) J5 (stay J5 no5) tn5 (wk.go H5 i sF (by rw [len]; exact hlt))
    refine thnF tIt fun r sh6 ⟨u, hr, hi6⟩ => ?_
    subst hr
    refine thnF hi6 fun _ sh7 ⟨xi, H7, J7, r7, y7, tn7, no7⟩ => ?_
    have K7 := J7.pinned (stay J7 no7) (T.obj _ _ tn7)
    have ed : (l.map enc)[i]? = some (enc l[i]) := by rw [List.getElem?_map, List.getElem?_eq_getElem hlt]; rfl
    obtain ⟨e2, dv⟩ := wk.yld H5 i xi H7 _ sF y7 ed
    subst e2
    have mem : l[i] ∈ l := List.getElem_mem hlt
    have sW : StR X.K F0 H0 F' H7 ((L2.wipe σ [m]).set m (some xi)) ((wipeD ds [m]).set m (.va (enc l[i]))) := (((st.to x1).to x2).wipe [m]).set (rp_of (dp_mono x2.f dv))
    have wEq : L2.wipe ((L2.wipe σ [m]).set m (some xi)) [m] = L2.wipe σ [m] := by
      show ((σ.set m none).set m (some xi)).set m none = σ.set m none
      rw [List.set_set, List.set_set]
    refine wpAny_mono (pg.run _ sh7 _ H7 xi u (fun σ8 H8 => σ8 = (L2.wipe σ [m]).set m (some xi) ∧ H8 = H7) K7 r7 ⟨rfl, rfl⟩) (fun _ sh8 h8 => ?_) (fun _ _ z => z)
    obtain ⟨σ8, H8, J8, rfl, rfl⟩ := h8
    refine wpAny_tests_nil ?_
    rw [if_pos rfl]
    have pin' : ∀ {s' : Shared} {H' : Hp}, Inv XE ([] ++ pinsAt fp sh7.heap) ((L2.wipe σ [m]).set m (some xi)) H' s' → ∀ b ∈ fp, ∀ o, sh7.heap.get? b = some o → s'.heap.get? b = some o ∧ H' b = none := fun I' b hb o e =>
      let z := I'.pin (b, o) (List.mem_append_right _ (List.mem_append_right _ (mem_pinsAt hb e))); ⟨z.1, z.2.1⟩
    by_cases hp : P l[i]
    · obtain ⟨d, he⟩ := hgd _ mem hp XE bX
      refine wpAny_mono (he F0 H0 F' H8 _ sW (fun y H4 => ∃ F4, Ext F' H8 F4 H4) (fun v F4 H4 x4 r4 => ⟨F4, x4⟩) _ sh8 J8) (fun z sh10 h10 => ?_) (fun _ _ z => z)
      obtain ⟨yv, H10, J10, r10, F4, x4⟩ := h10
      refine app_ok (X := XE) J10 (x4.h _ _ hD5) (by omega) r10 fun sh11 J11 => ?_
      have ne : i ≠ i1 := fun z => hnb (by subst z; rw [← eb]; exact hp)
      have fD4 : F4 D0 = none := x4.own D0 fD (by rw [hD5]; exact fun z => nomatch z)
      have x14 := x2.trans x4
      have hl8 : (L2.wipe σ [m]).length = ((L2.wipe σ [m]).set m (some xi)).length := (List.length_set ..).symm
      refine ⟨l.length - (i + 1), by omega, i + 1, _, F4, vs ++ [yv], rfl, by omega, (J11.unpinned (pins := [])).weak hl8 (fun j v e => ?_), T.keep _ _ _ tn7 fun b hb o e => (pin' J11 b hb o e).1, fun b hb => ?_, ?_, fD4, upd_same, by rw [List.length_append, List.length_singleton]; omega⟩
      · rw [← wEq] at e
        exact (wipe_some e).1
      · obtain ⟨o, e, _⟩ := T.obj _ _ tn7 b hb
        exact (pin' J11 b hb o e).2
      · exact ⟨x14.f, fun b o e => by rw [upd_ne (ne_of_none e hDn)]; exact x14.h b o e, fun b o e => by rw [upd_ne (ne_of_none e fD4)]; exact x14.fh b o e, x14.own⟩
    · refine wpAny_mono (hbd _ mem hp XE bX F0 H0 F' H8 _ sW (fun pins' H9 sx u' s'' J c => ?_) (fun _ _ => False) _ sh8 J8) (fun z sh10 h10 => ?_) (fun _ _ z => z)
      · exact noted_err (comp_fails A.stk A.frm hcf ceL J3 J (fun b hb => ⟨(fp3 b hb).1.2.2.2.1, (fp3 b hb).1.2.1, (fp3 b hb).1.2.2.2.2.1, (fp3 b hb).1.2.2.2.2.2⟩) tk c (fun cls d H' q => by
          obtain ⟨rfl, rfl, F3, x⟩ := q
          exact w F3 H' ((x1.trans x2).trans x)))
      · obtain ⟨_, _, _, _, z⟩ := h10
        exact z.elim
  exact (codeAny_compStart_list loop) (T.self X.A 0 _ _ _ tn4 loop)
theorem evx_lc {α : Type} {l : List α} {enc : α → D} (P : α → Prop) (m : Nat) (A : WhS X N sc k) (tk : Takes X W) (L : LcOk N sc scope x m ds.length) (hI : EvI X (.Name x p) iter ds (l.map enc))
    (hgd : ∀ a, a ∈ l → P a → ∀ X', BlkE X scope X' → ∃ d, EvE X' elt ((wipeD ds [m]).set m (.va (enc a))) d) (hbd : ∀ a, a ∈ l → ¬ P a → ∀ X', BlkE X scope X' → EvXB X' elt ((wipeD ds [m]).set m (.va (enc a))) c)
    (hex : ∃ a ∈ l, ¬ P a) (hl : l.length ≤ sizeLine) (hs : ∀ x, foldedSetIterable iter X.env x = pure x := by intro _; rfl) : EvX X W (.ListComp elt [⟨.Name x p, iter, [], 0⟩] scope pos) ds c := fun F0 H0 F H σ st w Q pins s I => by
  rw [eval_ListComp]
  exact lcx_core P m A tk L hI hgd hbd hex hl hs st w none _ _ I
theorem run_setLcX {y : Str} {py lpos : Pos} {α : Type} {l : List α} {enc : α → D} (P : α → Prop) (m : Nat) (A : WhS X N sc k) (tk : Takes X W) (hy : sc.names.lookup y = some .local) (L : LcOk N sc scope x m ds.length) (hI : EvI X (.Name x p) iter ds (l.map enc))
    (hgd : ∀ a, a ∈ l → P a → ∀ X', BlkE X scope X' → ∃ d, EvE X' elt ((wipeD ds [m]).set m (.va (enc a))) d) (hbd : ∀ a, a ∈ l → ¬ P a → ∀ X', BlkE X scope X' → EvXB X' elt ((wipeD ds [m]).set m (.va (enc a))) c)
    (hex : ∃ a ∈ l, ¬ P a) (hl : l.length ≤ sizeLine) (hline : (py.line == lpos.line) = true := by rfl) (hla : (scope.names.any fun (n, k) => n == y && (k == .local || k == .cell)) = false := by decide +kernel) (hs : ∀ x, foldedSetIterable iter X.env x = pure x := by intro _; rfl) :
    Run X W (.Assign [.Name y py] (.ListComp elt [⟨.Name x p, iter, [], 0⟩] scope lpos) pos) ds (.ex c) := fun F0 H0 F H σ E s q pins s1 I => by
  rw [exec_Assign_Name_used _ _ _ _ (sw_true (by rw [A.hsc]; exact A.kind) (by rw [A.hsc]; exact hy) hline hla)]
  refine (wpAny_bind (wpAny_standAt (wpAny_bind ?_)))
  show wpAny _ X.A (do let _ ← comprehension (.ListComp elt [⟨.Name x p, iter, [], 0⟩] scope lpos) scope X.env (firstIterPos [⟨.Name x p, iter, [], 0⟩] lpos) (newList []) false (eval iter X.env) (some (assign (.Name y py) X.env))) _ _ s1
  exact wpAny_bind (wpAny_mono (lcx_core P m A tk L hI hgd hbd hex hl hs s (fun F' H' x => q σ F' H' (s.to x).nos x.f) _ (fun _ _ => False) _ I) (fun _ _ z => z.elim) (fun _ _ z => z))
end
end Vs

/-! Errors whose context is None; a try whose suite raises another error, its clause a tuple of three classes. -/
namespace Vs
open L2 PySem PySem.Spec PyProof.Rows
/-- a def that lets out new errors alone -/
def FnN (P : Program) (w : World) (K : PySem.W.Frag) (mg : Str → Option Value) (base : Heap) (k : Nat) (x : Str) (ps : List Str) (S : List D → Out → Prop) : Prop :=
  ∃ f fd, FnOk P w K mg base (L2N.CX P w) k f fd ps (spD K S) ∧ mg x = some (.ref f) ∧ PySem.W.keepIn K (.ref f) = true ∧ Binds K fd ps []
abbrev FnXN (X : Cx) := FnN X.prog X.w X.K X.mg X.base
section
variable {P : Program} {w : World} {K : PySem.W.Frag} {mg : Str → Option Value} {base : Heap} {x : Str} {st : Stmt} {N ps : List Str} {k : Nat} {S' : List D → Out → Prop}
theorem FnN.toG (G : FnN P w K mg base k x ps S') : FnG P w K mg base k x ps S' := by
  obtain ⟨f, fd, F, h2, h3, h4⟩ := G
  refine ⟨f, fd, ⟨F.len, fun A outer s H args us vs Q E hr e0 b r h => codeAny_mono (F.run A outer s H args us vs Q E hr e0 b r h) fun r s' hq => ?_⟩, h2, h3, h4⟩
  cases r with
  | ok fl => cases fl <;> exact hq
  | error e =>
    obtain ⟨a, B, H', cls, d, r1, fl, r3⟩ := hq
    exact ⟨a, B, H', cls, d, r1, L2H.flyingZ_imp (fun o z => z.zc) fl, r3⟩
theorem fn_N (Df : DfG K mg x st ps) (Sc : FnScope N ps (defScope st)) (len : ∀ ds r, S' ds r → ds.length = ps.length)
    (body : ∀ (X : Cx) (W : WX), X.prog = P → X.w = w → X.K = K → X.mg = mg → X.base = base → WhS X N (defScope st) k → L2N.Takes X W → ∀ ds r, S' ds r → ∃ u, Fin u r ∧ RunB X W (defBody st) (startD N ds) u) :
    FnN P w K mg base (k + 1) x ps S' := by
  obtain ⟨f, fd, Fu, h2, h3⟩ := Df
  obtain ⟨oc, od, kV, doc, pm, an, cdv, ct, osl, rfl, lk, hcd⟩ := Fu.ex
  refine ⟨f, _, fn_of lk hcd Sc (fun vs H Q E h => ?_) (fun A outer s H vs Q E hr h => ?_), h2, Fu.kp, h3⟩
  · obtain ⟨F, ds, r, _, h1, h2, _⟩ := h
    rw [← rpAll_len h1]; exact len _ _ h2
  · obtain ⟨F, ds, r, sf, g1, g2, q⟩ := h
    refine ⟨_, wpB_pss, ?_⟩
    obtain ⟨u, fin, run⟩ := body (cxOf (L2N.CX P w) P w K mg base N x (defScope st) f cdv A outer s H E) (fun cls d σ H => E cls d H) rfl rfl rfl rfl rfl ⟨⟨⟨rfl, Sc.nd, rfl, Sc.kind⟩, rfl, hr⟩, passes_of rfl, fun _ => rfl, rfl, rfl⟩ (L2N.takes_of rfl rfl rfl rfl) ds r g2
    refine run F H F H _ _ (str_start sf g1) ?_
    rcases fin with rfl | ⟨ds', rfl, rfl⟩
    · cases u with
      | rt d => exact q
      | rn d => exact q
      | rm d => exact q
      | ex c => exact fun σ F' H' s' _ => q F' H' s'.ext
      | dn => exact q
      | r2 xs ys => exact q
      | _ => exact q.elim
    · exact fun σ F' H' s' _ => q _ F' H' s'.ext .non
/-- .. where a suite may raise, too -/
theorem fn_P (Df : DfG K mg x st ps) (Sc : FnScope N ps (defScope st)) (len : ∀ ds r, S' ds r → ds.length = ps.length)
    (body : ∀ (X : Cx) (W : WX), X.prog = P → X.w = w → X.K = K → X.mg = mg → X.base = base → (∀ hd : Option Value, PassesOwnAt (model X.prog X.w) (X.A.mark hd) X.A X.env X.xe) → WhS X N (defScope st) k → Takes X W → ∀ ds r, S' ds r → ∃ u, Fin u r ∧ RunB X W (defBody st) (startD N ds) u) :
    FnG P w K mg base (k + 1) x ps S' := by
  obtain ⟨f, fd, Fu, h2, h3⟩ := Df
  refine ⟨f, fd, Fu.okX Sc (fun vs H Q E h => ?_) fun cdv A outer s H vs Q E hr h => ?_, h2, Fu.kp, h3⟩
  · obtain ⟨F, ds, r, _, h1, h2, _⟩ := h
    rw [← rpAll_len h1]; exact len _ _ h2
  · obtain ⟨F, ds, r, sf, g1, g2, q⟩ := h
    refine ⟨_, wpB_pss, ?_⟩
    obtain ⟨u, fin, run⟩ := body (cxOf (L2.CX P w) P w K mg base N x (defScope st) f cdv A outer s H E) (fun cls d σ H => E cls d H) rfl rfl rfl rfl rfl (L2H.passesAt_of rfl) ⟨⟨⟨rfl, Sc.nd, rfl, Sc.kind⟩, rfl, hr⟩, passes_of rfl, fun _ => rfl, rfl, rfl⟩ (takes_of rfl rfl rfl rfl) ds r g2
    refine run F H F H _ _ (str_start sf g1) ?_
    rcases fin with rfl | ⟨ds', rfl, rfl⟩
    · cases u with
      | rt d => exact q
      | rn d => exact q
      | rm d => exact q
      | ex c => exact fun σ F' H' s' _ => q F' H' s'.ext
      | dn => exact q
      | r2 xs ys => exact q
      | _ => exact q.elim
    · exact fun σ F' H' s' _ => q _ F' H' s'.ext .non
end
section
variable {X : Cx} {W : WX} {N ps : List Str} {sc : Scope} {k kf : Nat} {ds : Sls} {d : D} {as xs : List D} {e a b : Expr} {es : List Expr} {pos p : Pos} {x m : Str} {S' : List D → Out → Prop} {c : Value}
theorem run_raiseN {C : Addr} {j : Nat} {p1 p2 : Pos} (A : Wh X N sc k) (tk : L2N.Takes X W) (c : ErrC X.K X.mg x C) (hg : GlS sc x) (hdb : (x == ("__debug__" : Str)) = false := by decide) : Run X W (.Raise (some (.Call (.Name x p) [.Constant (.str m) j p2] [] p1)) none pos) ds (.ex (.ref C)) := fun F0 H0 F H σ E s q =>
  toS (L2N.ps_raise A.calm tk (L2N.pmk_own PySem.F.excBase_ValueError c.ex c.gl c.kp (raises_own c.sub c.ty) (A.gl hg) hdb)) (q σ F H s.nos (Same.refl _))
theorem evx_callN (A : Wh X N sc k) (tk : L2N.Takes X W) (G : FnXN X kf x ps S') (hk : kf ≤ k) (hg : GlS sc x) (ha : EvA X (e :: es) ds as) (hs : S' as (.ex c)) (hdb : (x == ("__debug__" : Str)) = false := by decide) (he : starEach (e :: es) X.env = (false, eval e X.env) :: starEach es X.env := by rfl) (hpl : (backTo pos (starEach es X.env)).any (·.1) = false := by rfl) :
    EvX X W (.Call (.Name x p) (e :: es) [] pos) ds c := fun F0 H0 F H σ s w Q => by
  obtain ⟨f, fd, h1, h2, h3, h4⟩ := G
  refine toE (pe_callS (E := WE W) h1 (A.room.mono hk) (A.gl hg) h2 h3 h4 (fun σ => L2N.passAt tk σ) wpA_pa hdb he hpl) ?_
  exact ha F0 H0 F H σ s _ fun vs F' H' x r1 => ⟨F', as, .ex c, x.fh, r1, hs, fun F2 H2 x2 => w F2 H2 (x.trans x2)⟩
end
/-! ### the try -/
theorem FlyingZ_keeps {B h h' : Heap} {l : List Env} {a : Addr} {Z : Obj → Prop} (k : ∀ b o, h.get? b = some o → h'.get? b = some o) (f : HandSPX.FlyingZ B l a Z h) : HandSPX.FlyingZ B l a Z h' := by
  obtain ⟨f1, f2, f3, oe, vs, T, oT, ts, he, hz, hd, h1, hnT, hTe, hT, r⟩ := f
  exact ⟨fun b o e => k b o (f1 b o e), f2, Heap.FunFrames.of_keeps (fun b o e _ => ⟨o, k b o e, rfl⟩) f3, oe, vs, T, oT, ts, k _ _ he, hz, hd, h1, hnT, hTe, k _ _ hT, r⟩
/-- what the clause of three classes wishes of an error of the body -/
def w3 (K : PySem.W.Frag) (c1 c2 c3 : Value) (ts : Addr → Value → Option Addr → TS) (D : Ends) : WX := fun cls d σ H => PySem.W.exmAny K cls [c1, c2, c3] = some true ∧ ∀ a, H a = none → ts a cls d D σ H
section
variable {X : Cx} {x1 x2 x3 : Str} {c1 c2 c3 : Value} {body suite : List Stmt} {b₀ : Stmt} {np1 np2 np3 tp pos pos' : Pos} {kk : Nat} {tb : WX → TS} {ts : Addr → Value → Option Addr → TS} {Wout : WX}
theorem ps_try_3 (hs : X.stack = X.env :: X.outer) (hf : X.env.frame = some X.env.locals) (n1 : Names X x1 c1) (n2 : Names X x2 c2) (n3 : Names X x3 c3) (hpa : ∀ hd : Option Value, PassesOwnAt (model X.prog X.w) (X.A.mark hd) X.A X.env X.xe) (tk : L2.Takes X Wout)
    (hb : ∀ (W : WX) (pn : List (Addr × Obj)) (xe : Value → Shared → Prop), L2N.Takes (X.tr pn xe) W → PassesOwn (model X.prog X.w) X.A X.env xe → PSs (X.tr pn xe) body (tb W))
    (hsu : ∀ (a : Addr) (oe : Obj) (cls : Value) (d : Option Addr) (pn : List (Addr × Obj)), L2N.Zn cls d oe → (∃ vs, oe.data = .fields vs) → L2.Takes (L2H.suiteX X a ((a, oe) :: pn)) Wout → L2H.HotC (L2H.suiteX X a ((a, oe) :: pn)) → PSs (L2H.suiteX X a ((a, oe) :: pn)) (b₀ :: suite) (ts a cls d)) :
    PS X (.Try body [.ExceptHandler (some (.Tuple [.Name x1 np1, .Name x2 np2, .Name x3 np3] kk tp)) none (b₀ :: suite) pos'] [] [] pos) (fun D σ H => tb (w3 X.K c1 c2 c3 ts D) D σ H) := by
  refine ⟨fun pins s σ H D (I : Inv X pins σ H s) h => ?_⟩
  have ok := I.ok; have hfr : X.A.frames = some (X.env :: X.outer) := by rw [ok.frames, hs]
  refine wpAny_Try_except (wpAny_mono ((hb (w3 X.K c1 c2 c3 ts D) (X.pn ++ pins) (fun e s₁ => wpAny (model X.prog X.w) X.A (noteFrame e X.env) (fun _ s₂ => wpAny (model X.prog X.w) X.A (setFlight e none) (fun _ s₃ =>
    wpAny (model X.prog X.w) X.A (handleBy e X.env [.ExceptHandler (some (.Tuple [.Name x1 np1, .Name x2 np2, .Name x3 np3] kk tp)) none (b₀ :: suite) pos']) (SP X pins D) X.xe s₃) X.xe s₂) X.xe s₁) (fun u s' xx => ?_) PassesOwn.looking).run [] s σ H D (I.toTry _) h) (fun f s1 hsp => ?_) (fun e s1 he => he))
  · obtain ⟨a, B, sI, pins', σ', H', cls, d, rfl, J', nb, up, sky, na, os, ag, hm, hyes⟩ := xx
    have J : Inv X pins σ' H' sI := J'.ofTry ok; have skyN : Sky B (X.env :: X.outer) a (L2N.Zn cls d) X.env.locals s'.heap := by rw [← hs]; exact sky
    show wpAny (model X.prog X.w) X.A (noteFrame (Value.ref a) X.env) _ _ _
    refine L2N.Sky.land L2N.Zn.steady hfr hf skyN fun hN flN upN => ?_
    have JN : Inv X pins σ' H' { s' with heap := hN } := J.landed nb flN.1 (up.trans upN) os ag
    obtain ⟨obN, fsN, heN, hzN, hdN⟩ := flN.there
    have nefr : a ∉ frs (X.env :: X.outer) := fun hm => by
      obtain ⟨_, o', e', hnf⟩ := flN.2.2.1.mem hm
      rw [heN] at e'; cases e'; exact hnf _ hdN
    have neL : a ≠ X.env.locals := fun z => nefr (List.mem_filterMap.mpr ⟨X.env, List.mem_cons_self, by rw [hf, z]⟩)
    have neF : a ∉ X.fs := fun hm => by obtain ⟨e, he, q⟩ := List.mem_filterMap.mp hm; exact nefr (List.mem_filterMap.mpr ⟨e, List.mem_cons_of_mem _ he, q⟩)
    have SN := JN.suite heN hdN na neL neF
    refine wpAny_handleBy_cons (codeAny_handlers_test ?_) (by intro hq; cases hq)
    have LTy : PySem.W.Looks (model X.prog X.w) hN (typeOf (.ref a)) cls := fun A Q E s k q => wpAny_typeOf_ref (k _ _ heN) (by rw [hzN.1]; exact q)
    have nm : ∀ {x : Str} {c : Value} {np : Pos}, Names X x c → ∀ {Q : Value → Shared → Prop} {E : Value → Shared → Prop}, Q c { s' with heap := hN } → wpAny (model X.prog X.w) (X.A.mark (some (.ref a))) (eval (.Name x np) X.env) Q E { s' with heap := hN } := fun {x c np} hc {Q E} q => by
      obtain ⟨hg, hdb2, hm | ⟨hm, hv, hne2⟩⟩ := hc
      · exact ld_glob (X := X.suite a ((a, obN) :: (X.pn ++ pins))) SN hg hm q hdb2
      · exact ld_blt (X := X.suite a ((a, obN) :: (X.pn ++ pins))) SN hg hm hv q hne2 hdb2
    refine wpAny_Tuple (wpAny_items_cons (nm n1 (wpAny_items_cons (nm n2 (wpAny_items_cons (nm n3 (wpAny_items_nil ⟨by size_fits, ?_⟩)))))))
    have kp : ∀ q o, hN.get? q = some o → (hN.push { cls := .type "tuple", data := .seq [c1, c2, c3].toArray }).get? q = some o := fun _ _ z => Heap.get?_push_of_some _ z
    refine (PySem.W.exm_tup3 (JN.kIn.keeps kp) (LTy.keeps kp) (Heap.get?_push_size hN rfl) hm).here ?_
    refine (codeAny_handlers_suite ?_)
    refine HandSPX.lands_againZ (FlyingZ_keeps kp flN) fun h4 fl4 up4 => ?_
    have J4 : Inv X pins σ' H' { s' with heap := h4 } := J.landed nb fl4.1 (((up.trans upN).trans (Heap.UpToSlots.of_keeps kp)).trans up4) os ag
    obtain ⟨oe4, vs4, he4, hz4, hd4⟩ := fl4.there; have S4 := J4.suite he4 hd4 na neL neF
    have tkS : L2.Takes (L2H.suiteX X a ((a, oe4) :: (X.pn ++ pins))) Wout := fun u2 s2 x2 => by
      obtain ⟨a2, B2, sI2, pn2, σ2, H2, cls2, d2, e2, I2, nb2, up2, sky2, na2, os2, ag2, w2⟩ := x2; exact tk u2 s2 ⟨a2, B2, sI2, pins, σ2, H2, cls2, d2, e2, L2H.unsuiteX I2 ok, nb2, up2, sky2, na2, os2, ag2, w2⟩
    have hot : L2H.HotC (L2H.suiteX X a ((a, oe4) :: (X.pn ++ pins))) := ⟨(a, oe4), ⟨rfl, vs4, hd4, hz4.2.2 vs4 hd4⟩, List.mem_cons_self⟩
    refine wpAny_mono ((hsu a oe4 cls d (X.pn ++ pins) hz4 ⟨_, hd4⟩ tkS hot).run [] _ _ H' _ (L2H.suiteX_of S4) (hyes a na)) (fun f s6 hsp => ?_) (fun e6 s6 z => hpa (some (.ref a)) e6 s6 z)
    cases f with
    | ret u => obtain ⟨v6, σ6, H6, S6, r6, q6⟩ := hsp; exact ⟨_, _, _, L2H.unsuiteX S6 ok, r6, q6⟩
    | _ => obtain ⟨σ6, H6, S6, q6⟩ := hsp; exact ⟨_, _, L2H.unsuiteX S6 ok, q6⟩
  · cases f with
    | next => obtain ⟨σ', H', J', q⟩ := hsp; exact wpAny_execs_nil ⟨σ', H', J'.ofTry ok, q⟩
    | ret u => obtain ⟨v, σ', H', J', r, q⟩ := hsp; exact ⟨v, σ', H', J'.ofTry ok, r, q⟩
    | _ => obtain ⟨σ', H', J', q⟩ := hsp; exact ⟨σ', H', J'.ofTry ok, q⟩
end
section
variable {X : Cx} {W : WX} {N : List Str} {sc : Scope} {k : Nat} {ds : Sls}
/-- try: body, which raises C; except (x1, x2, x3): raise xn('msg') -/
theorem run_try3 {x1 x2 x3 xn msg : Str} {c1 c2 c3 C CN : Addr} {np1 np2 np3 tp pos pos' p1 p2 p3 p4 : Pos} {kk j : Nat} {body : List Stmt} (A : WhS X N sc k) (tk : Takes X W) (hpa : ∀ hd : Option Value, PassesOwnAt (model X.prog X.w) (X.A.mark hd) X.A X.env X.xe)
    (g1 : GlS sc x1) (m1 : X.mg x1 = some (.ref c1)) (g2 : GlS sc x2) (m2 : X.mg x2 = some (.ref c2)) (g3 : GlS sc x3) (m3 : X.mg x3 = some (.ref c3)) (he : PySem.W.exmAny X.K (.ref C) [.ref c1, .ref c2, .ref c3] = some true) (cN : ErrC X.K X.mg xn CN) (gn : GlS sc xn)
    (hb : ∀ (W' : WX) (pn : List (Addr × Obj)) (xe : Value → Shared → Prop), WhS (X.tr pn xe) N sc k → L2N.Takes (X.tr pn xe) W' → RunB (X.tr pn xe) W' body ds (.ex (.ref C)))
    (d1 : (x1 == ("__debug__" : Str)) = false := by decide) (d2 : (x2 == ("__debug__" : Str)) = false := by decide) (d3 : (x3 == ("__debug__" : Str)) = false := by decide) (dn : (xn == ("__debug__" : Str)) = false := by decide) :
    Run X W (.Try body [.ExceptHandler (some (.Tuple [.Name x1 np1, .Name x2 np2, .Name x3 np3] kk tp)) none [.Raise (some (.Call (.Name xn p1) [.Constant (.str msg) j p2] [] p3)) none p4] pos'] [] [] pos) ds (.ex (.ref CN)) := fun F0 H0 F H σ E s q => by
  refine toS (ps_try_3 (c1 := .ref c1) (c2 := .ref c2) (c3 := .ref c3) (tb := fun W' D σ H => ∀ (pn : List (Addr × Obj)) (xe : Value → Shared → Prop), L2N.Takes (X.tr pn xe) W' → PassesOwn (model X.prog X.w) X.A X.env xe → wpB (X.tr pn xe) body D σ H)
    (ts := fun a cls d D σ H => ∀ (oe : Obj) (pn : List (Addr × Obj)), L2.Takes (L2H.suiteX X a ((a, oe) :: pn)) W → L2H.HotC (L2H.suiteX X a ((a, oe) :: pn)) → wpB (L2H.suiteX X a ((a, oe) :: pn)) [.Raise (some (.Call (.Name xn p1) [.Constant (.str msg) j p2] [] p3)) none p4] D σ H)
    A.stk A.frm ⟨A.gl g1, d1, .inl m1⟩ ⟨A.gl g2, d2, .inl m2⟩ ⟨A.gl g3, d3, .inl m3⟩ hpa tk (fun W' pn xe t p => ⟨fun pins s σ H D I h => h pn xe t p pins s I⟩) (fun a oe cls d pn hz hf t hot => ⟨fun pins s σ H D I h => h oe pn t hot pins s I⟩)) ?_
  intro pn xe t p
  refine hb _ pn xe (A.tr p) t F0 H0 F H σ E s ?_
  intro σ1 F1 H1 s1 sf
  refine ⟨he, fun a ha oe pn2 tkS hot => ?_⟩
  refine toB (pss_one wpS_ps) ?_
  exact toS (L2H.ps_raiseH hot tkS (L2N.pmk_own PySem.F.excBase_ValueError cN.ex cN.gl cN.kp (raises_own cN.sub cN.ty) (A.gl gn) dn)) (q σ1 F1 H1 s1 sf)
end
end Vs

/-! str.replace, whose texts are told to be two objects. -/
namespace Vs
open L2 PySem PySem.Spec PyProof.Rows
section
variable {X : Cx} {W : WX} {N : List Str} {sc : Scope} {k : Nat} {ds : Sls} {d : D} {as xs : List D} {e a b o e2 : Expr} {es : List Expr} {pos p apos cpos cp : Pos} {x y z : Str} {i : Int} {l : List Nat} {u : Out} {body els : List Stmt}
/-- as EvE, where an object has been made before -/
def EvE1 (X : Cx) (e : Expr) (ds : Sls) (d : D) : Prop := ∀ (F0 H0 F H : Hp) (σ : L2.St), StR X.K F0 H0 F H σ ds → ∀ Q : VK, (∀ v F' H', Ext F H F' H' → Rp X.K F' v d → Q v H') →
  ∀ (pins : List (Addr × Obj)) (s : Shared), 1 ≤ s.toks → Inv X pins σ H s → wpAny (model X.prog X.w) X.A (eval e X.env) (EP X pins σ Q) X.xe s
def EvA1 (X : Cx) (es : List Expr) (ds : Sls) (as : List D) : Prop := ∀ (F0 H0 F H : Hp) (σ : L2.St), StR X.K F0 H0 F H σ ds → ∀ Q : List V → Hp → Prop, (∀ vs F' H', Ext F H F' H' → RpAll X.K F' vs as → Q vs H') →
  ∀ (pos : Pos) (pins : List (Addr × Obj)) (s : Shared), 1 ≤ s.toks → Inv X pins σ H s → wpAny (model X.prog X.w) X.A (spliced (backTo pos (starEach es X.env))) (AP X pins σ Q) X.xe s
def RunB1 (X : Cx) (W : WX) (st : List Stmt) (ds : Sls) (o : Out) : Prop := ∀ (F0 H0 F H : Hp) (σ : L2.St) (E : Ends), StR X.K F0 H0 F H σ ds → Post X.K W F0 H0 F E o →
  ∀ (pins : List (Addr × Obj)) (s : Shared), 1 ≤ s.toks → Inv X pins σ H s → wpAny (model X.prog X.w) X.A (execs st X.env) (SP X pins E) X.xe s
theorem EvE.one (h : EvE X e ds d) : EvE1 X e ds d := fun F0 H0 F H σ s Q q pins st _ I => h F0 H0 F H σ s Q q pins st I
theorem eva1_nil : EvA1 X [] ds [] := fun F0 H0 F H σ s Q q pos pins st h0 I => Calls.spliced_nil ⟨[], H, I, .nil, q [] F H (.refl s.fh) .nil⟩
theorem eva1_cons (ha : EvE1 X e ds d) (hr : EvA1 X es ds as) (hs : starEach (e :: es) X.env = (false, eval e X.env) :: starEach es X.env := by rfl) : EvA1 X (e :: es) ds (d :: as) := fun F0 H0 F H σ s Q q pos pins st h0 I => by
  rw [hs]; show wpAny _ _ (spliced ((false, eval e X.env) :: backTo pos (starEach es X.env))) _ _ st
  refine Calls.spliced_cons (wpAny_mono (PySem.wpAny_toks (ha F0 H0 F H σ s (fun v H1 => ∃ F1, Ext F H F1 H1 ∧ Rp X.K F1 v d) (fun v F1 H1 x r => ⟨F1, x, r⟩) pins st h0 I)) (fun v s1 q1 => ?_) fun _ _ z => z.2)
  obtain ⟨hk, x, H1, I1, r1, F1, x1, rp⟩ := q1
  exact thn (hr F0 H0 F1 H1 σ (s.to x1) (fun vs H2 => ∃ F2, Ext F1 H1 F2 H2 ∧ RpAll X.K F2 vs as) (fun vs F2 H2 x r => ⟨F2, x, r⟩) pos pins s1 (Nat.le_trans h0 hk) I1) fun us s2 ⟨xs, H2, I2, r2, F2, x2, rs⟩ => ⟨x :: xs, H2, I2, .cons r1 r2, q _ F2 H2 (x1.trans x2) (.cons (rp_mono x2.f rp) rs)⟩
theorem ev1_lst (h : EvA1 X es ds as) (hn : as.all nodict = true) (hz : as.length ≤ sizeLine) : EvE1 X (.List es pos) ds (.list as) := fun F0 H0 F H σ s Q q pins st h0 I => by
  refine wpAny_List_spliced (thn (h F0 H0 F H σ s (fun vs H1 => ∃ F1, Ext F H F1 H1 ∧ RpAll X.K F1 vs as) (fun vs F1 H1 x r => ⟨F1, x, r⟩) pos pins st h0 I) fun us s1 ⟨xs, H1, I1, r, F1, x1, rs⟩ => ?_)
  have e1 := r.length
  have e2 := rpAll_len rs
  have hfr : H1 s1.heap.objs.size = none := I1.hok.fresh (Nat.le_refl _)
  refine ⟨by omega, .ref s1.heap.objs.size, upd H1 s1.heap.objs.size (.lst xs), I1.laid (t' := s1.toks) (fun b u e => Heap.get?_push_of_some _ e) (Nat.le_refl _) ⟨by omega, us, 0, r, Heap.get?_push_size _ rfl⟩, rfl, ?_⟩
  exact q _ (upd F1 s1.heap.objs.size (.lst xs)) _ (x1.trans (.new x1.fh hfr)) (rp_lst.mpr ⟨_, xs, rfl, SqL.of upd_same, dpAll_mono (same_upd (x1.fh.free hfr)) (rpAll_dp rs hn)⟩)
theorem ev1_ix (ha : EvE1 X a ds (.list xs)) (hb : EvE X b ds (.int i)) (h : atI xs i = some d) (hs : PlainIx b := by exact fun _ _ => rfl) : EvE1 X (.Subscript a b pos) ds d := fun F0 H0 F H σ s Q q pins st h0 I => by
  refine Subscript_ (thn (ha F0 H0 F H σ s (fun v H1 => ∃ F1, Ext F H F1 H1 ∧ Rp X.K F1 v (.list xs)) (fun v F1 H1 x r => ⟨F1, x, r⟩) pins st h0 I) fun v s1 ⟨x, H1, I1, r1, F1, x1, rp⟩ => ?_)
  refine thn (hb F0 H0 F1 H1 σ (s.to x1) (fun v H2 => ∃ F2, Ext F1 H1 F2 H2 ∧ Rp X.K F2 v (.int i)) (fun v F2 H2 x r => ⟨F2, x, r⟩) pins s1 I1) fun u s2 ⟨y, H2, I2, r2, F2, x2, rp2⟩ => ?_
  obtain ⟨p, vs, rfl, h1, h2⟩ := rp_lst.mp (rp_mono x2.f rp)
  obtain ⟨v', e', dp⟩ := dpAll_atI h2 h
  exact ix_list a b pins s2 σ H2 (.ref p) y v u Q I2 r1 r2 ⟨p, vs, i, v', rfl, rp_int.mp rp2, x2.fh.seq h1, e', q v' F2 H2 (x1.trans x2) (rp_of dp)⟩ (hs _ _)
theorem runB1_ret (h : EvE1 X e ds d) : RunB1 X W [.Return (some e) pos] ds (.rt d) := fun F0 H0 F H σ E s q pins st h0 I =>
  wpAny_execs_cons (wpAny_Return_some (thn (h F0 H0 F H σ s E.rt (fun v F' H' x r => q v F' H' (s.ext.trans x) r) pins st h0 I) fun v s1 ⟨x, H1, I1, r1, q1⟩ => ⟨x, σ, H1, I1, r1, q1⟩))
/-- if a == k: an int has been made -/
theorem run_ifT1 {kk : Int} {j : Nat} {p1 : Pos} (ha : EvE X a ds (.int i)) (hk : i = kk) (hb : RunB1 X W body ds u) : Run X W (.If (.Compare a [.Eq] [.Constant (.int kk) j cp] p1) body els pos) ds u := fun F0 H0 F H σ E s q pins st I => by
  refine wpAny_If (wpAny_isTrue_Compare1 (thn (ha F0 H0 F H σ s (fun v H1 => ∃ F1, Ext F H F1 H1 ∧ Rp X.K F1 v (.int i)) (fun v F1 H1 x r => ⟨F1, x, r⟩) pins st I) fun v s1 ⟨x, H1, I1, r1, F1, x1, rp⟩ => wpAny_Constant_int ?_) rfl)
  refine wpAny_mono (PySem.wpAny_toks (op_eq pins { s1 with toks := s1.toks + 1 } σ H1 x (.int kk) v (.int kk s1.toks) (fun z H2 => ∃ F2, Ext F1 H1 F2 H2 ∧ Rp X.K F2 z (.bool (decide (i = kk)))) (I1.tok _) r1 ⟨_, rfl⟩ (opd_eqI x (.int kk) F1 H1 _ x1.fh rp (rp_int.mpr rfl) fun v F2 H2 x2 r3 => ⟨F2, x2, r3⟩))) (fun c s3 hc => ?_) (fun _ _ z => z.2)
  obtain ⟨hk3, z, H3, I3, r3, F3, x3, rp3⟩ := hc
  have ez := rp_bl.mp rp3
  subst ez
  cases r3
  have hk3 : s1.toks + 1 ≤ s3.toks := hk3
  refine wpAny_truthy_bool ?_
  rw [decide_eq_true hk, if_pos rfl]
  exact hb F0 H0 F3 H3 σ E (s.to (x1.trans x3)) (post_mono (x1.trans x3).f q) pins s3 (by omega) I3
/-- e gives the text z, a new object -/
def NewT (X : Cx) (e : Expr) (ds : Sls) (z : Str) : Prop := ∀ (F0 H0 F H : Hp) (σ : L2.St), StR X.K F0 H0 F H σ ds → ∀ Q : Hp → Prop, (∀ F' H', Ext F H F' H' → Q H') →
  ∀ (pins : List (Addr × Obj)) (s : Shared), Inv X pins σ H s → wpAny (model X.prog X.w) X.A (eval e X.env) (fun u s' => ∃ t H', u = .str z t ∧ s.toks ≤ t ∧ Inv X pins σ H' s' ∧ Q H') X.xe s
theorem newt_const {j : Nat} : NewT X (.Constant (.str z) j cp) ds z := fun F0 H0 F H σ st Q q pins s I => Calls.Constant_str ⟨s.toks, H, rfl, Nat.le_refl _, I.tok _, q F H (.refl st.fh)⟩
theorem newt_ix4 {z0 z1 z2 z3 : Str} {j0 j1 j2 j3 : Nat} {c0 c1 c2 c3 lp : Pos} (hb : EvE X b ds (.int i)) (h0 : 0 ≤ i) (h4 : i < 4) (hz : [z0, z1, z2, z3][i.toNat]? = some z) (hs : PlainIx b := by exact fun _ _ => rfl) :
    NewT X (.Subscript (.List [.Constant (.str z0) j0 c0, .Constant (.str z1) j1 c1, .Constant (.str z2) j2 c2, .Constant (.str z3) j3 c3] lp) b pos) ds z := fun F0 H0 F H σ st Q q pins s I => by
  refine Subscript_ (wpAny_List_spliced ?_)
  show wpAny _ _ (spliced ((false, eval (.Constant (.str z0) j0 c0) X.env) :: backTo lp (starEach [.Constant (.str z1) j1 c1, .Constant (.str z2) j2 c2, .Constant (.str z3) j3 c3] X.env))) _ _ s
  refine (Calls.spliced_cons (Calls.Constant_str ?_))
  show wpAny _ _ (spliced ((false, eval (.Constant (.str z1) j1 c1) X.env) :: backTo lp (starEach [.Constant (.str z2) j2 c2, .Constant (.str z3) j3 c3] X.env))) _ _ _
  refine (Calls.spliced_cons (Calls.Constant_str ?_))
  show wpAny _ _ (spliced ((false, eval (.Constant (.str z2) j2 c2) X.env) :: backTo lp (starEach [.Constant (.str z3) j3 c3] X.env))) _ _ _
  refine (Calls.spliced_cons (Calls.Constant_str ?_))
  show wpAny _ _ (spliced ((false, eval (.Constant (.str z3) j3 c3) X.env) :: backTo lp (starEach [] X.env))) _ _ _
  refine (Calls.spliced_cons (Calls.Constant_str (Calls.spliced_nil ?_)))
  have h4' : (4 : Nat) ≤ sizeLine := by decide
  have hfr : H s.heap.objs.size = none := I.hok.fresh (Nat.le_refl _)
  refine ⟨h4', ?_⟩
  have I2 : Inv X pins σ (upd H s.heap.objs.size (.frz { cls := .type "list", data := .seq #[.str z0 s.toks, .str z1 (s.toks + 1), .str z2 (s.toks + 1 + 1), .str z3 (s.toks + 1 + 1 + 1)] 0 } (.lst [.str z0, .str z1, .str z2, .str z3]))) { s with heap := s.heap.push { cls := .type "list", data := .seq #[.str z0 s.toks, .str z1 (s.toks + 1), .str z2 (s.toks + 1 + 1), .str z3 (s.toks + 1 + 1 + 1)] 0 }, toks := s.toks + 1 + 1 + 1 + 1 } :=
    I.laid (t' := s.toks + 1 + 1 + 1 + 1) (fun b u e => Heap.get?_push_of_some _ e) (Nat.le_refl _) ⟨Heap.get?_push_size _ rfl, h4', [.str z0 s.toks, .str z1 (s.toks + 1), .str z2 (s.toks + 1 + 1), .str z3 (s.toks + 1 + 1 + 1)], 0, .cons ⟨_, rfl⟩ (.cons ⟨_, rfl⟩ (.cons ⟨_, rfl⟩ (.cons ⟨_, rfl⟩ .nil))), Heap.get?_push_size _ rfl⟩
  refine thn (hb F0 H0 F _ σ (st.to (.newO st.fh hfr)) (fun v H' => ∃ F', Ext F _ F' H' ∧ Rp X.K F' v (.int i)) (fun v F' H' x r => ⟨F', x, r⟩) pins _ I2) fun u s3 ⟨x, H3, I3, r3, F3, x3, rp⟩ => ?_
  have ex := rp_int.mp rp
  subst ex
  obtain ⟨tu, rfl⟩ := r3
  obtain ⟨h5, _⟩ := I3.hok _ _ (x3.h _ _ upd_same)
  have hi : i.toNat = 0 ∨ i.toNat = 1 ∨ i.toNat = 2 ∨ i.toNat = 3 := by omega
  have hx : ∃ t, s.toks ≤ t ∧ #[Value.str z0 s.toks, .str z1 (s.toks + 1), .str z2 (s.toks + 1 + 1), .str z3 (s.toks + 1 + 1 + 1)][i.toNat]? = some (.str z t) := by
    rcases hi with e | e | e | e <;> rw [e] at hz ⊢ <;> cases hz
    · exact ⟨_, Nat.le_refl _, rfl⟩
    · exact ⟨_, Nat.le_add_right _ 1, rfl⟩
    · exact ⟨_, Nat.le_add_right _ 2, rfl⟩
    · exact ⟨_, Nat.le_add_right _ 3, rfl⟩
  obtain ⟨t, ht, hx⟩ := hx
  exact item_listR ⟨_, h5, rfl, 0, rfl⟩ h0 (by omega) hx ⟨t, H3, rfl, ht, I3, q F3 H3 ((Ext.newO st.fh hfr).trans x3)⟩ (hs _ _)
/-- o.replace('y', e2) -/
theorem ev1_replace {j : Nat} (ho : EvE X o ds (sD l)) (h2 : NewT X e2 ds z) (hne : (y == z) = false) (hb : (S l).length + ((S l).length + 1) * z.length ≤ 16777216) (hst : starEach [.Constant (.str y) j cp, e2] X.env = [(false, eval (.Constant (.str y) j cp) X.env), (false, eval e2 X.env)] := by rfl)
    (hbase : attributeBase o "replace" X.env (eval o X.env) = eval o X.env := by rfl) (hline : (apos.endLine == cpos.line) = true := by rfl) : EvE1 X (.Call (.Attribute o "replace" apos) [.Constant (.str y) j cp, e2] [] cpos) ds (.str (Txt.replace (S l) y z)) := fun F0 H0 F H σ st Q q pins s h0 I => by
  refine PySem.Call_method2 hbase hst hline (wpAny_mono (PySem.wpAny_toks (ho F0 H0 F H σ st (fun v H1 => ∃ F1, Ext F H F1 H1 ∧ Rp X.K F1 v (sD l)) (fun v F1 H1 x r => ⟨F1, x, r⟩) pins s I)) (fun v s1 hv => ?_) fun _ _ z => z.2)
  obtain ⟨hk, x, H1, I1, r1, F1, x1, rp⟩ := hv
  have ex := rp_str.mp rp
  subst ex
  obtain ⟨tx, rfl⟩ := r1
  refine ⟨"str", _, PySem.F.plainAttrs_str, PySem.F.slot_str_replace, PySem.F.type_str_replace, typeIs_str _ _ _, (fun _ e => nomatch e), Calls.callWith_builtin rfl (Calls.evalArgs_plain (Calls.spliced_cons (Calls.Constant_str ?_)))⟩
  refine Calls.spliced_cons (thn (h2 F0 H0 F1 H1 σ (st.to x1) (fun H2 => ∃ F2, Ext F1 H1 F2 H2) (fun F2 H2 x => ⟨F2, x⟩) pins { s1 with toks := s1.toks + 1 } (I1.tok _)) fun u s2 hu => Calls.spliced_nil ?_)
  obtain ⟨t, H2, rfl, ht, I2, F2, x2⟩ := hu
  have ht : s1.toks + 1 ≤ t := ht
  have n1 : ¬ (s1.toks : Nat) = 0 := by omega
  have n2 : ¬ (t : Nat) = 0 := fun z => by
    rw [z] at ht
    exact absurd ht (Nat.not_succ_le_zero _)
  have n3 : ¬ (s1.toks : Nat) = t := fun z => by
    rw [← z] at ht
    exact absurd ht (Nat.not_succ_le_self _)
  exact PySem.SC.replace n1 n2 n3 hne hb fun t' k => ⟨.str (Txt.replace (S l) y z), H2, I2.tok k, ⟨t', rfl⟩, q _ F2 H2 (x1.trans x2) (.str _)⟩
/-! ### long rows of written texts -/
def strsB : List Expr → List (List Nat) → Bool
  | [], [] => true
  | .Constant (.str s) _ _ :: r, c :: cs => decide (s = S c) && strsB r cs
  | _, _ => false
theorem eva_pre {rest : List (List Nat)} : ∀ (n : Nat) {es : List Expr} {cs : List (List Nat)}, strsB (es.take n) cs = true → EvA X (es.drop n) ds (rest.map sD) → EvA X es ds ((cs ++ rest).map sD)
  | 0, es, cs, h, h2 => by
    cases cs with
    | nil => exact h2
    | cons c cs => rw [List.take_zero] at h; cases h
  | n + 1, [], cs, h, h2 => by
    cases cs with
    | nil => exact h2
    | cons c cs => cases h
  | n + 1, e :: es, [], h, _ => by
    rw [List.take_succ_cons] at h
    unfold strsB at h
    split at h <;> simp_all
  | n + 1, e :: es, c :: cs, h, h2 => by
    rw [List.take_succ_cons] at h
    unfold strsB at h
    split at h
    · simp_all
    · rename_i s j p r c' cs' e1 e2
      obtain ⟨rfl, rfl⟩ := List.cons.inj e1
      obtain ⟨rfl, rfl⟩ := List.cons.inj e2
      rw [Bool.and_eq_true] at h
      exact eva_cons (ev_strC _ (of_decide_eq_true h.1)) (eva_pre n h.2 h2) rfl
    · cases h
theorem eva_strs {cs : List (List Nat)} (h : strsB es cs = true) : EvA X es ds (cs.map sD) := by
  have := eva_pre (X := X) (ds := ds) (rest := []) es.length (es := es) (cs := cs) (by rw [List.take_length]; exact h) (by rw [List.drop_length]; exact eva_nil)
  rw [List.append_nil] at this
  exact this
theorem run_setStrs {m : Nat} {lp : Pos} {cs : List (List Nat)} (A : WhS X N sc k) (hi : N[m]? = some x) (hx : L2.Loc sc x) (h : EvA X es ds (cs.map sD)) (hz : cs.length ≤ sizeLine) : Run X W (.Assign [.Name x p] (.List es lp) pos) ds (.nx (ds.set m (.va (txts cs)))) :=
  run_set A m hi hx (EvN.ev (evn_lstM (enc := sD) cs h (fun _ => rfl) hz))
theorem run_retStrs {lp rp : Pos} {cs : List (List Nat)} (h : EvA X es ds (cs.map sD)) (hz : cs.length ≤ sizeLine) (hb : EvE X b ds (.int i)) (h0 : 0 ≤ i) (h1 : i < cs.length) (hs : PlainIx b) : Run X W (.Return (some (.Subscript (.List es lp) b rp)) pos) ds (.rt (sD (cs.getD i.toNat []))) :=
  run_ret (ev_ixG (enc := sD) [] (EvN.ev (evn_lstM (enc := sD) cs h (fun _ => rfl) hz)) hb h0 h1 hs)
/-- .. over lists -/
theorem ev1_replT {j : Nat} {yc zc : List Nat} (R : List Nat) (ho : EvE X o ds (sD l)) (h2 : NewT X e2 ds z) (ey : y = S yc) (ez : z = S zc) (hne : (y == z) = false) (hb : l.length + (l.length + 1) * zc.length ≤ 16777216) (hR : (Txt.replace (S l) (S yc) (S zc)).cps.toList = R) (hst : starEach [.Constant (.str y) j cp, e2] X.env = [(false, eval (.Constant (.str y) j cp) X.env), (false, eval e2 X.env)] := by rfl)
    (hbase : attributeBase o "replace" X.env (eval o X.env) = eval o X.env := by rfl) (hline : (apos.endLine == cpos.line) = true := by rfl) : EvE1 X (.Call (.Attribute o "replace" apos) [.Constant (.str y) j cp, e2] [] cpos) ds (sD R) := by
  have h := ev1_replace (cp := cp) (j := j) ho h2 hne (by rw [ez]; exact hb) hst hbase hline
  rw [ey, ez] at h
  rw [← hR, show sD (Txt.replace (S l) (S yc) (S zc)).cps.toList = .str (Txt.replace (S l) (S yc) (S zc)) from congrArg PyData.str (S_mk _)]
  rw [ey]
  exact h
end
end Vs

/-! What the defs compute, in plain lists and ints; no program in sight. -/
namespace Vs
open PySem PySem.Spec L2
theorem szL : 1000000 ≤ sizeLine := by rw [sizeLine_eq]; decide
abbrev abcd : List Nat := [97, 98, 99, 100]
theorem one_infix {c : Nat} {l : List Nat} : [c] <:+: l ↔ c ∈ l := by
  constructor
  · rintro ⟨s, t, rfl⟩; simp
  · intro h
    obtain ⟨s, t, rfl⟩ := List.append_of_mem h
    exact ⟨s, t, by simp⟩
theorem cut_to {α : Type} (l : List α) {i : Int} (h : 0 ≤ i) : cutL l none (some i) = l.take i.toNat := by
  obtain ⟨k, rfl⟩ := Int.eq_ofNat_of_zero_le h
  exact cutL_to l k
theorem cut_from {α : Type} (l : List α) {i : Int} (h : 0 ≤ i) : cutL l (some i) none = l.drop i.toNat := by
  obtain ⟨k, rfl⟩ := Int.eq_ofNat_of_zero_le h
  exact cutL_from l k
theorem getD_mem {α : Type} {l : List α} {i : Nat} {z : α} (h : i < l.length) : l.getD i z ∈ l := by
  rw [List.getD_eq_getElem?_getD, List.getElem?_eq_getElem h]
  exact List.getElem_mem h
theorem getD_lt {α : Type} {l : List α} {i : Nat} {z : α} (h : i < l.length) : l.getD i z = l[i] := by
  rw [List.getD_eq_getElem?_getD, List.getElem?_eq_getElem h]; rfl

theorem fm_nil {α β : Type} (acc : List β) (p : α → Bool) (f : α → β) : acc ++ (([] : List α).filter p).map f = acc := List.append_nil _
theorem fm_pos {α β : Type} (acc : List β) {p : α → Bool} (f : α → β) {a : α} (l : List α) (h : p a = true) : acc ++ ((a :: l).filter p).map f = (acc ++ [f a]) ++ (l.filter p).map f := by
  rw [List.filter_cons_of_pos h, List.map_cons, List.append_assoc]; rfl
theorem fm_neg {α β : Type} (acc : List β) {p : α → Bool} (f : α → β) {a : α} (l : List α) (h : p a = false) : acc ++ ((a :: l).filter p).map f = acc ++ (l.filter p).map f := by
  rw [List.filter_cons_of_neg (by rw [h]; decide)]
/-! ### the program's asking -/
def okDie (die : List Int) : Prop := 2 ≤ die.length ∧ die.length ≤ 4 ∧ ∀ w ∈ die, 1 ≤ w ∧ w ≤ 9
abbrev sgn (n : Nat) : List Nat := abcd.take n
def okText (n : Nat) (t : List Nat) : Prop := ∀ c ∈ t, c ∈ sgn n
def okWord (n : Nat) (w : List Nat) : Prop := 1 ≤ w.length ∧ w.length ≤ 6 ∧ okText n w
/-- no word within another one -/
def apart (ws : List (List Nat)) : Prop := ∀ i j, i < ws.length → j < ws.length → j ≠ i → ¬ ws.getD i [] <:+: ws.getD j []
def okRace (die : List Int) (ws : List (List Nat)) : Prop := okDie die ∧ (∀ w ∈ ws, okWord die.length w) ∧ 1 ≤ ws.length ∧ ws.length ≤ 4 ∧ apart ws
def okRow (n : Nat) (t : List Nat) : Prop := t.length ≤ 60 ∧ okText n t
abbrev S_ask_die (ds : List D) (r : Out) : Prop := ∃ die, ds = [nums die] ∧ okDie die ∧ r = .rt .none
theorem S_ask_die_len {ds : List D} {r : Out} (h : S_ask_die ds r) : ds.length = 1 := by obtain ⟨_, rfl, _⟩ := h; rfl
def thrownB (n : Nat) (t : List Nat) : Bool := t.all fun c => decide ([c] <:+: cutL abcd none (some (n : Int)))
theorem thrownB_ok {n : Nat} {t : List Nat} (h : okText n t) : thrownB n t = true := by
  unfold thrownB
  rw [List.all_eq_true]
  intro c hc
  rw [decide_eq_true_eq, cutL_to, one_infix]
  exact h c hc
abbrev S_is_thrown (ds : List D) (r : Out) : Prop := ∃ (die : List Int) (t : List Nat), ds = [nums die, sD t] ∧ r = .rt (bD (thrownB die.length t))
theorem S_is_thrown_len {ds : List D} {r : Out} (h : S_is_thrown ds r) : ds.length = 2 := by obtain ⟨_, _, rfl, _⟩ := h; rfl
abbrev S_ask_word (ds : List D) (r : Out) : Prop := ∃ (die : List Int) (t : List Nat), ds = [nums die, sD t] ∧ okWord die.length t ∧ r = .rt .none
theorem S_ask_word_len {ds : List D} {r : Out} (h : S_ask_word ds r) : ds.length = 2 := by obtain ⟨_, _, rfl, _⟩ := h; rfl
abbrev S_ask_race (ds : List D) (r : Out) : Prop := ∃ (die : List Int) (ws : List (List Nat)), ds = [nums die, txts ws] ∧ okRace die ws ∧ r = .rt .none
theorem S_ask_race_len {ds : List D} {r : Out} (h : S_ask_race ds r) : ds.length = 2 := by obtain ⟨_, _, rfl, _⟩ := h; rfl
abbrev S_ask_row (ds : List D) (r : Out) : Prop := ∃ (die : List Int) (t : List Nat), ds = [nums die, sD t] ∧ okRow die.length t ∧ r = .rt .none
theorem S_ask_row_len {ds : List D} {r : Out} (h : S_ask_row ds r) : ds.length = 2 := by obtain ⟨_, _, rfl, _⟩ := h; rfl
theorem okWord.lt {n : Nat} {w : List Nat} (h : okWord n w) : w.length ≤ 6 := h.2.1
/-! ### overlaps -/
def overlapsOf (a b : List Nat) : List Int := ((List.range ((min (a.length : Int) b.length + 1) - 1).toNat).filter fun (k : Nat) => decide (cutL a (some ((a.length : Int) - (1 + (k : Int)))) none = cutL b none (some (1 + (k : Int))))).map fun (k : Nat) => 1 + (k : Int)
abbrev S_overlaps_of (ds : List D) (r : Out) : Prop := ∃ (a b : List Nat), ds = [sD a, sD b] ∧ a.length ≤ 1000 ∧ b.length ≤ 1000 ∧ r = .rn ((overlapsOf a b).map iD)
theorem S_overlaps_of_len {ds : List D} {r : Out} (h : S_overlaps_of ds r) : ds.length = 2 := by obtain ⟨_, _, rfl, _⟩ := h; rfl
abbrev S_overlaps (ds : List D) (r : Out) : Prop := ∃ (die : List Int) (a b : List Nat), ds = [nums die, sD a, sD b] ∧ okDie die ∧ okWord die.length a ∧ okWord die.length b ∧ r = .rn ((overlapsOf a b).map iD)
theorem S_overlaps_len {ds : List D} {r : Out} (h : S_overlaps ds r) : ds.length = 3 := by obtain ⟨_, _, _, rfl, _⟩ := h; rfl

/-! ### the laws' inputs -/
def cellAt (ns : List Int) (k : Int) : Int := if k < ns.length then ns.getD k.toNat 0 else 0
abbrev S__law_cell_at (ds : List D) (r : Out) : Prop := ∃ (ns : List Int) (k : Int), ds = [nums ns, iD k] ∧ 0 ≤ k ∧ r = .rt (iD (cellAt ns k))
theorem S__law_cell_at_len {ds : List D} {r : Out} (h : S__law_cell_at ds r) : ds.length = 2 := by obtain ⟨_, _, rfl, _⟩ := h; rfl
abbrev S__law_whole (ds : List D) (r : Out) : Prop := ∃ i : Int, ds = [iD i] ∧ r = .rt (bD true)
theorem S__law_whole_len {ds : List D} {r : Out} (h : S__law_whole ds r) : ds.length = 1 := by obtain ⟨_, rfl, _⟩ := h; rfl
def nextI (s : Int) : Int := ((s + 7919) % 2147483647 * ((s + 7919) % 2147483647) + 48271 * ((s + 7919) % 2147483647) + 12345) % 2147483629
abbrev S__law_next (ds : List D) (r : Out) : Prop := ∃ s : Int, ds = [iD s] ∧ r = .rt (iD (nextI s))
theorem S__law_next_len {ds : List D} {r : Out} (h : S__law_next ds r) : ds.length = 1 := by obtain ⟨_, rfl, _⟩ := h; rfl
theorem nextI_nn (s : Int) : 0 ≤ nextI s := Int.emod_nonneg _ (by decide)
theorem nextI_lt (s : Int) : nextI s < 2147483629 := Int.emod_lt_of_pos _ (by decide)
def dieL (c : Int) : List Int := if c / 3 % 3 = 0 then (List.range (2 + c % 3).toNat).map fun _ => 1 else (List.range (2 + c % 3).toNat).map fun (k : Nat) => 1 + nextI (c / 9 + 31 * (k : Int)) / 7 % 9
abbrev S__law_die (ds : List D) (r : Out) : Prop := ∃ c : Int, ds = [iD c] ∧ r = .rn ((dieL c).map iD)
theorem S__law_die_len {ds : List D} {r : Out} (h : S__law_die ds r) : ds.length = 1 := by obtain ⟨_, rfl, _⟩ := h; rfl
theorem dieL_len (c : Int) : ((dieL c).length : Int) = 2 + c % 3 := by
  have h0 : 0 ≤ c % 3 := Int.emod_nonneg _ (by decide)
  unfold dieL
  split <;> rw [List.length_map, List.length_range] <;> omega
theorem dieL_ok (c : Int) : okDie (dieL c) := by
  have h := dieL_len c
  have h0 : 0 ≤ c % 3 := Int.emod_nonneg _ (by decide)
  have h1 : c % 3 < 3 := Int.emod_lt_of_pos _ (by decide)
  refine ⟨by omega, by omega, fun w hw => ?_⟩
  unfold dieL at hw
  split at hw
  · obtain ⟨k, _, rfl⟩ := List.mem_map.mp hw
    omega
  · obtain ⟨k, _, rfl⟩ := List.mem_map.mp hw
    omega
def thrownStep (sg : Int) (p : List Nat × Int) (k : Nat) : List Nat × Int := (p.1 ++ [abcd.getD (p.2 / 7 % sg).toNat 0], nextI (p.2 + (k : Int)))
def thrownL (c : Int) (n : Nat) (sg : Int) : List Nat := ((List.range n).foldl (thrownStep sg) ([], nextI c)).1
abbrev S__law_thrown (ds : List D) (r : Out) : Prop := ∃ (c m sg : Int), ds = [iD c, iD m, iD sg] ∧ 0 ≤ m ∧ m ≤ 1000 ∧ 1 ≤ sg ∧ sg ≤ 4 ∧ r = .rt (sD (thrownL c m.toNat sg))
theorem S__law_thrown_len {ds : List D} {r : Out} (h : S__law_thrown ds r) : ds.length = 3 := by obtain ⟨_, _, _, rfl, _⟩ := h; rfl
theorem foldl_inv {α β : Type} (P : β → Prop) (f : β → α → β) : ∀ (l : List α) (b : β), P b → (∀ b a, a ∈ l → P b → P (f b a)) → P (l.foldl f b)
  | [], b, h, _ => h
  | a :: l, b, h, s => foldl_inv P f l (f b a) (s b a List.mem_cons_self h) fun b' a' m p => s b' a' (List.mem_cons_of_mem _ m) p
theorem thrown_fold (sg : Int) : ∀ (l : List Nat) (t : List Nat) (s : Int), (l.foldl (thrownStep sg) (t, s)).1.length = t.length + l.length
  | [], t, s => rfl
  | a :: l, t, s => by
    rw [List.foldl_cons]
    show (l.foldl (thrownStep sg) (_, _)).1.length = _
    rw [thrown_fold sg l, List.length_append, List.length_cons]
    simp only [List.length_cons, List.length_nil]
    omega
theorem thrownL_len (c : Int) (n : Nat) (sg : Int) : (thrownL c n sg).length = n := by
  unfold thrownL
  rw [thrown_fold, List.length_range, List.length_nil, Nat.zero_add]
theorem abcd_sgn {i n : Nat} (h : i < n) (hn : n ≤ 4) : abcd.getD i 0 ∈ sgn n := by
  have : abcd.getD i 0 = (sgn n).getD i 0 := by
    rw [List.getD_eq_getElem?_getD, List.getD_eq_getElem?_getD, List.getElem?_take_of_lt h]
  rw [this]
  exact getD_mem (by rw [List.length_take]; simp only [List.length_cons, List.length_nil]; omega)
theorem thrownL_ok (c : Int) (n : Nat) (m : Nat) (h1 : 1 ≤ m) (h4 : m ≤ 4) : okText m (thrownL c n m) := by
  unfold thrownL
  refine foldl_inv (fun p : List Nat × Int => okText m p.1) _ _ _ (fun _ h => nomatch h) fun p k _ ih => ?_
  intro x hx
  rcases List.mem_append.mp hx with h | h
  · exact ih x h
  · rw [List.mem_singleton.mp h]
    have h0 : 0 ≤ p.2 / 7 % (m : Int) := Int.emod_nonneg _ (by omega)
    have h2 : p.2 / 7 % (m : Int) < m := Int.emod_lt_of_pos _ (by omega)
    exact abcd_sgn (by omega) h4
def wordL (c sg : Int) : List Nat := if c / 6 % 4 = 0 then cutL (List.replicate 6 (cutL (thrownL (c / 8) (1 + c % 6).toNat sg) none (some (1 + c / 24 % 2)))).flatten none (some ((thrownL (c / 8) (1 + c % 6).toNat sg).length : Int)) else thrownL (c / 8) (1 + c % 6).toNat sg
abbrev S__law_word (ds : List D) (r : Out) : Prop := ∃ (c sg : Int), ds = [iD c, iD sg] ∧ 1 ≤ sg ∧ sg ≤ 4 ∧ r = .rt (sD (wordL c sg))
theorem S__law_word_len {ds : List D} {r : Out} (h : S__law_word ds r) : ds.length = 2 := by obtain ⟨_, _, rfl, _⟩ := h; rfl
theorem okText.sub {n : Nat} {t u : List Nat} (h : okText n t) (s : ∀ c ∈ u, c ∈ t) : okText n u := fun c hc => h c (s c hc)
theorem wordL_ok (c : Int) (m : Nat) (h1 : 1 ≤ m) (h4 : m ≤ 4) : okWord m (wordL c m) := by
  have h0 : 0 ≤ c % 6 := Int.emod_nonneg _ (by decide)
  have h6 : c % 6 < 6 := Int.emod_lt_of_pos _ (by decide)
  have ok := thrownL_ok (c / 8) (1 + c % 6).toNat m h1 h4
  have len := thrownL_len (c / 8) (1 + c % 6).toNat m
  unfold wordL
  split
  · generalize thrownL (c / 8) (1 + c % 6).toNat m = w at *
    have k0 : 0 ≤ c / 24 % 2 := Int.emod_nonneg _ (by decide)
    have k2 : c / 24 % 2 < 2 := Int.emod_lt_of_pos _ (by decide)
    rw [cut_to _ (by omega), cut_to _ (by omega), Int.toNat_natCast]
    have lw : 1 ≤ w.length ∧ w.length ≤ 6 := by omega
    have hl : 6 ≤ (List.replicate 6 (w.take (1 + c / 24 % 2).toNat)).flatten.length := by
      rw [List.length_flatten, List.map_replicate, List.sum_replicate_nat, List.length_take]
      have : 1 ≤ min (1 + c / 24 % 2).toNat w.length := by omega
      omega
    refine ⟨by rw [List.length_take]; omega, by rw [List.length_take]; omega, ok.sub fun x hx => ?_⟩
    obtain ⟨p, hp, hx⟩ := List.mem_flatten.mp (List.mem_of_mem_take hx)
    rw [List.eq_of_mem_replicate hp] at hx
    exact List.mem_of_mem_take hx
  · exact ⟨by omega, by omega, ok⟩
/-! ### the laws' own overlaps -/
def lawOvT (a b : List Nat) (k : Nat) : Bool := decide (1 + (k : Int) ≤ b.length) && decide (cutL b none (some (1 + (k : Int))) <:+ a)
def lawOverlaps (a b : List Nat) : List Int := ((List.range ((a.length : Int) + 1 - 1).toNat).filter (lawOvT a b)).map fun (k : Nat) => 1 + (k : Int)
abbrev S__law_overlaps (ds : List D) (r : Out) : Prop := ∃ (a b : List Nat), ds = [sD a, sD b] ∧ a.length ≤ 1000 ∧ b.length ≤ 1000 ∧ r = .rn ((lawOverlaps a b).map iD)
theorem S__law_overlaps_len {ds : List D} {r : Out} (h : S__law_overlaps ds r) : ds.length = 2 := by obtain ⟨_, _, rfl, _⟩ := h; rfl
theorem filter_range_le {n m : Nat} {p q : Nat → Bool} (h : n ≤ m) (h1 : ∀ k, k < n → p k = q k) (h2 : ∀ k, n ≤ k → k < m → q k = false) : (List.range n).filter p = (List.range m).filter q := by
  obtain ⟨d, rfl⟩ := Nat.exists_eq_add_of_le h
  rw [List.range_add, List.filter_append]
  have e : ((List.range d).map (n + ·)).filter q = [] := by
    rw [List.filter_eq_nil_iff]
    intro k hk
    obtain ⟨j, hj, rfl⟩ := List.mem_map.mp hk
    rw [h2 _ (by omega) (by have := List.mem_range.mp hj; omega)]
    decide
  rw [e, List.append_nil]
  exact List.filter_congr fun k hk => h1 k (List.mem_range.mp hk)
theorem overlaps_eq (a b : List Nat) : overlapsOf a b = lawOverlaps a b := by
  unfold overlapsOf lawOverlaps lawOvT
  congr 1
  refine filter_range_le (by omega) (fun k hk => ?_) fun k h1 h2 => ?_
  · rw [Bool.eq_iff_iff, Bool.and_eq_true, decide_eq_true_eq, decide_eq_true_eq, decide_eq_true_eq]
    rw [cut_from _ (by omega), cut_to _ (by omega)]
    have e : ((a.length : Int) - (1 + (k : Int))).toNat = a.length - (1 + k) := by omega
    have e2 : (1 + (k : Int)).toNat = 1 + k := by omega
    rw [e, e2]
    constructor
    · intro h
      exact ⟨by omega, h ▸ List.drop_suffix _ _⟩
    · rintro ⟨_, h⟩
      have := List.suffix_iff_eq_drop.mp h
      rw [List.length_take] at this
      rw [show min (1 + k) b.length = 1 + k by omega] at this
      exact this.symm
  · rw [decide_eq_false (by omega), Bool.false_and]
theorem overlaps_range {a b : List Nat} {k : Int} (h : k ∈ overlapsOf a b) : 1 ≤ k ∧ k ≤ a.length ∧ k ≤ b.length := by
  obtain ⟨j, hj, rfl⟩ := List.mem_map.mp h
  have := List.mem_range.mp (List.mem_filter.mp hj).1
  omega
theorem overlaps_len (a b : List Nat) : (overlapsOf a b).length ≤ a.length := by
  unfold overlapsOf
  rw [List.length_map]
  refine Nat.le_trans (List.length_filter_le _ _) ?_
  rw [List.length_range]
  omega
/-! ### lists alike -/
abbrev S__law_alike (ds : List D) (r : Out) : Prop := ∃ (a b : List Int), ds = [nums a, nums b] ∧ b.length ≤ 1000000 ∧ r = .rt (bD (decide (a = b)))
theorem S__law_alike_len {ds : List D} {r : Out} (h : S__law_alike ds r) : ds.length = 2 := by obtain ⟨_, _, rfl, _⟩ := h; rfl
theorem alike_iff {a b : List Int} (h : a.length = b.length) : ((List.range b.length).all fun k => decide (a.getD k 0 = b.getD k 0)) = decide (a = b) := by
  rw [Bool.eq_iff_iff, List.all_eq_true, decide_eq_true_eq]
  constructor
  · intro q
    refine List.ext_getElem h fun i h1 h2 => ?_
    have := q i (List.mem_range.mpr h2)
    rw [decide_eq_true_eq, getD_lt h1, getD_lt h2] at this
    exact this
  · rintro rfl k _
    exact decide_eq_true rfl
/-! ### the law's own -/
abbrev S_law (ds : List D) (r : Out) : Prop := ∃ ns : List Int, ds = [nums ns] ∧ ns.length ≤ 63 ∧ r = .rt (bD true)
theorem S_law_len {ds : List D} {r : Out} (h : S_law ds r) : ds.length = 1 := by obtain ⟨_, rfl, _⟩ := h; rfl
theorem hsp_law {K : PySem.W.Frag} {H : Hp} {a : Addr} {ns : List Int} {E : XK} (hl : ns.length ≤ 63) (hS : SqL K H a (ns.map V.int)) : spD K S_law [.ref a] H (fun v _ => v = .bl true) E :=
  ⟨H, [nums ns], .rt (bD true), Same.refl _, .cons (rp_lst.mpr ⟨a, _, rfl, hS, ints_dpAll ns⟩) .nil, ⟨ns, rfl, hl, rfl⟩, fun _ _ _ _ r => rp_bl.mp r⟩
theorem hcx_law {P : Program} {w : World} {H : Hp} {s : Shared} {e : Value} {s' : Shared} (h : L2.CX P w [] H s (fun _ _ _ => False) e s') : False := by
  obtain ⟨_, _, _, _, _, _, _, _, _, _, _, _, z⟩ := h
  exact z.elim
end Vs

/-! What the defs compute, second part: races, rows, states. -/
namespace Vs
open PySem PySem.Spec L2
theorem sgn_low {n c : Nat} (h : c ∈ sgn n) : c < 1114112 := by
  have := List.mem_of_mem_take h
  simp only [List.mem_cons, List.not_mem_nil, or_false] at this
  omega
theorem okText.low {n : Nat} {t : List Nat} (h : okText n t) : low t := fun c hc => sgn_low (h c hc)
/-! ### words -/
def clash (w one : List Nat) : Bool := decide (w <:+: one) || decide (one <:+: w)
def wordsStep (ns : List Int) (at_ sg : Int) (ws : List (List Nat)) (k : Nat) : List (List Nat) :=
  if ((ws.map (clash (wordL (cellAt ns (at_ + 1 + (k : Int)) % 1000003 + 7 * (k : Int)) sg))).any fun t => t) = true then ws else ws ++ [wordL (cellAt ns (at_ + 1 + (k : Int)) % 1000003 + 7 * (k : Int)) sg]
def wordsL (ns : List Int) (at_ sg : Int) : List (List Nat) := (List.range (1 + cellAt ns at_ % 4).toNat).foldl (wordsStep ns at_ sg) []
abbrev S__law_words (ds : List D) (r : Out) : Prop := ∃ (ns : List Int) (a sg : Int), ds = [nums ns, iD a, iD sg] ∧ 0 ≤ a ∧ 1 ≤ sg ∧ sg ≤ 4 ∧ r = .rn ((wordsL ns a sg).map sD)
theorem S__law_words_len {ds : List D} {r : Out} (h : S__law_words ds r) : ds.length = 3 := by obtain ⟨_, _, _, rfl, _⟩ := h; rfl
def apartP (ws : List (List Nat)) : Prop := ws.Pairwise fun a b => ¬ a <:+: b ∧ ¬ b <:+: a
theorem apart_of {ws : List (List Nat)} (h : apartP ws) : apart ws := by
  intro i j hi hj ne
  rw [getD_lt hi, getD_lt hj]
  have q := List.pairwise_iff_getElem.mp h
  by_cases hij : i < j
  · exact (q i j hi hj hij).1
  · exact (q j i hj hi (by omega)).2
theorem clash_none {ws : List (List Nat)} {w : List Nat} (h : ¬ ((ws.map (clash w)).any fun t => t) = true) : ∀ one ∈ ws, ¬ w <:+: one ∧ ¬ one <:+: w := fun one m => by
  have q : clash w one = false := by
    cases q : clash w one with
    | false => rfl
    | true => exact absurd (List.any_eq_true.mpr ⟨true, List.mem_map.mpr ⟨one, m, q⟩, rfl⟩) h
  unfold clash at q
  rw [Bool.or_eq_false_iff, decide_eq_false_iff_not, decide_eq_false_iff_not] at q
  exact q
theorem apartP_snoc {ws : List (List Nat)} {w : List Nat} (h : apartP ws) (q : ∀ one ∈ ws, ¬ w <:+: one ∧ ¬ one <:+: w) : apartP (ws ++ [w]) := by
  unfold apartP
  rw [List.pairwise_append]
  refine ⟨h, List.pairwise_singleton _ _, fun a ha b hb => ?_⟩
  rw [List.mem_singleton.mp hb]
  exact ⟨(q a ha).2, (q a ha).1⟩
theorem words_fold_len (ns : List Int) (a sg : Int) : ∀ (l : List Nat) (ws : List (List Nat)), ws.length ≤ (l.foldl (wordsStep ns a sg) ws).length ∧ (l.foldl (wordsStep ns a sg) ws).length ≤ ws.length + l.length
  | [], ws => ⟨Nat.le_refl _, Nat.le_refl _⟩
  | k :: l, ws => by
    rw [List.foldl_cons, List.length_cons]
    have ih := words_fold_len ns a sg l (wordsStep ns a sg ws k)
    have : ws.length ≤ (wordsStep ns a sg ws k).length ∧ (wordsStep ns a sg ws k).length ≤ ws.length + 1 := by
      unfold wordsStep
      split
      · omega
      · rw [List.length_append, List.length_singleton]; omega
    omega
theorem wordsL_len (ns : List Int) (a sg : Int) : 1 ≤ (wordsL ns a sg).length ∧ (wordsL ns a sg).length ≤ 4 := by
  have h0 : 0 ≤ cellAt ns a % 4 := Int.emod_nonneg _ (by decide)
  have h4 : cellAt ns a % 4 < 4 := Int.emod_lt_of_pos _ (by decide)
  unfold wordsL
  obtain ⟨m, hm⟩ : ∃ m, (1 + cellAt ns a % 4).toNat = m + 1 := ⟨(cellAt ns a % 4).toNat, by omega⟩
  rw [hm]
  constructor
  · rw [List.range_succ_eq_map, List.foldl_cons]
    have := (words_fold_len ns a sg ((List.range m).map Nat.succ) (wordsStep ns a sg [] 0)).1
    exact Nat.le_trans (by unfold wordsStep; rw [if_neg (by simp)]; simp) this
  · have := (words_fold_len ns a sg (List.range (m + 1)) []).2
    rw [List.length_nil, List.length_range] at this
    omega
theorem wordsL_ok {die : List Int} (ns : List Int) (a : Int) (hd : okDie die) : okRace die (wordsL ns a die.length) := by
  have key : (∀ w ∈ wordsL ns a die.length, okWord die.length w) ∧ apartP (wordsL ns a die.length) := by
    unfold wordsL
    refine foldl_inv (fun ws : List (List Nat) => (∀ w ∈ ws, okWord die.length w) ∧ apartP ws) _ _ _ ⟨fun _ h => (nomatch h), List.Pairwise.nil⟩ fun ws k _ ih => ?_
    unfold wordsStep
    split
    · exact ih
    · rename_i hc
      refine ⟨fun w hw => ?_, apartP_snoc ih.2 (clash_none hc)⟩
      rcases List.mem_append.mp hw with h | h
      · exact ih.1 w h
      · rw [List.mem_singleton.mp h]
        exact wordL_ok _ die.length (by have := hd.1; omega) hd.2.1
  exact ⟨hd, key.1, (wordsL_len ns a _).1, (wordsL_len ns a _).2, apart_of key.2⟩
theorem okRace.low {die : List Int} {ws : List (List Nat)} (h : okRace die ws) : ∀ w ∈ ws, Vs.low w := fun w hw => (h.2.1 w hw).2.2.low
theorem okRace.six {die : List Int} {ws : List (List Nat)} (h : okRace die ws) : ∀ w ∈ ws, w.length ≤ 6 := fun w hw => (h.2.1 w hw).2.1
theorem okRace.one {die : List Int} {ws : List (List Nat)} (h : okRace die ws) : ∀ w ∈ ws, 1 ≤ w.length := fun w hw => (h.2.1 w hw).1
theorem okRace.four {die : List Int} {ws : List (List Nat)} (h : okRace die ws) : ws.length ≤ 4 := h.2.2.2.1
/-! ### the first word that ends -/
theorem fs_some {α : Type} {f : Nat → Option α} : ∀ {n : Nat} {p : α}, (List.range n).findSome? f = some p → ∃ m, m < n ∧ f m = some p ∧ ∀ j, j < m → f j = none
  | 0, _, h => by simp at h
  | n + 1, p, h => by
    rw [List.range_succ, List.findSome?_append] at h
    cases q : (List.range n).findSome? f with
    | some p' =>
      rw [q] at h
      obtain ⟨m, h1, h2, h3⟩ := fs_some q
      have : p' = p := by simpa using h
      exact ⟨m, by omega, by rw [h2, this], h3⟩
    | none =>
      rw [q] at h
      have h' : f n = some p := by
        have h2 : ([n] : List Nat).findSome? f = some p := h
        rw [List.findSome?_singleton] at h2
        exact h2
      exact ⟨n, by omega, h', fun j hj => List.findSome?_eq_none_iff.mp q j (List.mem_range.mpr hj)⟩
theorem fs_none {α : Type} {f : Nat → Option α} {n : Nat} : (List.range n).findSome? f = none ↔ ∀ m, m < n → f m = none := by
  rw [List.findSome?_eq_none_iff]
  exact ⟨fun h m hm => h m (List.mem_range.mpr hm), fun h m hm => h m (List.mem_range.mp hm)⟩
def endT (ws : List (List Nat)) (t : List Nat) (k : Nat) : Bool := decide (ws.getD k [] <:+ t)
def endAt (ws : List (List Nat)) (t : List Nat) : Option Nat := (List.range ws.length).find? (endT ws t)
def firstStep (ws : List (List Nat)) (row : List Nat) (m : Nat) : Option (Int × Int) := (endAt ws (cutL row none (some (1 + (m : Int))))).map fun (k : Nat) => (1 + (m : Int), (k : Int))
def firstEnd (ws : List (List Nat)) (row : List Nat) : Option (Int × Int) := (List.range ((row.length : Int) + 1 - 1).toNat).findSome? (firstStep ws row)
abbrev S_first_end (ds : List D) (r : Out) : Prop := ∃ (ws : List (List Nat)) (row : List Nat), ds = [txts ws, sD row] ∧ ws.length ≤ 1000 ∧ row.length ≤ 1000 ∧ r = .rt (optD (firstEnd ws row))
theorem S_first_end_len {ds : List D} {r : Out} (h : S_first_end ds r) : ds.length = 2 := by obtain ⟨_, _, rfl, _⟩ := h; rfl
abbrev S_ended (ds : List D) (r : Out) : Prop := ∃ (die : List Int) (ws : List (List Nat)) (row : List Nat), ds = [nums die, txts ws, sD row] ∧ okRace die ws ∧ okRow die.length row ∧ r = .rt (optD (firstEnd ws row))
theorem S_ended_len {ds : List D} {r : Out} (h : S_ended ds r) : ds.length = 3 := by obtain ⟨_, _, _, rfl, _⟩ := h; rfl
def lawEndT (ws : List (List Nat)) (row : List Nat) (n : Int) (k : Nat) : Bool := decide (((ws.getD k []).length : Int) ≤ n) && decide (cutL row (some (n - ((ws.getD k []).length : Int))) (some n) = ws.getD k [])
def lawFirstStep (ws : List (List Nat)) (row : List Nat) (m : Nat) : Option (Int × Int) := ((List.range ws.length).find? (lawEndT ws row (1 + (m : Int)))).map fun (k : Nat) => (1 + (m : Int), (k : Int))
def lawFirst (ws : List (List Nat)) (row : List Nat) : Option (Int × Int) := (List.range ((row.length : Int) + 1 - 1).toNat).findSome? (lawFirstStep ws row)
abbrev S__law_first (ds : List D) (r : Out) : Prop := ∃ (ws : List (List Nat)) (row : List Nat), ds = [txts ws, sD row] ∧ ws.length ≤ 1000 ∧ row.length ≤ 1000 ∧ (∀ w ∈ ws, w.length ≤ 6) ∧ r = .rt (optD (lawFirst ws row))
theorem S__law_first_len {ds : List D} {r : Out} (h : S__law_first ds r) : ds.length = 2 := by obtain ⟨_, _, rfl, _⟩ := h; rfl
theorem find_congr {p q : Nat → Bool} {l : List Nat} (h : ∀ k ∈ l, p k = q k) : l.find? p = l.find? q := by
  induction l with
  | nil => rfl
  | cons a l ih =>
    rw [List.find?_cons, List.find?_cons, h a List.mem_cons_self, ih fun k hk => h k (List.mem_cons_of_mem _ hk)]
theorem findSome_congr {α : Type} {p q : Nat → Option α} {l : List Nat} (h : ∀ k ∈ l, p k = q k) : l.findSome? p = l.findSome? q := by
  induction l with
  | nil => rfl
  | cons a l ih =>
    rw [List.findSome?_cons, List.findSome?_cons, h a List.mem_cons_self, ih fun k hk => h k (List.mem_cons_of_mem _ hk)]
theorem lawFirst_eq (ws : List (List Nat)) (row : List Nat) : lawFirst ws row = firstEnd ws row := by
  unfold lawFirst firstEnd
  refine findSome_congr fun m hm => ?_
  have hm := List.mem_range.mp hm
  unfold lawFirstStep firstStep endAt
  congr 1
  refine find_congr fun k _ => ?_
  unfold lawEndT endT
  generalize ws.getD k [] = w
  have e1 : (1 + (m : Int)) = ((1 + m : Nat) : Int) := by omega
  rw [e1, cutL_to, Bool.eq_iff_iff, Bool.and_eq_true, decide_eq_true_eq, decide_eq_true_eq, decide_eq_true_eq]
  have hl : (row.take (1 + m)).length = 1 + m := by rw [List.length_take]; omega
  constructor
  · rintro ⟨h1, h2⟩
    have e2 : (((1 + m : Nat) : Int) - (w.length : Int)) = ((1 + m - w.length : Nat) : Int) := by omega
    rw [e2, cutL_mid] at h2
    rw [← h2]
    exact List.drop_suffix _ _
  · intro h
    have h1 := h.length_le
    rw [hl] at h1
    have e2 : (((1 + m : Nat) : Int) - (w.length : Int)) = ((1 + m - w.length : Nat) : Int) := by omega
    refine ⟨by omega, ?_⟩
    rw [e2, cutL_mid]
    have := List.suffix_iff_eq_drop.mp h
    rw [hl] at this
    exact this.symm
theorem firstEnd_some {ws : List (List Nat)} {row : List Nat} {p : Int × Int} (h : firstEnd ws row = some p) : ∃ m k : Nat, p = (1 + (m : Int), (k : Int)) ∧ m < row.length ∧ k < ws.length ∧ ∀ j, j < m → firstStep ws row j = none := by
  obtain ⟨m, h1, h2, h3⟩ := fs_some h
  unfold firstStep at h2
  obtain ⟨k, hk, rfl⟩ := Option.map_eq_some_iff.mp h2
  exact ⟨m, k, rfl, by omega, List.mem_range.mp (List.mem_of_find?_eq_some hk), h3⟩
theorem firstEnd_cut {ws : List (List Nat)} {row : List Nat} {p : Int × Int} (h : firstEnd ws row = some p) : firstEnd ws (cutL row none (some (p.1 - 1))) = none := by
  obtain ⟨m, k, rfl, h1, _, h3⟩ := firstEnd_some h
  have e : ((1 + (m : Int), (k : Int)) : Int × Int).1 - 1 = (m : Int) := by show 1 + (m : Int) - 1 = _; omega
  rw [e, cutL_to]
  unfold firstEnd
  rw [fs_none]
  intro j hj
  rw [List.length_take] at hj
  have := h3 j (by omega)
  unfold firstStep at this ⊢
  have e2 : (1 + (j : Int)) = ((1 + j : Nat) : Int) := by omega
  rw [e2, cutL_to] at this ⊢
  rw [List.take_take, show min (1 + j) m = 1 + j by omega]
  exact this
/-! ### beginnings -/
theorem putL_len {α : Type} (kv : List (List Nat × α)) (z : List Nat) (d : α) : (putL kv z d).length ≤ kv.length + 1 := by
  unfold putL
  split
  · rw [List.length_map]; omega
  · rw [List.length_append, List.length_singleton]; omega
theorem putL_keys {α : Type} (kv : List (List Nat × α)) (z : List Nat) (d : α) : (putL kv z d).map (·.1) = if z ∈ kv.map (·.1) then kv.map (·.1) else kv.map (·.1) ++ [z] := by
  unfold putL
  have e : (kv.any fun p => decide (p.1 = z)) = true ↔ z ∈ kv.map (·.1) := by
    rw [List.any_eq_true, List.mem_map]
    constructor
    · rintro ⟨p, h1, h2⟩
      exact ⟨p, h1, of_decide_eq_true h2⟩
    · rintro ⟨p, h1, h2⟩
      exact ⟨p, h1, decide_eq_true h2⟩
  by_cases h : z ∈ kv.map (·.1)
  · rw [if_pos (e.mpr h), if_pos h, List.map_map]
    refine List.map_congr_left fun p _ => ?_
    show (if p.1 = z then (p.1, d) else p).1 = p.1
    split <;> rfl
  · rw [if_neg (fun q => h (e.mp q)), if_neg h, List.map_append]; rfl
theorem putL_mem {α : Type} {kv : List (List Nat × α)} {z : List Nat} {d : α} {t : List Nat} : t ∈ (putL kv z d).map (·.1) ↔ t = z ∨ t ∈ kv.map (·.1) := by
  rw [putL_keys]
  split
  · rename_i h
    constructor
    · exact .inr
    · rintro (rfl | h')
      · exact h
      · exact h'
  · rw [List.mem_append, List.mem_singleton, or_comm]
theorem putL_nodup {α : Type} {kv : List (List Nat × α)} {z : List Nat} {d : α} (h : (kv.map (·.1)).Nodup) : ((putL kv z d).map (·.1)).Nodup := by
  rw [putL_keys]
  split
  · exact h
  · rename_i hz
    rw [List.nodup_append]
    exact ⟨h, (List.pairwise_singleton _ _), fun a ha b hb e => hz (by rw [List.mem_singleton] at hb; rw [← hb, ← e]; exact ha)⟩
def metStep (w : List Nat) (kv : List (List Nat × Bool)) (k : Nat) : List (List Nat × Bool) := putL kv (cutL w none (some (k : Int))) true
def metWord (kv : List (List Nat × Bool)) (w : List Nat) : List (List Nat × Bool) := (List.range ((w.length : Int) + 1).toNat).foldl (metStep w) kv
def metL (ws : List (List Nat)) : List (List Nat × Bool) := ws.foldl metWord []
def beginsL (ws : List (List Nat)) : List (List Nat) := ((((metL ws).map (·.1)).map fun (t : List Nat) => ((t.length : Int), t)).mergeSort leT).map fun (q : Int × List Nat) => q.2
abbrev S_beginnings_of (ds : List D) (r : Out) : Prop := ∃ (ws : List (List Nat)), ds = [txts ws] ∧ ws.length ≤ 4 ∧ (∀ w ∈ ws, w.length ≤ 6) ∧ r = .rn ((beginsL ws).map sD)
theorem S_beginnings_of_len {ds : List D} {r : Out} (h : S_beginnings_of ds r) : ds.length = 1 := by obtain ⟨_, rfl, _⟩ := h; rfl
abbrev S_beginnings (ds : List D) (r : Out) : Prop := ∃ (die : List Int) (ws : List (List Nat)), ds = [nums die, txts ws] ∧ okRace die ws ∧ r = .rn ((beginsL ws).map sD)
theorem S_beginnings_len {ds : List D} {r : Out} (h : S_beginnings ds r) : ds.length = 2 := by obtain ⟨_, _, rfl, _⟩ := h; rfl
theorem metStep_len (w : List Nat) : ∀ (l : List Nat) (kv : List (List Nat × Bool)), (l.foldl (metStep w) kv).length ≤ kv.length + l.length
  | [], kv => Nat.le_refl _
  | k :: l, kv => by
    rw [List.foldl_cons, List.length_cons]
    have := metStep_len w l (metStep w kv k)
    have h2 := putL_len kv (cutL w none (some (k : Int))) true
    have h3 : (metStep w kv k).length = (putL kv (cutL w none (some (k : Int))) true).length := rfl
    omega
theorem metWord_len {kv : List (List Nat × Bool)} {w : List Nat} (h : w.length ≤ 6) : (metWord kv w).length ≤ kv.length + 7 := by
  have := metStep_len w (List.range ((w.length : Int) + 1).toNat) kv
  rw [List.length_range] at this
  unfold metWord
  omega
theorem met_len {ws : List (List Nat)} (h : ∀ w ∈ ws, w.length ≤ 6) : ∀ kv, (ws.foldl metWord kv).length ≤ kv.length + 7 * ws.length := by
  induction ws with
  | nil => intro kv; exact Nat.le_refl _
  | cons w ws ih =>
    intro kv
    rw [List.foldl_cons, List.length_cons]
    have := ih (fun v hv => h v (List.mem_cons_of_mem _ hv)) (metWord kv w)
    have h2 := metWord_len (kv := kv) (h w List.mem_cons_self)
    omega
theorem metWord_keys (w : List Nat) (kv : List (List Nat × Bool)) : (∀ t, t ∈ (metWord kv w).map (·.1) ↔ t <+: w ∨ t ∈ kv.map (·.1)) ∧ ((kv.map (·.1)).Nodup → ((metWord kv w).map (·.1)).Nodup) := by
  have key : ∀ (l : List Nat) (kv : List (List Nat × Bool)), (∀ t, t ∈ (l.foldl (metStep w) kv).map (·.1) ↔ (∃ k ∈ l, t = w.take k) ∨ t ∈ kv.map (·.1)) ∧ ((kv.map (·.1)).Nodup → ((l.foldl (metStep w) kv).map (·.1)).Nodup) := by
    intro l
    induction l with
    | nil => intro kv; exact ⟨fun t => ⟨.inr, fun h => h.elim (fun ⟨_, h, _⟩ => nomatch h) id⟩, id⟩
    | cons k l ih =>
      intro kv
      rw [List.foldl_cons]
      obtain ⟨h1, h2⟩ := ih (metStep w kv k)
      refine ⟨fun t => ?_, fun n => h2 (putL_nodup n)⟩
      rw [h1 t]
      have : t ∈ (metStep w kv k).map (·.1) ↔ t = w.take k ∨ t ∈ kv.map (·.1) := by
        unfold metStep
        rw [putL_mem, cutL_to]
      rw [this]
      constructor
      · rintro (⟨j, hj, e⟩ | e | h)
        · exact .inl ⟨j, List.mem_cons_of_mem _ hj, e⟩
        · exact .inl ⟨k, List.mem_cons_self, e⟩
        · exact .inr h
      · rintro (⟨j, hj, e⟩ | h)
        · rcases List.mem_cons.mp hj with rfl | hj
          · exact .inr (.inl e)
          · exact .inl ⟨j, hj, e⟩
        · exact .inr (.inr h)
  obtain ⟨h1, h2⟩ := key (List.range ((w.length : Int) + 1).toNat) kv
  refine ⟨fun t => ?_, h2⟩
  unfold metWord
  rw [h1 t]
  have : (∃ k ∈ List.range ((w.length : Int) + 1).toNat, t = w.take k) ↔ t <+: w := by
    constructor
    · rintro ⟨k, _, rfl⟩
      exact List.take_prefix _ _
    · intro h
      have := h.length_le
      exact ⟨t.length, List.mem_range.mpr (by omega), List.prefix_iff_eq_take.mp h⟩
  rw [this]
theorem metL_keys (ws : List (List Nat)) : (∀ t, t ∈ (metL ws).map (·.1) ↔ ∃ w ∈ ws, t <+: w) ∧ ((metL ws).map (·.1)).Nodup := by
  have key : ∀ (ws : List (List Nat)) (kv : List (List Nat × Bool)), (kv.map (·.1)).Nodup → (∀ t, t ∈ (ws.foldl metWord kv).map (·.1) ↔ (∃ w ∈ ws, t <+: w) ∨ t ∈ kv.map (·.1)) ∧ ((ws.foldl metWord kv).map (·.1)).Nodup := by
    intro ws
    induction ws with
    | nil => intro kv n; exact ⟨fun t => ⟨.inr, fun h => h.elim (fun ⟨_, h, _⟩ => nomatch h) id⟩, n⟩
    | cons w ws ih =>
      intro kv n
      rw [List.foldl_cons]
      obtain ⟨h1, h2⟩ := metWord_keys w kv
      obtain ⟨h3, h4⟩ := ih (metWord kv w) (h2 n)
      refine ⟨fun t => ?_, h4⟩
      rw [h3 t, h1 t]
      constructor
      · rintro (⟨v, hv, e⟩ | e | h)
        · exact .inl ⟨v, List.mem_cons_of_mem _ hv, e⟩
        · exact .inl ⟨w, List.mem_cons_self, e⟩
        · exact .inr h
      · rintro (⟨v, hv, e⟩ | h)
        · rcases List.mem_cons.mp hv with rfl | hv
          · exact .inr (.inl e)
          · exact .inl ⟨v, hv, e⟩
        · exact .inr (.inr h)
  obtain ⟨h1, h2⟩ := key ws [] List.nodup_nil
  refine ⟨fun t => ?_, h2⟩
  unfold metL
  rw [h1 t]
  exact ⟨fun h => h.elim id (fun h => nomatch h), .inl⟩
theorem begins_mem {ws : List (List Nat)} {t : List Nat} : t ∈ beginsL ws ↔ ∃ w ∈ ws, t <+: w := by
  rw [← (metL_keys ws).1 t]
  unfold beginsL
  rw [List.mem_map]
  constructor
  · rintro ⟨q, hq, rfl⟩
    have := List.mem_mergeSort.mp hq
    obtain ⟨t, ht, rfl⟩ := List.mem_map.mp this
    exact ht
  · intro h
    exact ⟨((t.length : Int), t), List.mem_mergeSort.mpr (List.mem_map.mpr ⟨t, h, rfl⟩), rfl⟩
theorem begins_len {ws : List (List Nat)} (h4 : ws.length ≤ 4) (h : ∀ w ∈ ws, w.length ≤ 6) : (beginsL ws).length ≤ 28 := by
  unfold beginsL
  rw [List.length_map, List.length_mergeSort, List.length_map, List.length_map]
  have := met_len h []
  rw [List.length_nil] at this
  unfold metL
  omega
/-! ### states -/
def longT (known : List (List Nat)) (t : List Nat) (k : Nat) : Bool := decide (cutL t (some (k : Int)) none ∈ known)
def longestEnd (known : List (List Nat)) (t : List Nat) : List Nat := match (List.range ((t.length : Int) + 1).toNat).find? (longT known t) with
  | some k => cutL t (some (k : Int)) none
  | none => []
abbrev S_longest_end (ds : List D) (r : Out) : Prop := ∃ (ws : List (List Nat)) (t : List Nat), ds = [txts ws, sD t] ∧ t.length ≤ 1000 ∧ r = .rt (sD (longestEnd ws t))
theorem S_longest_end_len {ds : List D} {r : Out} (h : S_longest_end ds r) : ds.length = 2 := by obtain ⟨_, _, rfl, _⟩ := h; rfl
def stateBy (known : List (List Nat)) (row : List Nat) : List Nat := row.foldl (fun s c => longestEnd known (s ++ [c])) []
theorem longest_len (known : List (List Nat)) (t : List Nat) : (longestEnd known t).length ≤ t.length := by
  unfold longestEnd
  split
  · exact cutL_len _ _ _
  · exact Nat.zero_le _
abbrev S_state_by (ds : List D) (r : Out) : Prop := ∃ (ws : List (List Nat)) (t : List Nat), ds = [txts ws, sD t] ∧ t.length ≤ 900 ∧ r = .rt (sD (stateBy ws t))
theorem S_state_by_len {ds : List D} {r : Out} (h : S_state_by ds r) : ds.length = 2 := by obtain ⟨_, _, rfl, _⟩ := h; rfl
abbrev S_state_of (ds : List D) (r : Out) : Prop := ∃ (die : List Int) (ws : List (List Nat)) (row : List Nat), ds = [nums die, txts ws, sD row] ∧ okRace die ws ∧ okRow die.length row ∧ r = .rt (sD (stateBy (beginsL ws) row))
theorem S_state_of_len {ds : List D} {r : Out} (h : S_state_of ds r) : ds.length = 3 := by obtain ⟨_, _, _, rfl, _⟩ := h; rfl
def stateT (ws : List (List Nat)) (t : List Nat) (k : Nat) : Bool := (ws.map fun w => decide (cutL t (some (k : Int)) none <+: w)).any fun t => t
def stateL (ws : List (List Nat)) (t : List Nat) : List Nat := match (List.range ((t.length : Int) + 1).toNat).find? (stateT ws t) with
  | some k => cutL t (some (k : Int)) none
  | none => []
abbrev S__law_state (ds : List D) (r : Out) : Prop := ∃ (ws : List (List Nat)) (t : List Nat), ds = [txts ws, sD t] ∧ ws.length ≤ 1000 ∧ t.length ≤ 1000 ∧ r = .rt (sD (stateL ws t))
theorem S__law_state_len {ds : List D} {r : Out} (h : S__law_state ds r) : ds.length = 2 := by obtain ⟨_, _, rfl, _⟩ := h; rfl
theorem stateT_iff {ws : List (List Nat)} {t : List Nat} {k : Nat} : stateT ws t k = true ↔ ∃ w ∈ ws, t.drop k <+: w := by
  unfold stateT
  rw [List.any_eq_true]
  constructor
  · rintro ⟨b, hb, hb2⟩
    obtain ⟨w, hw, e⟩ := List.mem_map.mp hb
    rw [hb2, decide_eq_true_eq, cutL_from] at e
    exact ⟨w, hw, e⟩
  · rintro ⟨w, hw, e⟩
    exact ⟨true, List.mem_map.mpr ⟨w, hw, by rw [decide_eq_true_eq, cutL_from]; exact e⟩, rfl⟩
theorem longest_state (ws : List (List Nat)) (t : List Nat) : longestEnd (beginsL ws) t = stateL ws t := by
  unfold longestEnd stateL
  have : (List.range ((t.length : Int) + 1).toNat).find? (longT (beginsL ws) t) = (List.range ((t.length : Int) + 1).toNat).find? (stateT ws t) := find_congr fun k _ => by
    rw [Bool.eq_iff_iff, stateT_iff]
    unfold longT
    rw [decide_eq_true_eq, begins_mem, cutL_from]
  rw [this]
/-- the state is the longest end that begins a word -/
theorem state_spec (ws : List (List Nat)) (t : List Nat) : (stateL ws t = [] ∨ ∃ w ∈ ws, stateL ws t <+: w) ∧ stateL ws t <:+ t ∧ ∀ u, u <:+ t → (∃ w ∈ ws, u <+: w) → u.length ≤ (stateL ws t).length := by
  unfold stateL
  cases h : (List.range ((t.length : Int) + 1).toNat).find? (stateT ws t) with
  | none =>
    refine ⟨.inl rfl, List.nil_suffix, fun u hu ⟨w, hw, hp⟩ => ?_⟩
    exfalso
    have hl := hu.length_le
    have := List.find?_eq_none.mp h (t.length - u.length) (List.mem_range.mpr (by omega))
    exact this (stateT_iff.mpr ⟨w, hw, by rw [← List.suffix_iff_eq_drop.mp hu]; exact hp⟩)
  | some k =>
    show (cutL t (some (k : Int)) none = [] ∨ ∃ w ∈ ws, cutL t (some (k : Int)) none <+: w) ∧ cutL t (some (k : Int)) none <:+ t ∧ ∀ u, u <:+ t → (∃ w ∈ ws, u <+: w) → u.length ≤ (cutL t (some (k : Int)) none).length
    rw [cutL_from]
    have h1 := List.find?_some h
    have hk := List.mem_range.mp (List.mem_of_find?_eq_some h)
    refine ⟨.inr (stateT_iff.mp h1), List.drop_suffix _ _, fun u hu ⟨w, hw, hp⟩ => ?_⟩
    have hl := hu.length_le
    rw [List.length_drop]
    by_cases hc : t.length - u.length < k
    · exfalso
      obtain ⟨_, as, bs, e1, e2⟩ := List.find?_eq_some_iff_append.mp h
      have e3 : as.length = k := by
        have g : (List.range ((t.length : Int) + 1).toNat)[as.length]? = some k := by rw [e1, List.getElem?_append_right (Nat.le_refl _), Nat.sub_self]; rfl
        have hlt : as.length < ((t.length : Int) + 1).toNat := by
          have := congrArg List.length e1
          rw [List.length_range, List.length_append, List.length_cons] at this
          omega
        rw [List.getElem?_range hlt] at g
        exact Option.some.inj g
      have m : t.length - u.length ∈ as := by
        have g : (List.range ((t.length : Int) + 1).toNat)[t.length - u.length]? = some (t.length - u.length) := List.getElem?_range (by omega)
        rw [e1, List.getElem?_append_left (by omega)] at g
        exact List.mem_of_getElem? g
      have := e2 _ m
      rw [stateT_iff.mpr ⟨w, hw, by rw [← List.suffix_iff_eq_drop.mp hu]; exact hp⟩] at this
      exact absurd this (by decide)
    · omega
theorem state_uniq {ws : List (List Nat)} {t u : List Nat} (h1 : u <:+ t) (h2 : ∃ w ∈ ws, u <+: w) (h3 : ∀ v, v <:+ t → (∃ w ∈ ws, v <+: w) → v.length ≤ u.length) : stateL ws t = u := by
  obtain ⟨a1, a2, a3⟩ := state_spec ws t
  have l1 := a3 u h1 h2
  have hs : ∃ w ∈ ws, stateL ws t <+: w := by
    rcases a1 with e | h
    · obtain ⟨w, hw, _⟩ := h2
      exact ⟨w, hw, by rw [e]; exact List.nil_prefix⟩
    · exact h
  have l2 := h3 _ a2 hs
  have e1 := List.suffix_iff_eq_drop.mp a2
  have e2 := List.suffix_iff_eq_drop.mp h1
  rw [e1, e2, show (stateL ws t).length = u.length by omega]
theorem state_pre {ws : List (List Nat)} (hn : ws ≠ []) (t : List Nat) : ∃ w ∈ ws, stateL ws t <+: w := by
  rcases (state_spec ws t).1 with e | h
  · obtain ⟨w, r, rfl⟩ : ∃ w r, ws = w :: r := by
      cases ws with
      | nil => exact absurd rfl hn
      | cons w r => exact ⟨w, r, rfl⟩
    exact ⟨w, List.mem_cons_self, by rw [e]; exact List.nil_prefix⟩
  · exact h
/-- one sign more: the state of the state and the sign -/
theorem state_snoc {ws : List (List Nat)} (hn : ws ≠ []) (t : List Nat) (c : Nat) : stateL ws (t ++ [c]) = stateL ws (stateL ws t ++ [c]) := by
  obtain ⟨a1, a2, a3⟩ := state_spec ws (stateL ws t ++ [c])
  obtain ⟨b1, b2, b3⟩ := state_spec ws t
  refine state_uniq (a2.trans ?_) (state_pre hn _) fun v hv hp => ?_
  · obtain ⟨s, e⟩ := b2
    exact ⟨s, by rw [← e, List.append_assoc, e]⟩
  · -- v is an end of the state and the sign, too
    have key : v <:+ stateL ws t ++ [c] := by
      rcases List.eq_nil_or_concat v with rfl | ⟨v', d, rfl⟩
      · exact List.nil_suffix
      · rw [List.concat_eq_append] at hv hp ⊢
        obtain ⟨s, e⟩ := hv
        rw [← List.append_assoc] at e
        obtain ⟨e1, e2⟩ := List.append_inj' e rfl
        have hv' : v' <:+ t := ⟨s, e1⟩
        have hp' : ∃ w ∈ ws, v' <+: w := by
          obtain ⟨w, hw, q⟩ := hp
          exact ⟨w, hw, (List.prefix_append v' [d]).trans q⟩
        have hl := b3 v' hv' hp'
        have hs : v' <:+ stateL ws t := List.suffix_of_suffix_length_le hv' b2 hl
        obtain ⟨s', e'⟩ := hs
        exact ⟨s', by rw [← List.append_assoc, e', e2]⟩
    exact a3 v key hp
theorem stateBy_eq {ws : List (List Nat)} (hn : ws ≠ []) (row : List Nat) : stateBy (beginsL ws) row = stateL ws row := by
  have nil : stateL ws [] = [] := List.eq_nil_of_suffix_nil (state_spec ws []).2.1
  have key : ∀ (l t : List Nat), l.foldl (fun s c => longestEnd (beginsL ws) (s ++ [c])) (stateL ws t) = stateL ws (t ++ l) := by
    intro l
    induction l with
    | nil => intro t; rw [List.append_nil]; rfl
    | cons c l ih =>
      intro t
      rw [List.foldl_cons, longest_state, ← state_snoc hn, ih, List.append_assoc]; rfl
  have := key row []
  rw [nil, List.nil_append] at this
  exact this
/-! ### rows put together -/
def rowStep (ws : List (List Nat)) (row : List Nat) (c : Int) : List Nat := row ++ cutL (ws.getD (c % (ws.length : Int)).toNat []) none (some (c / 4 % (((ws.getD (c % (ws.length : Int)).toNat []).length : Int) + 1)))
def rowL (M hi cap : Int) (ns : List Int) (ws : List (List Nat)) (sg : Int) : List Nat := cutL (if cellAt ns 8 % 2 = 1 then (cutL ns (some 9) (some hi)).foldl (rowStep ws) [] else thrownL (cellAt ns 6) (cellAt ns 7 % M).toNat sg) none (some cap)
abbrev S_row (M hi cap : Int) (ds : List D) (r : Out) : Prop := ∃ (ns : List Int) (ws : List (List Nat)) (sg : Int), ds = [nums ns, txts ws, iD sg] ∧ ns.length ≤ 63 ∧ 1 ≤ ws.length ∧ (∀ w ∈ ws, w.length ≤ 6) ∧ 1 ≤ sg ∧ sg ≤ 4 ∧ r = .rt (sD (rowL M hi cap ns ws sg))
abbrev S_row3 := S_row 61 19 60
abbrev S_row4 := S_row 13 13 12
theorem S_row3_len {ds : List D} {r : Out} (h : S_row3 ds r) : ds.length = 3 := by obtain ⟨_, _, _, rfl, _⟩ := h; rfl
theorem S_row4_len {ds : List D} {r : Out} (h : S_row4 ds r) : ds.length = 3 := by obtain ⟨_, _, _, rfl, _⟩ := h; rfl
theorem rowL_ok {M hi cap : Int} {die : List Int} {ws : List (List Nat)} (ns : List Int) (hd : okDie die) (ok : okRace die ws) (hc : 0 ≤ cap) : (rowL M hi cap ns ws die.length).length ≤ cap.toNat ∧ okText die.length (rowL M hi cap ns ws die.length) := by
  unfold rowL
  refine ⟨by rw [cut_to _ hc, List.length_take]; exact Nat.min_le_left _ _, okText.sub ?_ fun c h => cutL_sub h⟩
  split
  · refine foldl_inv (fun t : List Nat => okText die.length t) _ _ _ (fun _ h => nomatch h) fun t c _ ih => ?_
    intro x hx
    rcases List.mem_append.mp hx with h | h
    · exact ih x h
    · have hl := ok.2.2.1
      have m0 : 0 ≤ c % (ws.length : Int) := Int.emod_nonneg _ (by omega)
      have m1 : c % (ws.length : Int) < ws.length := Int.emod_lt_of_pos _ (by omega)
      exact (ok.2.1 _ (getD_mem (by omega))).2.2 x (cutL_sub h)
  · exact thrownL_ok _ _ _ (by have := hd.1; omega) hd.2.1
/-! ### sign by sign -/
theorem shp_opt (o : Option (Int × Int)) : SeqAt.shaped (optD o) = true := by
  cases o with
  | none => rfl
  | some p => exact shp_pair p
theorem nd_opt (o : Option (Int × Int)) : nodict (optD o) = true := by cases o <;> rfl
theorem eqv_opt (a b : Option (Int × Int)) : PyData.eqv (optD a) (optD b) = decide (a = b) := by
  cases a with
  | none =>
    cases b with
    | none => simp [PyData.eqv]
    | some q => simp [PyData.eqv]
  | some p =>
    cases b with
    | none => simp [PyData.eqv]
    | some q =>
      show PyData.eqv (pD p) (pD q) = _
      rw [eqv_pair]
      exact decide_eq_decide.mpr ⟨fun h => by rw [h], fun h => Option.some.inj h⟩
theorem endT_state {ws : List (List Nat)} (ha : apart ws) (hn : ws ≠ []) (t : List Nat) {k : Nat} (hk : k < ws.length) : endT ws t k = decide (ws.getD k [] = stateL ws t) := by
  obtain ⟨_, a2, a3⟩ := state_spec ws t
  obtain ⟨w', hw', hp'⟩ := state_pre hn t
  unfold endT
  rw [Bool.eq_iff_iff, decide_eq_true_eq, decide_eq_true_eq]
  constructor
  · intro h
    have hm : ws.getD k [] ∈ ws := getD_mem hk
    have hl := a3 _ h ⟨_, hm, List.prefix_refl _⟩
    have hs : ws.getD k [] <:+ stateL ws t := List.suffix_of_suffix_length_le h a2 hl
    obtain ⟨j, hj, e⟩ := List.mem_iff_getElem.mp hw'
    have e' : ws.getD j [] = w' := by rw [getD_lt hj, e]
    have hi : ws.getD k [] <:+: ws.getD j [] := by rw [e']; exact hs.isInfix.trans hp'.isInfix
    by_cases hjk : j = k
    · subst hjk
      have l2 := hp'.length_le
      rw [← e'] at l2
      exact hs.eq_of_length (by omega)
    · exact absurd hi (ha k j hk hj hjk)
  · intro h; rw [h]; exact a2
theorem find_idx {ws : List (List Nat)} {s : List Nat} : (List.range ws.length).find? (fun k => decide (ws.getD k [] = s)) = if s ∈ ws then some (ws.idxOf s) else none := by
  split
  · rename_i h
    have hl : ws.idxOf s < ws.length := List.idxOf_lt_length_iff.mpr h
    rw [List.find?_range_eq_some]
    refine ⟨by rw [decide_eq_true_eq, getD_lt hl, List.getElem_idxOf hl], List.mem_range.mpr hl, fun j hj => ?_⟩
    rw [Bool.not_eq_true', decide_eq_false_iff_not]
    intro e
    have hj' : j < ws.length := by omega
    have := idxOf_leG (a := ws) (i := j) (c := s) (by rw [List.getElem?_eq_getElem hj', ← getD_lt (z := []) hj', e])
    omega
  · rename_i h
    rw [List.find?_eq_none]
    intro k hk e
    exact h (by rw [← of_decide_eq_true e]; exact getD_mem (List.mem_range.mp hk))
theorem endAt_state {ws : List (List Nat)} (ha : apart ws) (hn : ws ≠ []) (t : List Nat) : endAt ws t = if stateL ws t ∈ ws then some (ws.idxOf (stateL ws t)) else none := by
  rw [← find_idx]
  exact find_congr fun k hk => endT_state ha hn t (List.mem_range.mp hk)
theorem firstEnd_snoc {ws : List (List Nat)} {row : List Nat} {i : Nat} (hi : i < row.length) : firstEnd ws (row.take (i + 1)) = match firstEnd ws (row.take i) with
    | some p => some p
    | none => (endAt ws (row.take (i + 1))).map fun (k : Nat) => ((i : Int) + 1, (k : Int)) := by
  unfold firstEnd
  have l1 : (((row.take (i + 1)).length : Int) + 1 - 1).toNat = i + 1 := by rw [List.length_take]; omega
  have l2 : (((row.take i).length : Int) + 1 - 1).toNat = i := by rw [List.length_take]; omega
  rw [l1, l2, List.range_succ, List.findSome?_append]
  have e : (List.range i).findSome? (firstStep ws (row.take (i + 1))) = (List.range i).findSome? (firstStep ws (row.take i)) := findSome_congr fun m hm => by
    have hm := List.mem_range.mp hm
    unfold firstStep
    have e2 : (1 + (m : Int)) = ((1 + m : Nat) : Int) := by omega
    rw [e2, cutL_to, cutL_to, List.take_take, List.take_take, show min (1 + m) (i + 1) = 1 + m by omega, show min (1 + m) i = 1 + m by omega]
  rw [e]
  cases (List.range i).findSome? (firstStep ws (row.take i)) with
  | some p => rfl
  | none =>
    show List.findSome? (firstStep ws (row.take (i + 1))) [i] = _
    rw [List.findSome?_singleton]
    unfold firstStep
    have e2 : (1 + (i : Int)) = ((1 + i : Nat) : Int) := by omega
    have e3 : (i : Int) + 1 = ((1 + i : Nat) : Int) := by omega
    rw [e2, e3, cutL_to, List.take_take, show min (1 + i) (i + 1) = i + 1 by omega]
end Vs

/-! A race as a text. -/
namespace Vs
open PySem PySem.Spec L2
theorem joinT_eq (l : List Nat) (ls : List (List Nat)) : joinT l ls = TL.joinL l ls := by
  unfold joinT
  have e := congrArg TL.tl (TL.join_eq (S l) (ls.map S))
  refine (show _ = TL.tl (Str.join (S l) (ls.map S)) from e).trans ?_
  rw [TL.tl_join, List.map_map]
  have : (TL.tl ∘ S) = fun t : List Nat => t := rfl
  rw [this, List.map_id']
theorem joinL_len (l : List Nat) : ∀ ls : List (List Nat), (TL.joinL l ls).length ≤ (ls.map (·.length)).sum + ls.length * l.length
  | [] => Nat.zero_le _
  | [a] => by show a.length ≤ (a.length + 0) + 1 * l.length; omega
  | a :: b :: r => by
    have ih := joinL_len l (b :: r)
    show (a ++ (l ++ TL.joinL l (b :: r))).length ≤ _
    rw [List.length_append, List.length_append, List.map_cons, List.sum_cons, List.length_cons, Nat.add_mul]
    omega
theorem sum_lens {n : Nat} : ∀ {ls : List (List Nat)}, (∀ w ∈ ls, w.length ≤ n) → (ls.map (·.length)).sum ≤ n * ls.length
  | [], _ => Nat.zero_le _
  | a :: r, h => by
    have := sum_lens fun w hw => h w (List.mem_cons_of_mem a hw)
    have := h a List.mem_cons_self
    rw [List.map_cons, List.sum_cons, List.length_cons, Nat.mul_add]
    omega
def figL (w : Int) : List Nat := [(48 + w).toNat]
theorem digit {w : Int} (h : 1 ≤ w ∧ w ≤ 9) : PyData.str (toString w) = sD (figL w) := by
  have : w = 1 ∨ w = 2 ∨ w = 3 ∨ w = 4 ∨ w = 5 ∨ w = 6 ∨ w = 7 ∨ w = 8 ∨ w = 9 := by omega
  rcases this with rfl | rfl | rfl | rfl | rfl | rfl | rfl | rfl | rfl <;> rfl
theorem small_log {w : Int} (h : 1 ≤ w ∧ w ≤ 9) : w.natAbs.log2 < 1920 := by
  have : w = 1 ∨ w = 2 ∨ w = 3 ∨ w = 4 ∨ w = 5 ∨ w = 6 ∨ w = 7 ∨ w = 8 ∨ w = 9 := by omega
  rcases this with rfl | rfl | rfl | rfl | rfl | rfl | rfl | rfl | rfl <;> decide
def shownL (die : List Int) (ws : List (List Nat)) : List Nat := TL.joinL [32] (die.map figL) ++ [58, 32] ++ TL.joinL [32] ws
abbrev S_shown (ds : List D) (r : Out) : Prop := ∃ (die : List Int) (ws : List (List Nat)), ds = [nums die, txts ws] ∧ okRace die ws ∧ r = .rt (sD (shownL die ws))
theorem S_shown_len {ds : List D} {r : Out} (h : S_shown ds r) : ds.length = 2 := by obtain ⟨_, _, rfl, _⟩ := h; rfl
theorem fig_len (die : List Int) : ∀ w ∈ die.map figL, w.length ≤ 1 := fun w h => by
  obtain ⟨_, _, rfl⟩ := List.mem_map.mp h
  exact Nat.le_refl _
theorem shw_sz {die : List Int} {ws : List (List Nat)} (d4 : die.length ≤ 4) (w4 : ws.length ≤ 4) (w6 : ∀ w ∈ ws, w.length ≤ 6) :
    ((die.map figL).map (·.length)).sum + (die.map figL).length * ([32] : List Nat).length ≤ 16777216 ∧ (ws.map (·.length)).sum + ws.length * ([32] : List Nat).length ≤ 16777216 ∧ (joinT [32] (die.map figL)).length ≤ 8 ∧ (joinT [32] ws).length ≤ 28 := by
  have z1 := sum_lens (fig_len die)
  have z2 := sum_lens w6
  have z3 := joinL_len [32] (die.map figL)
  have z4 := joinL_len [32] ws
  rw [joinT_eq, joinT_eq]
  rw [List.length_map] at z1 z3 ⊢
  have e1 : ([32] : List Nat).length = 1 := rfl
  rw [e1] at z3 z4 ⊢
  omega
theorem shw_2 {l : List Nat} (h : l.length ≤ 8) : l.length + ([58, 32] : List Nat).length ≤ sizeLine := by
  show l.length + 2 ≤ sizeLine
  rw [sizeLine_eq]; omega
theorem shw_3 {l m : List Nat} (h : l.length ≤ 8) (k : m.length ≤ 28) : (l ++ [58, 32]).length + m.length ≤ sizeLine := by
  rw [List.length_append]
  show l.length + 2 + m.length ≤ sizeLine
  rw [sizeLine_eq]; omega
end Vs

/-! The program's errors, and what the laws' own def says of them. -/
namespace Vs
open PySem PySem.Spec L2
/-- where the classes stand -/
structure Errs where
  base : Addr
  die : Addr
  word : Addr
  race : Addr
  row : Addr
  over : Addr
  many : Addr
  note : Addr
structure Clss (K : PySem.W.Frag) (mg : Str → Option Value) (E : Errs) : Prop where
  base : mg "RaceError" = some (.ref E.base)
  die : ErrC K mg "NoDie" E.die
  word : ErrC K mg "NoWord" E.word
  race : ErrC K mg "NoRace" E.race
  row : ErrC K mg "NoRow" E.row
  over : ErrC K mg "Over" E.over
  many : ErrC K mg "TooMany" E.many
  note : ErrC K mg "NoNote" E.note
  value : mg "ValueError" = none
/-- what isinstance says of an error of class D, the j-th one -/
structure KindC (K : PySem.W.Frag) (E : Errs) (D : Addr) (j : Nat) : Prop where
  xc : ExcC K D
  k0 : PySem.W.kitOne K (.ref D) (.ref E.die) = some (j == 0)
  k1 : PySem.W.kitOne K (.ref D) (.ref E.word) = some (j == 1)
  k2 : PySem.W.kitOne K (.ref D) (.ref E.race) = some (j == 2)
  k3 : PySem.W.kitOne K (.ref D) (.ref E.row) = some (j == 3)
  k4 : PySem.W.kitOne K (.ref D) (.ref E.over) = some (j == 4)
  k5 : PySem.W.kitOne K (.ref D) (.ref E.many) = some (j == 5)
  k6 : PySem.W.kitOne K (.ref D) (.ref E.note) = some (j == 6)
  kv : PySem.W.kitOne K (.ref D) (.type "ValueError") = some true
  ex : PySem.W.exmOne K (.ref D) (.ref E.base) = some true
  lt : j < 7
abbrev kinds7 : List (List Nat) := [[100, 105, 101], [119, 111, 114, 100], [114, 97, 99, 101], [114, 111, 119], [111, 118, 101, 114], [109, 97, 110, 121], [110, 111, 116, 101]]
def kindN (j : Nat) : List Nat := kinds7.getD j []
def bits7 (j : Nat) : List Bool := [j == 0, j == 1, j == 2, j == 3] ++ [j == 4, j == 5, j == 6]
theorem bits7_ok {j : Nat} (h : j < 7) : (bits7 j).count true = 1 ∧ true ∈ bits7 j ∧ (bits7 j).idxOf true = j := by
  have : j = 0 ∨ j = 1 ∨ j = 2 ∨ j = 3 ∨ j = 4 ∨ j = 5 ∨ j = 6 := by omega
  rcases this with rfl | rfl | rfl | rfl | rfl | rfl | rfl <;> decide
theorem thrownB_iff {n : Nat} {t : List Nat} : thrownB n t = true ↔ okText n t := by
  constructor
  · intro h c hc
    unfold thrownB at h
    have q := of_decide_eq_true (List.all_eq_true.mp h c hc)
    rw [cutL_to] at q
    exact q.subset (List.mem_singleton.mpr rfl)
  · exact thrownB_ok
/-! ### what is refused -/
/-- why a race is refused -/
inductive RaceX (E : Errs) (die : List Int) (ws : List (List Nat)) : Addr → Prop where
  | die : ¬ okDie die → RaceX E die ws E.die
  | word : okDie die → (∃ w ∈ ws, ¬ okWord die.length w) → RaceX E die ws E.word
  | race : okDie die → (∀ w ∈ ws, okWord die.length w) → ¬ (1 ≤ ws.length ∧ ws.length ≤ 4 ∧ apart ws) → RaceX E die ws E.race
/-- sizes that are never met -/
def szW (ws : List (List Nat)) : Prop := ws.length ≤ 100 ∧ ∀ w ∈ ws, w.length ≤ 100
abbrev XX_ask_die (E : Errs) (ds : List D) (r : Out) : Prop := ∃ die : List Int, ds = [nums die] ∧ ¬ okDie die ∧ r = .ex (.ref E.die)
abbrev XX_ask_word (E : Errs) (ds : List D) (r : Out) : Prop := ∃ (die : List Int) (t : List Nat), ds = [nums die, sD t] ∧ t.length ≤ 100 ∧ ¬ okWord die.length t ∧ r = .ex (.ref E.word)
abbrev XX_ask_row (E : Errs) (ds : List D) (r : Out) : Prop := ∃ (die : List Int) (t : List Nat), ds = [nums die, sD t] ∧ t.length ≤ 1000 ∧ ¬ okRow die.length t ∧ r = .ex (.ref E.row)
abbrev XX_ask_race (E : Errs) (ds : List D) (r : Out) : Prop := ∃ (die : List Int) (ws : List (List Nat)) (c : Addr), ds = [nums die, txts ws] ∧ szW ws ∧ RaceX E die ws c ∧ r = .ex (.ref c)
abbrev XX_overlaps (E : Errs) (ds : List D) (r : Out) : Prop := ∃ (die : List Int) (a b : List Nat) (c : Addr), ds = [nums die, sD a, sD b] ∧ a.length ≤ 100 ∧ b.length ≤ 100 ∧ ((¬ okDie die ∧ c = E.die) ∨ (okDie die ∧ (¬ okWord die.length a ∨ ¬ okWord die.length b) ∧ c = E.word)) ∧ r = .ex (.ref c)
abbrev XX_beginnings (E : Errs) (ds : List D) (r : Out) : Prop := XX_ask_race E ds r
abbrev XX_shown (E : Errs) (ds : List D) (r : Out) : Prop := XX_ask_race E ds r
/-- why a row is refused -/
def RowX (E : Errs) (die : List Int) (ws : List (List Nat)) (t : List Nat) (c : Addr) : Prop := RaceX E die ws c ∨ (okRace die ws ∧ ¬ okRow die.length t ∧ c = E.row)
def OverX (E : Errs) (die : List Int) (ws : List (List Nat)) (t : List Nat) (c : Addr) : Prop := RowX E die ws t c ∨ (okRace die ws ∧ okRow die.length t ∧ firstEnd ws t ≠ none ∧ c = E.over)
def ManyX (E : Errs) (die : List Int) (ws : List (List Nat)) (m : Int) (c : Addr) : Prop := RaceX E die ws c ∨ (okRace die ws ∧ ¬ (0 ≤ m ∧ m ≤ 60) ∧ c = E.row)
abbrev XX_state_of (E : Errs) (ds : List D) (r : Out) : Prop := ∃ (die : List Int) (ws : List (List Nat)) (t : List Nat) (c : Addr), ds = [nums die, txts ws, sD t] ∧ szW ws ∧ t.length ≤ 1000 ∧ RowX E die ws t c ∧ r = .ex (.ref c)
abbrev XX_ended (E : Errs) (ds : List D) (r : Out) : Prop := XX_state_of E ds r
abbrev XX_outcome (E : Errs) (ds : List D) (r : Out) : Prop := ∃ (die : List Int) (ws : List (List Nat)) (t : List Nat) (c : Addr), ds = [nums die, txts ws, sD t] ∧ szW ws ∧ t.length ≤ 1000 ∧ OverX E die ws t c ∧ r = .ex (.ref c)
abbrev XX_shares (E : Errs) (ds : List D) (r : Out) : Prop := XX_outcome E ds r
abbrev XX_mean (E : Errs) (ds : List D) (r : Out) : Prop := XX_outcome E ds r
abbrev XX_counted (E : Errs) (ds : List D) (r : Out) : Prop := ∃ (die : List Int) (ws : List (List Nat)) (m : Int) (c : Addr), ds = [nums die, txts ws, iD m] ∧ szW ws ∧ ManyX E die ws m c ∧ r = .ex (.ref c)
abbrev XX_open_rows (E : Errs) (ds : List D) (r : Out) : Prop := XX_counted E ds r
abbrev XX_ended_rows (E : Errs) (ds : List D) (r : Out) : Prop := XX_counted E ds r
abbrev XX_waiting (E : Errs) (ds : List D) (r : Out) : Prop := ∃ (die : List Int) (a : List Nat) (c : Addr), ds = [nums die, sD a] ∧ a.length ≤ 100 ∧ ((¬ okDie die ∧ c = E.die) ∨ (okDie die ∧ ¬ okWord die.length a ∧ c = E.word)) ∧ r = .ex (.ref c)
abbrev XX_odds (E : Errs) (ds : List D) (r : Out) : Prop := ∃ (die : List Int) (a b : List Nat) (c : Addr), ds = [nums die, sD a, sD b] ∧ a.length ≤ 100 ∧ b.length ≤ 100 ∧ ((¬ okDie die ∧ c = E.die) ∨ (okDie die ∧ (¬ okWord die.length a ∨ ¬ okWord die.length b) ∧ c = E.word) ∨ (okDie die ∧ okWord die.length a ∧ okWord die.length b ∧ (a.length ≠ b.length ∨ a = b) ∧ c = E.race)) ∧ r = .ex (.ref c)
abbrev XX_answer (E : Errs) (ds : List D) (r : Out) : Prop := ∃ (die : List Int) (a : List Nat) (c : Addr), ds = [nums die, sD a] ∧ a.length ≤ 100 ∧ ((¬ okDie die ∧ c = E.die) ∨ (okDie die ∧ ¬ okWord die.length a ∧ c = E.word) ∨ (okDie die ∧ okWord die.length a ∧ 32 < die.length ^ a.length ∧ c = E.many)) ∧ r = .ex (.ref c)
theorem XX_ask_die_len {E : Errs} {ds : List D} {r : Out} (h : XX_ask_die E ds r) : ds.length = 1 := by obtain ⟨_, rfl, _⟩ := h; rfl
theorem XX_ask_word_len {E : Errs} {ds : List D} {r : Out} (h : XX_ask_word E ds r) : ds.length = 2 := by obtain ⟨_, _, rfl, _⟩ := h; rfl
theorem XX_ask_row_len {E : Errs} {ds : List D} {r : Out} (h : XX_ask_row E ds r) : ds.length = 2 := by obtain ⟨_, _, rfl, _⟩ := h; rfl
theorem XX_ask_race_len {E : Errs} {ds : List D} {r : Out} (h : XX_ask_race E ds r) : ds.length = 2 := by obtain ⟨_, _, _, rfl, _⟩ := h; rfl
theorem XX_overlaps_len {E : Errs} {ds : List D} {r : Out} (h : XX_overlaps E ds r) : ds.length = 3 := by obtain ⟨_, _, _, _, rfl, _⟩ := h; rfl
theorem XX_beginnings_len {E : Errs} {ds : List D} {r : Out} (h : XX_beginnings E ds r) : ds.length = 2 := by obtain ⟨_, _, _, rfl, _⟩ := h; rfl
theorem XX_shown_len {E : Errs} {ds : List D} {r : Out} (h : XX_shown E ds r) : ds.length = 2 := by obtain ⟨_, _, _, rfl, _⟩ := h; rfl
theorem XX_state_of_len {E : Errs} {ds : List D} {r : Out} (h : XX_state_of E ds r) : ds.length = 3 := by obtain ⟨_, _, _, _, rfl, _⟩ := h; rfl
theorem XX_ended_len {E : Errs} {ds : List D} {r : Out} (h : XX_ended E ds r) : ds.length = 3 := by obtain ⟨_, _, _, _, rfl, _⟩ := h; rfl
theorem XX_outcome_len {E : Errs} {ds : List D} {r : Out} (h : XX_outcome E ds r) : ds.length = 3 := by obtain ⟨_, _, _, _, rfl, _⟩ := h; rfl
theorem XX_shares_len {E : Errs} {ds : List D} {r : Out} (h : XX_shares E ds r) : ds.length = 3 := by obtain ⟨_, _, _, _, rfl, _⟩ := h; rfl
theorem XX_mean_len {E : Errs} {ds : List D} {r : Out} (h : XX_mean E ds r) : ds.length = 3 := by obtain ⟨_, _, _, _, rfl, _⟩ := h; rfl
theorem XX_counted_len {E : Errs} {ds : List D} {r : Out} (h : XX_counted E ds r) : ds.length = 3 := by obtain ⟨_, _, _, _, rfl, _⟩ := h; rfl
theorem XX_open_rows_len {E : Errs} {ds : List D} {r : Out} (h : XX_open_rows E ds r) : ds.length = 3 := by obtain ⟨_, _, _, _, rfl, _⟩ := h; rfl
theorem XX_ended_rows_len {E : Errs} {ds : List D} {r : Out} (h : XX_ended_rows E ds r) : ds.length = 3 := by obtain ⟨_, _, _, _, rfl, _⟩ := h; rfl
theorem XX_waiting_len {E : Errs} {ds : List D} {r : Out} (h : XX_waiting E ds r) : ds.length = 2 := by obtain ⟨_, _, _, rfl, _⟩ := h; rfl
theorem XX_odds_len {E : Errs} {ds : List D} {r : Out} (h : XX_odds E ds r) : ds.length = 3 := by obtain ⟨_, _, _, _, rfl, _⟩ := h; rfl
theorem XX_answer_len {E : Errs} {ds : List D} {r : Out} (h : XX_answer E ds r) : ds.length = 2 := by obtain ⟨_, _, _, rfl, _⟩ := h; rfl
end Vs

/-! A race as a text, read. -/
namespace Vs
open PySem PySem.Spec L2
def okFig (t : List Nat) : Prop := ∃ c, t = [c] ∧ 49 ≤ c ∧ c ≤ 57
def valT (t : List Nat) : Int := ((t.headD 0 : Nat) : Int) - 48
abbrev figs : List Nat := [49, 50, 51, 52, 53, 54, 55, 56, 57]
theorem fig_facts {t : List Nat} (h : okFig t) : PySem.intText? (S t) = some (valT t) ∧ (S t).length ≤ 640 ∧ t.length = 1 ∧ t <:+: figs ∧ 1 ≤ valT t ∧ valT t ≤ 9 := by
  obtain ⟨c, rfl, h1, h2⟩ := h
  have : c = 49 ∨ c = 50 ∨ c = 51 ∨ c = 52 ∨ c = 53 ∨ c = 54 ∨ c = 55 ∨ c = 56 ∨ c = 57 := by omega
  rcases this with rfl | rfl | rfl | rfl | rfl | rfl | rfl | rfl | rfl <;> exact ⟨by decide +kernel, Nat.le_of_ble_eq_true rfl, rfl, by decide, by decide, by decide⟩
theorem okFig_iff {t : List Nat} : okFig t ↔ t.length = 1 ∧ t <:+: figs := by
  constructor
  · intro h; exact ⟨(fig_facts h).2.2.1, (fig_facts h).2.2.2.1⟩
  · rintro ⟨h1, h2⟩
    obtain ⟨c, rfl⟩ := List.length_eq_one_iff.mp h1
    have hc : c ∈ figs := h2.subset (List.mem_singleton.mpr rfl)
    refine ⟨c, rfl, ?_⟩
    simp only [List.mem_cons, List.not_mem_nil, or_false] at hc
    omega
theorem fig_ok {w : Int} (h : 1 ≤ w ∧ w ≤ 9) : okFig (figL w) := ⟨_, rfl, by omega, by omega⟩
theorem fig_val {w : Int} (h : 1 ≤ w ∧ w ≤ 9) : valT (figL w) = w := by
  show (((48 + w).toNat : Nat) : Int) - 48 = w
  omega
abbrev S_weight_of (ds : List D) (r : Out) : Prop := ∃ t : List Nat, ds = [sD t] ∧ okFig t ∧ r = .rt (iD (valT t))
theorem S_weight_of_len {ds : List D} {r : Out} (h : S_weight_of ds r) : ds.length = 1 := by obtain ⟨_, rfl, _⟩ := h; rfl
def wtsT (t : List Nat) : List (List Nat) := splitL [32] (partL [58, 32] t).1
def wdsT (t : List Nat) : List (List Nat) := splitL [32] (partL [58, 32] t).2.2
def dieT (t : List Nat) : List Int := (wtsT t).map valT
/-- a text that writes a race -/
structure noteOk (t : List Nat) : Prop where
  colon : (partL [58, 32] t).2.1 ≠ []
  fig : ∀ f ∈ wtsT t, okFig f
  race : okRace (dieT t) (wdsT t)
abbrev S_read (ds : List D) (r : Out) : Prop := ∃ t : List Nat, ds = [sD t] ∧ t.length ≤ 90 ∧ noteOk t ∧ r = .r2 ((dieT t).map iD) ((wdsT t).map sD)
theorem S_read_len {ds : List D} {r : Out} (h : S_read ds r) : ds.length = 1 := by obtain ⟨_, rfl, _⟩ := h; rfl
/-! ### sizes -/
theorem par_len {m : List Nat} : ∀ {l acc a b : List Nat}, TL.par m acc l = some (a, b) → a.length ≤ acc.length + l.length ∧ b.length ≤ l.length
  | [], acc, a, b, h => by cases h
  | c :: r, acc, a, b, h => by
    rw [TL.par] at h
    split at h
    · cases h
      rw [List.length_drop]
      omega
    · have := par_len h
      rw [List.length_append, List.length_singleton] at this
      rw [List.length_cons]
      omega
theorem part_len (m t : List Nat) : (partL m t).1.length ≤ t.length ∧ (partL m t).2.2.length ≤ t.length := by
  unfold partL
  cases h : TL.par m [] t with
  | none => exact ⟨Nat.le_refl _, Nat.zero_le _⟩
  | some q =>
    obtain ⟨a, b⟩ := q
    have := par_len h
    rw [List.length_nil] at this
    exact ⟨show a.length ≤ t.length by omega, this.2⟩
theorem spl_len (m : List Nat) : ∀ (l : List Nat) (k : Nat) (acc : List Nat), (TL.spl m k acc l).length ≤ l.length + 1 ∧ ∀ p ∈ TL.spl m k acc l, p.length ≤ acc.length + l.length
  | [], k, acc => by
    rw [TL.spl_nil]
    exact ⟨Nat.le_refl _, fun p h => by rw [List.mem_singleton.mp h]; exact Nat.le_refl _⟩
  | c :: r, 0, acc => by
    rw [TL.spl]
    split
    · obtain ⟨h1, h2⟩ := spl_len m r (m.length - 1) []
      rw [List.length_cons, List.length_cons]
      refine ⟨by omega, fun p hp => ?_⟩
      rcases List.mem_cons.mp hp with rfl | hp
      · omega
      · have := h2 p hp
        rw [List.length_nil] at this
        omega
    · obtain ⟨h1, h2⟩ := spl_len m r 0 (acc ++ [c])
      rw [List.length_cons]
      refine ⟨by omega, fun p hp => ?_⟩
      have := h2 p hp
      rw [List.length_append, List.length_singleton] at this
      omega
  | c :: r, k + 1, acc => by
    rw [TL.spl]
    obtain ⟨h1, h2⟩ := spl_len m r k acc
    rw [List.length_cons]
    exact ⟨by omega, fun p hp => by have := h2 p hp; omega⟩
theorem split_len (m t : List Nat) : (splitL m t).length ≤ t.length + 1 ∧ ∀ p ∈ splitL m t, p.length ≤ t.length := by
  have := spl_len m t 0 []
  rw [List.length_nil] at this
  exact ⟨this.1, fun p hp => by have := this.2 p hp; omega⟩
theorem wds_len (t : List Nat) : (wdsT t).length ≤ t.length + 1 ∧ ∀ p ∈ wdsT t, p.length ≤ t.length := by
  have h := split_len [32] (partL [58, 32] t).2.2
  have h2 := (part_len [58, 32] t).2
  exact ⟨by unfold wdsT; omega, fun p hp => by have := h.2 p hp; omega⟩
theorem wts_len (t : List Nat) : (wtsT t).length ≤ t.length + 1 ∧ ∀ p ∈ wtsT t, p.length ≤ t.length := by
  have h := split_len [32] (partL [58, 32] t).1
  have h2 := (part_len [58, 32] t).1
  exact ⟨by unfold wtsT; omega, fun p hp => by have := h.2 p hp; omega⟩
/-! ### what is written is read -/
theorem joinL_sub {c : Nat} {m : List Nat} : ∀ {ls : List (List Nat)}, c ∈ TL.joinL m ls → c ∈ m ∨ ∃ w ∈ ls, c ∈ w
  | [], h => nomatch h
  | [a], h => .inr ⟨a, List.mem_singleton.mpr rfl, h⟩
  | a :: b :: r, h => by
    rcases List.mem_append.mp (show c ∈ a ++ (m ++ TL.joinL m (b :: r)) from h) with h | h
    · exact .inr ⟨a, List.mem_cons_self, h⟩
    · rcases List.mem_append.mp h with h | h
      · exact .inl h
      · rcases joinL_sub h with h | ⟨w, hw, h⟩
        · exact .inl h
        · exact .inr ⟨w, List.mem_cons_of_mem _ hw, h⟩
theorem part_line {a b : List Nat} (h : 58 ∉ a) : partL [58, 32] (a ++ [58, 32] ++ b) = (a, [58, 32], b) := by
  unfold partL
  have e : TL.par [58, 32] [] (a ++ [58, 32] ++ b) = some ([] ++ a, b) := by
    rw [List.append_assoc]
    exact TL.par_part1 (s := 58) (S := [32]) (acc := []) (rest := b) h
  rw [e]
  rfl
theorem split_join {ls : List (List Nat)} (ne : ls ≠ []) (h : ∀ p ∈ ls, 32 ∉ p) : splitL [32] (TL.joinL [32] ls) = ls := TL.spl_join ne h
theorem fig_no {die : List Int} (d : ∀ w ∈ die, 1 ≤ w ∧ w ≤ 9) : ∀ p ∈ die.map figL, ∀ c ∈ p, 49 ≤ c ∧ c ≤ 57 := fun p hp c hc => by
  obtain ⟨w, hw, rfl⟩ := List.mem_map.mp hp
  have := d w hw
  rw [List.mem_singleton.mp hc]
  omega
theorem fig_join_no {die : List Int} (d : ∀ w ∈ die, 1 ≤ w ∧ w ≤ 9) : 58 ∉ TL.joinL [32] (die.map figL) := fun h => by
  rcases joinL_sub h with h | ⟨p, hp, h⟩
  · exact absurd (List.mem_singleton.mp h) (by decide)
  · have := fig_no d p hp 58 h; omega
theorem sgn_32 {n c : Nat} (h : c ∈ sgn n) : c ≠ 32 ∧ c ≠ 58 := by
  have := List.mem_of_mem_take h
  simp only [List.mem_cons, List.not_mem_nil, or_false] at this
  omega
theorem okRace.no32 {die : List Int} {ws : List (List Nat)} (ok : okRace die ws) : ∀ p ∈ ws, 32 ∉ p := fun p hp h => (sgn_32 ((ok.2.1 p hp).2.2 32 h)).1 rfl
theorem figs_map {die : List Int} (d : ∀ w ∈ die, 1 ≤ w ∧ w ≤ 9) : (die.map figL).map valT = die := by
  rw [List.map_map]
  refine (List.map_congr_left fun w hw => ?_).trans (List.map_id die)
  exact fig_val (d w hw)
theorem shown_parts {die : List Int} {ws : List (List Nat)} (ok : okRace die ws) : partL [58, 32] (shownL die ws) = (TL.joinL [32] (die.map figL), [58, 32], TL.joinL [32] ws) := part_line (fig_join_no ok.1.2.2)
theorem die_ne {die : List Int} (h : okDie die) : die.map figL ≠ [] := fun e => by
  have := h.1
  rw [List.map_eq_nil_iff.mp e] at this
  exact absurd this (by decide)
theorem ws_ne {die : List Int} {ws : List (List Nat)} (ok : okRace die ws) : ws ≠ [] := fun e => by
  have := ok.2.2.1
  rw [e] at this
  exact absurd this (by decide)
theorem shown_read {die : List Int} {ws : List (List Nat)} (ok : okRace die ws) : noteOk (shownL die ws) ∧ dieT (shownL die ws) = die ∧ wdsT (shownL die ws) = ws ∧ (shownL die ws).length ≤ 90 := by
  have d9 := ok.1.2.2
  have e := shown_parts ok
  have e1 : wtsT (shownL die ws) = die.map figL := by
    unfold wtsT
    rw [e]
    exact split_join (die_ne ok.1) fun p hp h => by have := fig_no d9 p hp 32 h; omega
  have e2 : wdsT (shownL die ws) = ws := by
    unfold wdsT
    rw [e]
    exact split_join (ws_ne ok) ok.no32
  have e3 : dieT (shownL die ws) = die := by
    unfold dieT
    rw [e1, figs_map d9]
  refine ⟨⟨?_, fun f hf => ?_, ?_⟩, e3, e2, ?_⟩
  · rw [e]; exact List.cons_ne_nil _ _
  · rw [e1] at hf
    obtain ⟨w, hw, rfl⟩ := List.mem_map.mp hf
    exact fig_ok (d9 w hw)
  · rw [e3, e2]; exact ok
  · obtain ⟨_, _, z3, z4⟩ := shw_sz (ws := ws) ok.1.2.1 ok.2.2.2.1 (fun v hv => (ok.2.1 v hv).2.1)
    rw [joinT_eq] at z3 z4
    show (TL.joinL [32] (die.map figL) ++ [58, 32] ++ TL.joinL [32] ws).length ≤ 90
    rw [List.length_append, List.length_append]
    have : ([58, 32] : List Nat).length = 2 := rfl
    omega
/-! ### the text made by the law -/
def dueA (t : List Nat) (die : List Int) : List Nat := die.foldl (fun t w => t ++ figL w ++ [32]) t
def dueB (t : List Nat) (ws : List (List Nat)) : List Nat := ws.foldl (fun t w => t ++ [32] ++ w) t
theorem dueA_eq : ∀ (die : List Int) (t : List Nat), die ≠ [] → dueA t die = t ++ TL.joinL [32] (die.map figL) ++ [32]
  | [], _, h => absurd rfl h
  | [w], t, _ => rfl
  | w :: v :: r, t, _ => by
    show dueA (t ++ figL w ++ [32]) (v :: r) = _
    rw [dueA_eq (v :: r) _ (List.cons_ne_nil _ _)]
    show _ = t ++ (figL w ++ ([32] ++ TL.joinL [32] ((v :: r).map figL))) ++ [32]
    simp only [List.append_assoc]
theorem dueB_eq : ∀ (ws : List (List Nat)) (t : List Nat), ws ≠ [] → dueB t ws = t ++ ([32] ++ TL.joinL [32] ws)
  | [], _, h => absurd rfl h
  | [w], t, _ => by show t ++ [32] ++ w = _; rw [List.append_assoc]; rfl
  | w :: v :: r, t, _ => by
    show dueB (t ++ [32] ++ w) (v :: r) = _
    rw [dueB_eq (v :: r) _ (List.cons_ne_nil _ _)]
    show _ = t ++ ([32] ++ (w ++ ([32] ++ TL.joinL [32] (v :: r))))
    simp only [List.append_assoc]
theorem due_all {die : List Int} {ws : List (List Nat)} (ok : okRace die ws) : dueB (cutL (dueA [] die) none (some (-1)) ++ [58]) ws = shownL die ws := by
  have hd : die ≠ [] := fun e => die_ne ok.1 (by rw [e]; rfl)
  rw [dueA_eq die [] hd, List.nil_append, cutL_last, List.dropLast_concat, dueB_eq ws _ (ws_ne ok)]
  unfold shownL
  simp only [List.append_assoc]
  rfl
theorem dueA_len : ∀ (die : List Int) (t : List Nat), (dueA t die).length = t.length + 2 * die.length
  | [], t => rfl
  | w :: r, t => by
    show (dueA (t ++ figL w ++ [32]) r).length = _
    rw [dueA_len r, List.length_append, List.length_append, List.length_cons]
    show t.length + 1 + 1 + 2 * r.length = t.length + 2 * (r.length + 1)
    omega
theorem dueB_len {ws : List (List Nat)} : ∀ {t : List Nat}, (∀ w ∈ ws, w.length ≤ 6) → (dueB t ws).length ≤ t.length + 7 * ws.length := by
  induction ws with
  | nil => intro t _; exact Nat.le_refl _
  | cons w r ih =>
    intro t h
    have := ih (t := t ++ [32] ++ w) fun v hv => h v (List.mem_cons_of_mem _ hv)
    have hw := h w List.mem_cons_self
    rw [List.length_append, List.length_append, List.length_singleton] at this
    show (dueB (t ++ [32] ++ w) r).length ≤ _
    rw [List.length_cons]
    omega
abbrev lrD (a : List Int) (b : List (List Nat)) : D := .tuple [.list (a.map iD), .list (b.map sD)]
abbrev S__law_right (ds : List D) (r : Out) : Prop := ∃ (die : List Int) (ws : List (List Nat)), ds = [lrD die ws, nums die, txts ws] ∧ okRace die ws ∧ r = .rt (bD true)
theorem S__law_right_len {ds : List D} {r : Out} (h : S__law_right ds r) : ds.length = 3 := by obtain ⟨_, _, rfl, _⟩ := h; rfl
end Vs

/-! No note. -/
namespace Vs
open PySem PySem.Spec L2
abbrev XX_weight_of (E : Errs) (ds : List D) (r : Out) : Prop := ∃ t : List Nat, ds = [sD t] ∧ t.length ≤ 1000 ∧ ¬ okFig t ∧ r = .ex (.ref E.note)
theorem XX_weight_of_len {E : Errs} {ds : List D} {r : Out} (h : XX_weight_of E ds r) : ds.length = 1 := by obtain ⟨_, rfl, _⟩ := h; rfl
abbrev XX_read (E : Errs) (ds : List D) (r : Out) : Prop := ∃ t : List Nat, ds = [sD t] ∧ t.length ≤ 90 ∧ ¬ noteOk t ∧ r = .ex (.ref E.note)
theorem XX_read_len {E : Errs} {ds : List D} {r : Out} (h : XX_read E ds r) : ds.length = 1 := by obtain ⟨_, rfl, _⟩ := h; rfl
structure Note3 (K : PySem.W.Frag) (E : Errs) : Prop where
  die : PySem.W.exmAny K (.ref E.die) [.ref E.die, .ref E.word, .ref E.race] = some true
  word : PySem.W.exmAny K (.ref E.word) [.ref E.die, .ref E.word, .ref E.race] = some true
  race : PySem.W.exmAny K (.ref E.race) [.ref E.die, .ref E.word, .ref E.race] = some true
theorem Note3.one {K : PySem.W.Frag} {E : Errs} (N : Note3 K E) {die : List Int} {ws : List (List Nat)} {c : Addr} (h : RaceX E die ws c) : PySem.W.exmAny K (.ref c) [.ref E.die, .ref E.word, .ref E.race] = some true := by
  cases h with
  | die _ => exact N.die
  | word _ _ => exact N.word
  | race _ _ _ => exact N.race
theorem raceX_of {E : Errs} {die : List Int} {ws : List (List Nat)} (h : ¬ okRace die ws) : ∃ c, RaceX E die ws c := by
  by_cases h1 : okDie die
  · by_cases h2 : ∀ w ∈ ws, okWord die.length w
    · exact ⟨_, .race h1 h2 fun q => h ⟨h1, h2, q.1, q.2.1, q.2.2⟩⟩
    · exact ⟨_, .word h1 (Classical.byContradiction fun q => h2 fun w hm => Classical.byContradiction fun z => q ⟨w, hm, z⟩)⟩
  · exact ⟨_, .die h1⟩
abbrev readT : List Nat := [114, 101, 97, 100]
abbrev S20__law_tried (E : Errs) (ds : List D) (r : Out) : Prop := ∃ t : List Nat, ds = [sD t] ∧ t.length ≤ 90 ∧ ((¬ noteOk t ∧ r = .rt (sD (kindN 6))) ∨ (noteOk t ∧ r = .rt (sD readT)))
theorem S20__law_tried_len {E : Errs} {ds : List D} {r : Out} (h : S20__law_tried E ds r) : ds.length = 1 := by obtain ⟨_, rfl, _⟩ := h; rfl
def lineL (a b : List (List Nat)) : List Nat := TL.joinL [32] a ++ [58, 32] ++ TL.joinL [32] b
/-- sizes of what is joined -/
def small20 (a : List (List Nat)) : Prop := a.length ≤ 20 ∧ ∀ w ∈ a, w.length ≤ 20
abbrev S20__law_line (ds : List D) (r : Out) : Prop := ∃ a b : List (List Nat), ds = [txts a, txts b] ∧ small20 a ∧ small20 b ∧ r = .rt (sD (lineL a b))
theorem S20__law_line_len {ds : List D} {r : Out} (h : S20__law_line ds r) : ds.length = 2 := by obtain ⟨_, _, rfl, _⟩ := h; rfl
theorem join20 {a : List (List Nat)} (h : small20 a) : (a.map (·.length)).sum + a.length * ([32] : List Nat).length ≤ 16777216 ∧ (joinT [32] a).length ≤ 420 := by
  have z1 := sum_lens h.2
  have z2 := joinL_len [32] a
  have l := h.1
  rw [joinT_eq]
  have e1 : ([32] : List Nat).length = 1 := rfl
  rw [e1] at z2 ⊢
  omega
end Vs

/-! Texts that write no race. -/
namespace Vs
open PySem PySem.Spec L2
theorem cutJ_from {α : Type} (l : List α) {i : Int} (h : 0 ≤ i) : cutL l (some i) none = l.drop i.toNat := by
  obtain ⟨n, rfl⟩ := Int.eq_ofNat_of_zero_le h
  exact cutL_from l n
theorem cutJ_to {α : Type} (l : List α) {i : Int} (h : 0 ≤ i) : cutL l none (some i) = l.take i.toNat := by
  obtain ⟨n, rfl⟩ := Int.eq_ofNat_of_zero_le h
  exact cutL_to l n
/-! ### when a text is refused -/
theorem no_fig {t : List Nat} (h : ∃ f ∈ wtsT t, ¬ okFig f) : ¬ noteOk t := fun q => by obtain ⟨f, hf, hn⟩ := h; exact hn (q.fig f hf)
theorem no_colon {t : List Nat} (h : (partL [58, 32] t).2.1 = []) : ¬ noteOk t := fun q => q.colon h
theorem no_word {t : List Nat} (h : ∃ v ∈ wdsT t, ∀ n, ¬ okWord n v) : ¬ noteOk t := fun q => by obtain ⟨v, hv, hn⟩ := h; exact hn _ (q.race.2.1 v hv)
/-- plain parts: no blank, no colon -/
def plainP (a : List (List Nat)) : Prop := ∀ p ∈ a, 32 ∉ p ∧ 58 ∉ p
theorem no58 {a : List (List Nat)} (h : plainP a) : 58 ∉ TL.joinL [32] a := fun q => by
  rcases joinL_sub q with q | ⟨p, hp, q⟩
  · exact absurd (List.mem_singleton.mp q) (by decide)
  · exact (h p hp).2 q
theorem line_parts {a b : List (List Nat)} (h : plainP a) : partL [58, 32] (lineL a b) = (TL.joinL [32] a, [58, 32], TL.joinL [32] b) := part_line (no58 h)
theorem line_wts {a b : List (List Nat)} (ne : a ≠ []) (h : plainP a) : wtsT (lineL a b) = a := by
  unfold wtsT
  rw [line_parts h]
  exact split_join ne fun p hp => (h p hp).1
theorem line_wds {a b : List (List Nat)} (h : plainP a) (ne : b ≠ []) (hb : ∀ p ∈ b, 32 ∉ p) : wdsT (lineL a b) = b := by
  unfold wdsT
  rw [line_parts h]
  exact split_join ne hb
theorem bad_a {a b : List (List Nat)} (h : plainP a) {p : List Nat} (hp : p ∈ a) (hn : ¬ okFig p) : ¬ noteOk (lineL a b) := no_fig ⟨p, by rw [line_wts (List.ne_nil_of_mem hp) h]; exact hp, hn⟩
theorem plain_figs {die : List Int} (d : okDie die) : plainP (die.map figL) := fun p hp => ⟨fun h => by have := fig_no d.2.2 p hp 32 h; omega, fun h => by have := fig_no d.2.2 p hp 58 h; omega⟩
theorem bad_b {die : List Int} {b : List (List Nat)} (d : okDie die) (ne : b ≠ []) (hb : ∀ p ∈ b, 32 ∉ p) (h : ¬ okRace die b) : ¬ noteOk (lineL (die.map figL) b) := fun q => by
  have q := q.race
  unfold dieT at q
  rw [line_wts (die_ne d) (plain_figs d), line_wds (plain_figs d) ne hb, figs_map d.2.2] at q
  exact h q
theorem bad_d {a b : List (List Nat)} (ne : a ≠ []) (h : plainP a) (hd : ¬ okDie (a.map valT)) : ¬ noteOk (lineL a b) := fun q => by
  have q := q.race.1
  unfold dieT at q
  rw [line_wts ne h] at q
  exact hd q
/-! ### parts put together otherwise -/
theorem joinL_cons {m p : List Nat} {a : List (List Nat)} (ne : a ≠ []) : TL.joinL m (p :: a) = p ++ (m ++ TL.joinL m a) := by
  cases a with
  | nil => exact absurd rfl ne
  | cons q r => rfl
theorem joinL_snoc {m x : List Nat} : ∀ {a : List (List Nat)}, a ≠ [] → TL.joinL m (a ++ [x]) = TL.joinL m a ++ (m ++ x)
  | [], h => absurd rfl h
  | [p], _ => rfl
  | p :: q :: r, _ => by
    show p ++ (m ++ TL.joinL m ((q :: r) ++ [x])) = p ++ (m ++ TL.joinL m (q :: r)) ++ (m ++ x)
    rw [joinL_snoc (List.cons_ne_nil q r)]
    simp only [List.append_assoc]
theorem joinL_last {m x y : List Nat} (a : List (List Nat)) : TL.joinL m (a ++ [x]) ++ y = TL.joinL m (a ++ [x ++ y]) := by
  by_cases h : a = []
  · subst h; rfl
  · rw [joinL_snoc h, joinL_snoc h]; simp only [List.append_assoc]
theorem joinL_first {m x y : List Nat} (a : List (List Nat)) : y ++ TL.joinL m (x :: a) = TL.joinL m ((y ++ x) :: a) := by
  cases a with
  | nil => rfl
  | cons q r => show y ++ (x ++ _) = (y ++ x) ++ _; rw [List.append_assoc]
theorem joinL_two {m x y : List Nat} (v : List (List Nat)) : ∀ u : List (List Nat), TL.joinL m (u ++ [x ++ m ++ y] ++ v) = TL.joinL m (u ++ [x, y] ++ v)
  | [] => by
    cases v with
    | nil => show x ++ m ++ y = x ++ (m ++ y); rw [List.append_assoc]
    | cons q r => show (x ++ m ++ y) ++ (m ++ _) = x ++ (m ++ (y ++ (m ++ _))); simp only [List.append_assoc]
  | p :: u => by
    show TL.joinL m (p :: (u ++ [x ++ m ++ y] ++ v)) = TL.joinL m (p :: (u ++ [x, y] ++ v))
    rw [joinL_cons (by simp), joinL_cons (by simp), joinL_two v u]
theorem line_len {a b : List (List Nat)} {n k i j : Nat} (ha : ∀ p ∈ a, p.length ≤ n) (la : a.length ≤ i) (hb : ∀ p ∈ b, p.length ≤ k) (lb : b.length ≤ j) : (lineL a b).length ≤ n * i + i + 2 + (k * j + j) := by
  have h1 := joinL_len [32] a
  have h2 := joinL_len [32] b
  have h3 := sum_lens ha
  have h4 := sum_lens hb
  have e1 : ([32] : List Nat).length = 1 := rfl
  rw [e1] at h1 h2
  have h5 : n * a.length ≤ n * i := Nat.mul_le_mul_left n la
  have h6 : k * b.length ≤ k * j := Nat.mul_le_mul_left k lb
  unfold lineL
  rw [List.length_append, List.length_append]
  have : ([58, 32] : List Nat).length = 2 := rfl
  omega
/-! ### replaced -/
def replT (l y z : List Nat) : List Nat := (Txt.replace (S l) (S y) (S z)).cps.toList
theorem replT_eq {l y z : List Nat} (hy : 1 ≤ y.length) : replT l y z = PySem.StrLaws.replL y z l := PySem.StrLaws.replace_list hy
theorem repl_no {z : List Nat} : ∀ {l : List Nat}, 58 ∉ l → PySem.StrLaws.replS [58, 32] z 0 l = l
  | [], _ => by rw [PySem.StrLaws.replS]
  | c :: r, h => by
    rw [PySem.StrLaws.replS, if_neg (fun q => h (by
      have : c = 58 := by
        have := congrArg (fun l : List Nat => l.headD 0) q
        simpa using this
      rw [this]; exact List.mem_cons_self)), repl_no fun q => h (List.mem_cons_of_mem c q)]
theorem repl_line {z b : List Nat} (hb : 58 ∉ b) : ∀ {a : List Nat}, 58 ∉ a → PySem.StrLaws.replS [58, 32] z 0 (a ++ ([58, 32] ++ b)) = a ++ (z ++ b)
  | [], _ => by
    show PySem.StrLaws.replS [58, 32] z 0 (58 :: 32 :: b) = z ++ b
    rw [PySem.StrLaws.replS, if_pos (by simp)]
    show z ++ PySem.StrLaws.replS [58, 32] z 1 (32 :: b) = z ++ b
    rw [PySem.StrLaws.replS, repl_no hb]
  | c :: r, h => by
    show PySem.StrLaws.replS [58, 32] z 0 (c :: (r ++ ([58, 32] ++ b))) = c :: (r ++ (z ++ b))
    rw [PySem.StrLaws.replS, if_neg (fun q => h (by
      have : c = 58 := by
        have := congrArg (fun l : List Nat => l.headD 0) q
        simpa using this
      rw [this]; exact List.mem_cons_self)), repl_line hb fun q => h (List.mem_cons_of_mem c q)]
theorem replT_line {a b : List (List Nat)} {z : List Nat} (ha : plainP a) (hb : plainP b) : replT (lineL a b) [58, 32] z = TL.joinL [32] a ++ (z ++ TL.joinL [32] b) := by
  rw [replT_eq (by decide)]
  unfold lineL PySem.StrLaws.replL
  rw [List.append_assoc]
  exact repl_line (no58 hb) (no58 ha)
theorem par_one {b : List Nat} (hb : 58 ∉ b) (h32 : b.headD 0 ≠ 32) : ∀ {a acc : List Nat}, 58 ∉ a → TL.par [58, 32] acc (a ++ (58 :: b)) = none
  | [], acc, _ => by
    show TL.par [58, 32] acc (58 :: b) = none
    rw [TL.par, if_neg, TL.par_none1 hb]
    intro q
    unfold TL.pre at q
    cases b with
    | nil => simp at q
    | cons x r => simp at q; exact h32 q
  | c :: r, acc, h => by
    show TL.par [58, 32] acc (c :: (r ++ (58 :: b))) = none
    rw [TL.par, if_neg, par_one hb h32 fun q => h (List.mem_cons_of_mem c q)]
    intro q
    unfold TL.pre at q
    have q := eq_of_beq q
    have : c = 58 := by
      have := congrArg (fun l : List Nat => l.headD 0) q
      simpa using this
    exact h (by rw [this]; exact List.mem_cons_self)
theorem part_none {t : List Nat} (h : TL.par [58, 32] [] t = none) : (partL [58, 32] t).2.1 = [] := by
  unfold partL
  rw [h]
end Vs

/-! What the law spoils. -/
namespace Vs
open PySem PySem.Spec L2
abbrev zeroT : List (List Nat) := [[48], [49, 48], [43, 49], [45, 49], [120], [], [49, 95, 48], [48, 49], [49, 46], [49, 9], [32, 49]]
abbrev oneT (w : List Nat) : List (List Nat) := [[], [97, 97, 97, 97, 97, 97, 98], [101], [65], [97, 45], [97, 49], [97, 9], w ++ [32] ++ w, [97, 98, 10]]
abbrev repsT : List (List Nat) := [[32, 32], [58], [32], [32, 58, 32]]
abbrev fiveT : List (List Nat) := [[97, 97, 98], [97, 98, 98], [98, 98, 97], [98, 97, 97], [98, 97, 98]]
abbrev restT : List (List Nat) := [[], [58], [58, 32], [32, 58, 32, 97], [49, 32, 49, 58], [49, 32, 49, 58, 32], [49, 44, 49, 58, 32, 97], [49, 32, 49, 59, 32, 97], [49, 32, 49, 58, 32, 97, 44, 98], [49, 32, 49, 32, 97]]
def prevW (ws : List (List Nat)) (p : Int) : List Nat := (atI ws (p - 1)).getD []
def sp0a (wt : List (List Nat)) (c : Int) : List (List Nat) := cutL wt none (some (c % (wt.length : Int))) ++ [zeroT.getD (c / 16 % 11).toNat []] ++ cutL wt (some (c % (wt.length : Int) + 1)) none
def sp1b (ws : List (List Nat)) (c : Int) : List (List Nat) := cutL ws none (some (c % (ws.length : Int))) ++ [(oneT (prevW ws (c % (ws.length : Int)))).getD (c / 16 % 9).toNat []] ++ cutL ws (some (c % (ws.length : Int) + 1)) none
def sp3 (t : List Nat) (c : Int) : List Nat := ([[32] ++ t, t ++ [32], t ++ [10], [9] ++ t, replT t [58, 32] [58, 32, 32]] : List (List Nat)).getD (c % 5).toNat []
def sp4a (wt : List (List Nat)) (c : Int) : List (List Nat) := ([cutL wt none (some 1), wt ++ (List.range 3).map (fun _ => [49]), wt] : List (List (List Nat))).getD (c % 3).toNat []
def spoiledL (wt ws : List (List Nat)) (f c : Int) : List Nat :=
  if f = 0 then lineL (sp0a wt c) ws
  else if f = 1 then lineL wt (sp1b ws c)
  else if f = 2 then replT (lineL wt ws) [58, 32] (repsT.getD (c % 4).toNat [])
  else if f = 3 then sp3 (lineL wt ws) c
  else if f = 4 then lineL (sp4a wt c) (if c % 3 < 2 then ws else [])
  else if f = 5 then lineL wt fiveT
  else restT.getD (c % 10).toNat []
theorem nil_fig : ¬ okFig [] := fun h => absurd (okFig_iff.mp h) (by decide)
theorem nil_word (n : Nat) : ¬ okWord n [] := fun h => absurd h.1 (by decide)
theorem char_no {n : Nat} {y : List Nat} (x : Nat) (hx : x ∈ y) (h : x ∉ abcd) : ¬ okWord n y := fun q => h (List.mem_of_mem_take (q.2.2 x hx))
theorem pick0 (c : Int) : ∃ x, zeroT.getD (c / 16 % 11).toNat [] = x ∧ x.length ≤ 3 ∧ ((32 ∉ x ∧ 58 ∉ x ∧ ¬ okFig x) ∨ x = [] ++ [32] ++ [49]) := by
  have h0 : 0 ≤ c / 16 % 11 := Int.emod_nonneg _ (by decide)
  have h1 : c / 16 % 11 < 11 := Int.emod_lt_of_pos _ (by decide)
  have hk : (c / 16 % 11).toNat = 0 ∨ (c / 16 % 11).toNat = 1 ∨ (c / 16 % 11).toNat = 2 ∨ (c / 16 % 11).toNat = 3 ∨ (c / 16 % 11).toNat = 4 ∨ (c / 16 % 11).toNat = 5 ∨ (c / 16 % 11).toNat = 6 ∨ (c / 16 % 11).toNat = 7 ∨ (c / 16 % 11).toNat = 8 ∨ (c / 16 % 11).toNat = 9 ∨ (c / 16 % 11).toNat = 10 := by omega
  rcases hk with e | e | e | e | e | e | e | e | e | e | e <;> rw [e] <;> refine ⟨_, rfl, by decide, ?_⟩ <;> first | exact .inl ⟨by decide, by decide, fun h => absurd (okFig_iff.mp h) (by decide)⟩ | exact .inr rfl
theorem pick1 {w : List Nat} (lw : w.length ≤ 6) (c : Int) : ∃ y, (oneT w).getD (c / 16 % 9).toNat [] = y ∧ y.length ≤ 13 ∧ ((32 ∉ y ∧ ∀ n, ¬ okWord n y) ∨ y = w ++ [32] ++ w) := by
  have h0 : 0 ≤ c / 16 % 9 := Int.emod_nonneg _ (by decide)
  have h1 : c / 16 % 9 < 9 := Int.emod_lt_of_pos _ (by decide)
  have hk : (c / 16 % 9).toNat = 0 ∨ (c / 16 % 9).toNat = 1 ∨ (c / 16 % 9).toNat = 2 ∨ (c / 16 % 9).toNat = 3 ∨ (c / 16 % 9).toNat = 4 ∨ (c / 16 % 9).toNat = 5 ∨ (c / 16 % 9).toNat = 6 ∨ (c / 16 % 9).toNat = 7 ∨ (c / 16 % 9).toNat = 8 := by omega
  rcases hk with e | e | e | e | e | e | e | e | e <;> rw [e]
  · exact ⟨[], rfl, by decide, .inl ⟨by decide, nil_word⟩⟩
  · exact ⟨[97, 97, 97, 97, 97, 97, 98], rfl, by decide, .inl ⟨by decide, fun n h => absurd h.2.1 (by decide)⟩⟩
  · exact ⟨[101], rfl, by decide, .inl ⟨by decide, fun n => char_no 101 (by decide) (by decide)⟩⟩
  · exact ⟨[65], rfl, by decide, .inl ⟨by decide, fun n => char_no 65 (by decide) (by decide)⟩⟩
  · exact ⟨[97, 45], rfl, by decide, .inl ⟨by decide, fun n => char_no 45 (by decide) (by decide)⟩⟩
  · exact ⟨[97, 49], rfl, by decide, .inl ⟨by decide, fun n => char_no 49 (by decide) (by decide)⟩⟩
  · exact ⟨[97, 9], rfl, by decide, .inl ⟨by decide, fun n => char_no 9 (by decide) (by decide)⟩⟩
  · refine ⟨_, rfl, ?_, .inr rfl⟩
    show (w ++ [32] ++ w).length ≤ 13
    rw [List.length_append, List.length_append, List.length_singleton]; omega
  · exact ⟨[97, 98, 10], rfl, by decide, .inl ⟨by decide, fun n => char_no 10 (by decide) (by decide)⟩⟩
theorem prevW_in {ws : List (List Nat)} {p : Int} (h0 : 0 ≤ p) (h1 : p < ws.length) : atI ws (p - 1) = some (prevW ws p) ∧ prevW ws p ∈ ws := by
  have key : ∃ w ∈ ws, atI ws (p - 1) = some w := by
    by_cases h : p = 0
    · subst h
      have e := atI_last [] (l := ws) (by omega)
      refine ⟨_, ?_, e⟩
      cases ws with
      | nil => exact absurd h1 (by decide)
      | cons a r =>
        rw [List.getLastD_cons, ← List.getLast_eq_getLastD (List.cons_ne_nil a r)]
        exact List.getLast_mem _
    · have e := atI_getD (l := ws) (i := p - 1) [] (by omega) (by omega)
      refine ⟨_, ?_, e⟩
      rw [getD_lt (show (p - 1).toNat < ws.length by omega)]
      exact List.getElem_mem _
  obtain ⟨w, hw, e⟩ := key
  unfold prevW
  rw [e]
  exact ⟨rfl, hw⟩
section
variable {die : List Int} {ws : List (List Nat)}
theorem figs_len (d : okDie die) : (∀ p ∈ die.map figL, p.length ≤ 1) ∧ (die.map figL).length ≤ 4 ∧ 2 ≤ (die.map figL).length := ⟨fig_len die, by rw [List.length_map]; exact d.2.1, by rw [List.length_map]; exact d.1⟩
theorem mem3 {α : Type} {u v : List α} {x p : α} (h : p ∈ u ++ [x] ++ v) : p ∈ u ∨ p = x ∨ p ∈ v := by
  rcases List.mem_append.mp h with h | h
  · rcases List.mem_append.mp h with h | h
    · exact .inl h
    · exact .inr (.inl (List.mem_singleton.mp h))
  · exact .inr (.inr h)
theorem sp0_bad (ok : okRace die ws) (c : Int) : ¬ noteOk (lineL (sp0a (die.map figL) c) ws) ∧ (lineL (sp0a (die.map figL) c) ws).length ≤ 90 ∧ small20 (sp0a (die.map figL) c) := by
  obtain ⟨f1, f2, f3⟩ := figs_len ok.1
  have pf := plain_figs ok.1
  obtain ⟨x, ex, lx, hx⟩ := pick0 c
  unfold sp0a
  rw [ex]
  generalize hu : cutL (die.map figL) none (some (c % ((die.map figL).length : Int))) = u
  generalize hv : cutL (die.map figL) (some (c % ((die.map figL).length : Int) + 1)) none = v
  have iu : ∀ p ∈ u, p ∈ die.map figL := fun p h => by rw [← hu] at h; exact cutL_sub h
  have iv : ∀ p ∈ v, p ∈ die.map figL := fun p h => by rw [← hv] at h; exact cutL_sub h
  have lu : u.length ≤ 4 := by rw [← hu]; exact Nat.le_trans (cutL_len _ _ _) f2
  have lv : v.length ≤ 4 := by rw [← hv]; exact Nat.le_trans (cutL_len _ _ _) f2
  have l9 : (u ++ [x] ++ v).length ≤ 9 := by rw [List.length_append, List.length_append, List.length_singleton]; omega
  have l3 : ∀ p ∈ u ++ [x] ++ v, p.length ≤ 3 := fun p h => by
    rcases mem3 h with h | rfl | h
    · exact Nat.le_trans (f1 p (iu p h)) (by decide)
    · exact lx
    · exact Nat.le_trans (f1 p (iv p h)) (by decide)
  refine ⟨?_, Nat.le_trans (line_len l3 l9 ok.six ok.four) (by decide), ⟨by omega, fun p h => Nat.le_trans (l3 p h) (by decide)⟩⟩
  rcases hx with ⟨h1, h2, h3⟩ | rfl
  · refine bad_a (p := x) (fun p h => ?_) (by simp) h3
    rcases mem3 h with h | rfl | h
    · exact pf p (iu p h)
    · exact ⟨h1, h2⟩
    · exact pf p (iv p h)
  · have e : lineL (u ++ [[] ++ [32] ++ [49]] ++ v) ws = lineL (u ++ [[], [49]] ++ v) ws := by unfold lineL; rw [joinL_two]
    rw [e]
    refine bad_a (p := []) (fun p h => ?_) (by simp) nil_fig
    simp only [List.append_assoc, List.mem_append, List.mem_cons, List.not_mem_nil, or_false] at h
    rcases h with h | (rfl | rfl) | h
    · exact pf p (iu p h)
    · exact ⟨by decide, by decide⟩
    · exact ⟨by decide, by decide⟩
    · exact pf p (iv p h)
theorem twice_no {u v : List (List Nat)} {w : List Nat} : ¬ okRace die (u ++ [w, w] ++ v) := fun q => by
  have g : ∀ i, i < 2 → (u ++ [w, w] ++ v).getD (u.length + i) [] = w := fun i hi => by
    rw [List.getD_eq_getElem?_getD, List.append_assoc, List.getElem?_append_right (Nat.le_add_right _ _), Nat.add_sub_cancel_left]
    have : i = 0 ∨ i = 1 := by omega
    rcases this with rfl | rfl <;> rfl
  have l : (u ++ [w, w] ++ v).length = u.length + 2 + v.length := by rw [List.length_append, List.length_append]; rfl
  refine q.2.2.2.2 u.length (u.length + 1) (by omega) (by omega) (by omega) ?_
  have g0 := g 0 (by decide)
  rw [Nat.add_zero] at g0
  rw [g0, g 1 (by decide)]
  exact List.infix_refl w
theorem sp1_bad (ok : okRace die ws) (c : Int) : ¬ noteOk (lineL (die.map figL) (sp1b ws c)) ∧ (lineL (die.map figL) (sp1b ws c)).length ≤ 90 ∧ small20 (sp1b ws c) := by
  obtain ⟨f1, f2, f3⟩ := figs_len ok.1
  have o1 := ok.2.2.1
  have o4 := ok.four
  have o6 := ok.six
  have n32 := ok.no32
  have p0 : 0 ≤ c % (ws.length : Int) := Int.emod_nonneg _ (by omega)
  have p1 : c % (ws.length : Int) < ws.length := Int.emod_lt_of_pos _ (by omega)
  unfold sp1b
  generalize c % (ws.length : Int) = q at p0 p1
  have w0 := (prevW_in p0 p1).2
  generalize prevW ws q = w at w0
  obtain ⟨y, ey, ly, hy⟩ := pick1 (o6 w w0) c
  rw [ey]
  rw [cutJ_to ws p0, cutJ_from ws (show 0 ≤ q + 1 by omega)]
  have iu : ∀ p ∈ ws.take q.toNat, p ∈ ws := fun p h => List.mem_of_mem_take h
  have iv : ∀ p ∈ ws.drop (q + 1).toNat, p ∈ ws := fun p h => List.mem_of_mem_drop h
  have lu : (ws.take q.toNat).length + (ws.drop (q + 1).toNat).length + 1 ≤ 4 := by rw [List.length_take, List.length_drop]; omega
  generalize ws.take q.toNat = u at iu lu
  generalize ws.drop (q + 1).toNat = v at iv lu
  have l4 : (u ++ [y] ++ v).length ≤ 4 := by rw [List.length_append, List.length_append, List.length_singleton]; omega
  have l13 : ∀ p ∈ u ++ [y] ++ v, p.length ≤ 13 := fun p h => by
    rcases mem3 h with h | rfl | h
    · exact Nat.le_trans (o6 p (iu p h)) (by decide)
    · exact ly
    · exact Nat.le_trans (o6 p (iv p h)) (by decide)
  refine ⟨?_, Nat.le_trans (line_len f1 f2 l13 l4) (by decide), ⟨by omega, fun p h => Nat.le_trans (l13 p h) (by decide)⟩⟩
  rcases hy with ⟨h1, h2⟩ | rfl
  · refine bad_b ok.1 (by simp) (fun p h => ?_) fun r => h2 _ (r.2.1 y (by simp))
    rcases mem3 h with h | rfl | h
    · exact n32 p (iu p h)
    · exact h1
    · exact n32 p (iv p h)
  · have e : lineL (die.map figL) (u ++ [w ++ [32] ++ w] ++ v) = lineL (die.map figL) (u ++ [w, w] ++ v) := by unfold lineL; rw [joinL_two]
    rw [e]
    refine bad_b ok.1 (by simp) (fun p h => ?_) twice_no
    simp only [List.append_assoc, List.mem_append, List.mem_cons, List.not_mem_nil, or_false, or_self] at h
    rcases h with h | h | h
    · exact n32 p (iu p h)
    · rw [h]; exact n32 w w0
    · exact n32 p (iv p h)
theorem plain_ws (ok : okRace die ws) : plainP ws := fun p hp => ⟨ok.no32 p hp, fun h => (sgn_32 ((ok.2.1 p hp).2.2 58 h)).2 rfl⟩
theorem join_sizes (ok : okRace die ws) : (TL.joinL [32] (die.map figL)).length ≤ 8 ∧ (TL.joinL [32] ws).length ≤ 28 := by
  obtain ⟨_, _, z3, z4⟩ := shw_sz (ws := ws) ok.1.2.1 ok.2.2.2.1 (fun v hv => (ok.2.1 v hv).2.1)
  rw [joinT_eq] at z3 z4
  exact ⟨z3, z4⟩
theorem head_ws (ok : okRace die ws) : (TL.joinL [32] ws).headD 0 ≠ 32 := by
  have ne := ws_ne ok
  have h2 := ok.2.1
  cases ws with
  | nil => exact absurd rfl ne
  | cons w r =>
    have hw := h2 w List.mem_cons_self
    cases w with
    | nil => exact absurd hw (nil_word _)
    | cons x w' =>
      have hx := (sgn_32 (hw.2.2 x List.mem_cons_self)).1
      cases r with
      | nil => exact hx
      | cons q r => exact hx
theorem sp2_bad (ok : okRace die ws) (c : Int) : ¬ noteOk (replT (lineL (die.map figL) ws) [58, 32] (repsT.getD (c % 4).toNat [])) ∧ (replT (lineL (die.map figL) ws) [58, 32] (repsT.getD (c % 4).toNat [])).length ≤ 90 := by
  have pf := plain_figs ok.1
  have pw := plain_ws ok
  obtain ⟨l1, l2⟩ := join_sizes ok
  rw [replT_line pf pw]
  have h0 : 0 ≤ c % 4 := Int.emod_nonneg _ (by decide)
  have h4 : c % 4 < 4 := Int.emod_lt_of_pos _ (by decide)
  have hk : (c % 4).toNat = 0 ∨ (c % 4).toNat = 1 ∨ (c % 4).toNat = 2 ∨ (c % 4).toNat = 3 := by omega
  have a58 := no58 pf
  have b58 := no58 pw
  have none : ∀ z : List Nat, 58 ∉ z → ¬ noteOk (TL.joinL [32] (die.map figL) ++ (z ++ TL.joinL [32] ws)) := fun z hz => no_colon (part_none (TL.par_none1 (S := [32]) (acc := []) fun q => by
    rcases List.mem_append.mp q with q | q
    · exact a58 q
    · rcases List.mem_append.mp q with q | q
      · exact hz q
      · exact b58 q))
  have len : ∀ z : List Nat, z.length ≤ 3 → (TL.joinL [32] (die.map figL) ++ (z ++ TL.joinL [32] ws)).length ≤ 90 := fun z hz => by
    rw [List.length_append, List.length_append]; omega
  rcases hk with e | e | e | e <;> rw [e]
  · exact ⟨none [32, 32] (by decide), len [32, 32] (by decide)⟩
  · exact ⟨no_colon (part_none (par_one b58 (head_ws ok) a58)), len [58] (by decide)⟩
  · exact ⟨none [32] (by decide), len [32] (by decide)⟩
  · refine ⟨?_, len [32, 58, 32] (by decide)⟩
    have e : TL.joinL [32] (die.map figL) ++ ([32, 58, 32] ++ TL.joinL [32] ws) = lineL (die.map figL ++ [[]]) ws := by
      unfold lineL
      rw [joinL_snoc (die_ne ok.1)]
      simp only [List.append_assoc]
      rfl
    show ¬ noteOk (TL.joinL [32] (die.map figL) ++ ([32, 58, 32] ++ TL.joinL [32] ws))
    rw [e]
    refine bad_a (p := []) (fun p h => ?_) (by simp) nil_fig
    rcases List.mem_append.mp h with h | h
    · exact pf p h
    · rw [List.mem_singleton.mp h]; exact ⟨by decide, by decide⟩
theorem sp3_bad (ok : okRace die ws) (c : Int) : ¬ noteOk (sp3 (lineL (die.map figL) ws) c) ∧ (sp3 (lineL (die.map figL) ws) c).length ≤ 90 := by
  have pf := plain_figs ok.1
  have pw := plain_ws ok
  have n32 := ok.no32
  obtain ⟨l1, l2⟩ := join_sizes ok
  have h0 : 0 ≤ c % 5 := Int.emod_nonneg _ (by decide)
  have h5 : c % 5 < 5 := Int.emod_lt_of_pos _ (by decide)
  have hk : (c % 5).toNat = 0 ∨ (c % 5).toNat = 1 ∨ (c % 5).toNat = 2 ∨ (c % 5).toNat = 3 ∨ (c % 5).toNat = 4 := by omega
  have lT : (lineL (die.map figL) ws).length ≤ 38 := by
    unfold lineL
    rw [List.length_append, List.length_append]
    have : ([58, 32] : List Nat).length = 2 := rfl
    omega
  unfold sp3
  rcases hk with e | e | e | e | e <;> rw [e]
  · show ¬ noteOk ([32] ++ lineL (die.map figL) ws) ∧ ([32] ++ lineL (die.map figL) ws).length ≤ 90
    refine ⟨?_, by rw [List.length_append, List.length_singleton]; omega⟩
    have e : [32] ++ lineL (die.map figL) ws = lineL ([] :: die.map figL) ws := by
      unfold lineL
      rw [joinL_cons (die_ne ok.1)]
      simp only [List.append_assoc, List.nil_append]
    rw [e]
    refine bad_a (p := []) (fun p h => ?_) List.mem_cons_self nil_fig
    rcases List.mem_cons.mp h with rfl | h
    · exact ⟨by decide, by decide⟩
    · exact pf p h
  · show ¬ noteOk (lineL (die.map figL) ws ++ [32]) ∧ (lineL (die.map figL) ws ++ [32]).length ≤ 90
    refine ⟨?_, by rw [List.length_append, List.length_singleton]; omega⟩
    have e : lineL (die.map figL) ws ++ [32] = lineL (die.map figL) (ws ++ [[]]) := by
      unfold lineL
      rw [joinL_snoc (ws_ne ok)]
      simp only [List.append_assoc, List.append_nil]
    rw [e]
    refine bad_b ok.1 (by simp) (fun p h => ?_) fun q => nil_word _ (q.2.1 [] (by simp))
    rcases List.mem_append.mp h with h | h
    · exact n32 p h
    · rw [List.mem_singleton.mp h]; decide
  · show ¬ noteOk (lineL (die.map figL) ws ++ [10]) ∧ (lineL (die.map figL) ws ++ [10]).length ≤ 90
    refine ⟨?_, by rw [List.length_append, List.length_singleton]; omega⟩
    rcases List.eq_nil_or_concat ws with h | ⟨r, x, h⟩
    · exact absurd h (ws_ne ok)
    rw [List.concat_eq_append] at h
    have e : lineL (die.map figL) ws ++ [10] = lineL (die.map figL) (r ++ [x ++ [10]]) := by
      unfold lineL
      rw [h, List.append_assoc, joinL_last]
    rw [e]
    have n1 : ∀ p ∈ r, 32 ∉ p := fun p hp => n32 p (by rw [h]; exact List.mem_append_left _ hp)
    have n2 : 32 ∉ x := n32 x (by rw [h]; simp)
    refine bad_b ok.1 (by simp) (fun p hp => ?_) fun q => char_no 10 (by simp) (by decide) (q.2.1 (x ++ [10]) (by simp))
    rcases List.mem_append.mp hp with hp | hp
    · exact n1 p hp
    · rw [List.mem_singleton.mp hp]
      intro q
      rcases List.mem_append.mp q with q | q
      · exact n2 q
      · exact absurd (List.mem_singleton.mp q) (by decide)
  · show ¬ noteOk ([9] ++ lineL (die.map figL) ws) ∧ ([9] ++ lineL (die.map figL) ws).length ≤ 90
    refine ⟨?_, by rw [List.length_append, List.length_singleton]; omega⟩
    cases h : die.map figL with
    | nil => exact absurd h (die_ne ok.1)
    | cons x r =>
      have e : [9] ++ lineL (x :: r) ws = lineL (([9] ++ x) :: r) ws := by
        unfold lineL
        rw [← joinL_first, List.append_assoc, List.append_assoc, List.append_assoc]
      rw [e]
      have px := pf x (by rw [h]; exact List.mem_cons_self)
      have gx : okFig x := by
        obtain ⟨w, hw, e⟩ := List.mem_map.mp (show x ∈ die.map figL by rw [h]; exact List.mem_cons_self)
        rw [← e]; exact fig_ok (ok.1.2.2 w hw)
      refine bad_a (p := [9] ++ x) (fun p hp => ?_) List.mem_cons_self fun q => ?_
      · rcases List.mem_cons.mp hp with rfl | hp
        · exact ⟨fun q => (List.mem_append.mp q).elim (fun q => absurd (List.mem_singleton.mp q) (by decide)) px.1, fun q => (List.mem_append.mp q).elim (fun q => absurd (List.mem_singleton.mp q) (by decide)) px.2⟩
        · exact pf p (by rw [h]; exact List.mem_cons_of_mem _ hp)
      · have q1 := (okFig_iff.mp q).1
        have g1 := (okFig_iff.mp gx).1
        rw [List.length_append, List.length_singleton] at q1
        omega
  · show ¬ noteOk (replT (lineL (die.map figL) ws) [58, 32] [58, 32, 32]) ∧ (replT (lineL (die.map figL) ws) [58, 32] [58, 32, 32]).length ≤ 90
    rw [replT_line pf pw]
    refine ⟨?_, by rw [List.length_append, List.length_append]; have : ([58, 32, 32] : List Nat).length = 3 := rfl; omega⟩
    have e : TL.joinL [32] (die.map figL) ++ ([58, 32, 32] ++ TL.joinL [32] ws) = lineL (die.map figL) ([] :: ws) := by
      unfold lineL
      rw [joinL_cons (ws_ne ok)]
      simp only [List.append_assoc, List.nil_append]
      rfl
    rw [e]
    refine bad_b ok.1 (List.cons_ne_nil _ _) (fun p h => ?_) fun q => nil_word _ (q.2.1 [] List.mem_cons_self)
    rcases List.mem_cons.mp h with rfl | h
    · decide
    · exact n32 p h
theorem sp4_bad (ok : okRace die ws) (c : Int) : ¬ noteOk (lineL (sp4a (die.map figL) c) (if c % 3 < 2 then ws else [])) ∧ (lineL (sp4a (die.map figL) c) (if c % 3 < 2 then ws else [])).length ≤ 90 ∧ small20 (sp4a (die.map figL) c) := by
  obtain ⟨f1, f2, f3⟩ := figs_len ok.1
  have pf := plain_figs ok.1
  have h0 : 0 ≤ c % 3 := Int.emod_nonneg _ (by decide)
  have h3 : c % 3 < 3 := Int.emod_lt_of_pos _ (by decide)
  have hk : c % 3 = 0 ∨ c % 3 = 1 ∨ c % 3 = 2 := by omega
  unfold sp4a
  rcases hk with e | e | e <;> rw [e]
  · show ¬ noteOk (lineL (cutL (die.map figL) none (some 1)) ws) ∧ (lineL (cutL (die.map figL) none (some 1)) ws).length ≤ 90 ∧ small20 (cutL (die.map figL) none (some 1))
    have e1 := cutL_to (die.map figL) 1
    rw [show ((1 : Nat) : Int) = 1 from rfl] at e1
    rw [e1]
    have l1 : ((die.map figL).take 1).length = 1 := by rw [List.length_take]; omega
    have it : ∀ p ∈ (die.map figL).take 1, p ∈ die.map figL := fun p h => List.mem_of_mem_take h
    refine ⟨bad_d (fun z => by rw [z] at l1; cases l1) (fun p h => pf p (it p h)) (fun q => ?_), Nat.le_trans (line_len (fun p h => f1 p (it p h)) (Nat.le_of_eq l1) ok.six ok.four) (by decide), ⟨by omega, fun p h => Nat.le_trans (f1 p (it p h)) (by decide)⟩⟩
    have := q.1
    rw [List.length_map, l1] at this
    exact absurd this (by decide)
  · show ¬ noteOk (lineL (die.map figL ++ [[49], [49], [49]]) ws) ∧ (lineL (die.map figL ++ [[49], [49], [49]]) ws).length ≤ 90 ∧ small20 (die.map figL ++ [[49], [49], [49]])
    have l1 : (die.map figL ++ [[49], [49], [49]]).length = (die.map figL).length + 3 := by rw [List.length_append]; rfl
    have all : ∀ p ∈ die.map figL ++ [[49], [49], [49]], p ∈ die.map figL ∨ p = [49] := fun p h => by
      rcases List.mem_append.mp h with h | h
      · exact .inl h
      · simp only [List.mem_cons, List.not_mem_nil, or_false, or_self] at h
        exact .inr h
    have l7 : ∀ p ∈ die.map figL ++ [[49], [49], [49]], p.length ≤ 1 := fun p h => (all p h).elim (f1 p) fun e => by rw [e]; decide
    refine ⟨bad_d (by simp) (fun p h => (all p h).elim (pf p) fun e => by rw [e]; exact ⟨by decide, by decide⟩) (fun q => ?_), Nat.le_trans (line_len l7 (show _ ≤ 7 by omega) ok.six ok.four) (by decide), ⟨by omega, fun p h => Nat.le_trans (l7 p h) (by decide)⟩⟩
    have := q.2.1
    rw [List.length_map, l1] at this
    omega
  · show ¬ noteOk (lineL (die.map figL) [[]]) ∧ (lineL (die.map figL) [[]]).length ≤ 90 ∧ small20 (die.map figL)
    refine ⟨bad_b ok.1 (List.cons_ne_nil _ _) (fun p h => by rw [List.mem_singleton.mp h]; decide) fun q => nil_word _ (q.2.1 [] List.mem_cons_self), Nat.le_trans (line_len f1 f2 (k := 1) (j := 1) (fun p h => by rw [List.mem_singleton.mp h]; decide) (Nat.le_refl _)) (by decide), ⟨by omega, fun p h => Nat.le_trans (f1 p h) (by decide)⟩⟩
theorem five20 : small20 fiveT := ⟨by decide, by decide⟩
theorem sp5_bad (ok : okRace die ws) : ¬ noteOk (lineL (die.map figL) fiveT) ∧ (lineL (die.map figL) fiveT).length ≤ 90 := by
  obtain ⟨f1, f2, f3⟩ := figs_len ok.1
  refine ⟨bad_b ok.1 (List.cons_ne_nil _ _) (by decide) fun q => absurd (show 5 ≤ 4 from q.2.2.2.1) (by decide), Nat.le_trans (line_len f1 f2 (k := 3) (j := 5) (by decide) (by decide)) (by decide)⟩
theorem sp6_bad (c : Int) : ¬ noteOk (restT.getD (c % 10).toNat []) ∧ (restT.getD (c % 10).toNat []).length ≤ 90 := by
  have h0 : 0 ≤ c % 10 := Int.emod_nonneg _ (by decide)
  have h1 : c % 10 < 10 := Int.emod_lt_of_pos _ (by decide)
  have hk : (c % 10).toNat = 0 ∨ (c % 10).toNat = 1 ∨ (c % 10).toNat = 2 ∨ (c % 10).toNat = 3 ∨ (c % 10).toNat = 4 ∨ (c % 10).toNat = 5 ∨ (c % 10).toNat = 6 ∨ (c % 10).toNat = 7 ∨ (c % 10).toNat = 8 ∨ (c % 10).toNat = 9 := by omega
  rcases hk with e | e | e | e | e | e | e | e | e | e <;> rw [e]
  · exact ⟨no_colon rfl, by decide⟩
  · exact ⟨no_colon rfl, by decide⟩
  · exact ⟨no_fig ⟨[], by decide, nil_fig⟩, by decide⟩
  · exact ⟨no_fig ⟨[], by decide, nil_fig⟩, by decide⟩
  · exact ⟨no_colon rfl, by decide⟩
  · exact ⟨no_word ⟨[], by decide, nil_word⟩, by decide⟩
  · exact ⟨no_fig ⟨[49, 44, 49], by decide, fun h => absurd (okFig_iff.mp h) (by decide)⟩, by decide⟩
  · exact ⟨no_colon rfl, by decide⟩
  · exact ⟨no_word ⟨[97, 44, 98], by decide, fun n => char_no 44 (by decide) (by decide)⟩, by decide⟩
  · exact ⟨no_colon rfl, by decide⟩
theorem spoiled_bad (ok : okRace die ws) (f c : Int) : ¬ noteOk (spoiledL (die.map figL) ws f c) ∧ (spoiledL (die.map figL) ws f c).length ≤ 90 := by
  unfold spoiledL
  split
  · exact ⟨(sp0_bad ok c).1, (sp0_bad ok c).2.1⟩
  split
  · exact ⟨(sp1_bad ok c).1, (sp1_bad ok c).2.1⟩
  split
  · exact sp2_bad ok c
  split
  · exact sp3_bad ok c
  split
  · exact ⟨(sp4_bad ok c).1, (sp4_bad ok c).2.1⟩
  split
  · exact sp5_bad ok
  · exact sp6_bad c
end
abbrev S20__law_spoiled (ds : List D) (r : Out) : Prop := ∃ (die : List Int) (ws : List (List Nat)) (f c : Int), ds = [txts (die.map figL), txts ws, iD f, iD c] ∧ okRace die ws ∧ r = .rt (sD (spoiledL (die.map figL) ws f c))
theorem S20__law_spoiled_len {ds : List D} {r : Out} (h : S20__law_spoiled ds r) : ds.length = 4 := by obtain ⟨_, _, _, _, rfl, _⟩ := h; rfl
end Vs

namespace Vs
open PySem PySem.Spec L2
def topS (i : Nat) : Stmt := PySem.Challenge.pw_wordrace_k20_unread.main.body.getD i (.Pass ⟨0, 0, 0, 0⟩)
section
variable {P : Program} {w : World} {K : PySem.W.Frag} {mg : Str → Option Value} {base : Heap} {E : Errs}
/-! ### ask_die -/
theorem sc_ask_die : FnScope ["die", "weight"] ["die"] (defScope (topS 11)) := ⟨rfl, rfl, rfl, by decide +kernel, rfl, by decide +kernel, by decide +kernel⟩
theorem ok_ask_die (Df : DfG K mg "ask_die" (topS 11) ["die"]) (B : Bts mg)
    (C : Clss K mg E) : FnN P w K mg base 1 "ask_die" ["die"] (fun ds r => S_ask_die ds r ∨ XX_ask_die E ds r) := by
  refine fn_N Df sc_ask_die (fun ds r h => h.elim (fun h => S_ask_die_len h) (fun h => XX_ask_die_len h)) fun X W hP hw hK hm hb A tk ds r hS => ?_
  subst hP hw hK hm hb
  have hsz := szL
  rcases hS with hS | hS
  · obtain ⟨die, rfl, ok, rfl⟩ := hS
    obtain ⟨o1, o2, o3⟩ := ok
    have loop : ∀ l : List Int, (∀ w ∈ l, 1 ≤ w ∧ w ≤ 9) → ForR X W 1 (bodyOf (stAt (defBody (topS 11)) 1)) (l.map iD) [.va (nums die), .no] (.nx [.va (nums die), .no]) := by
      intro l
      induction l with
      | nil => intro _; exact .nil
      | cons w l ih =>
        intro h
        have hw := h w List.mem_cons_self
        refine .nx (RunB.clrO 1 (runB_one (run_ifF (evt_not (evt_lele ev_int (ev_var A.toWh 1 rfl (.inl rfl) rfl) ev_int)) ?_ runB_nil))) (ih fun w hw => h w (List.mem_cons_of_mem _ hw))
        rw [decide_eq_true hw.1, decide_eq_true hw.2]; rfl
    refine ⟨_, .inr ⟨_, rfl, rfl⟩, runB_cons (run_ifF (evt_not (evt_lele ev_int (ev_lenM A.toWh (by rfl) B.len (ev_var A.toWh 0 rfl (.inl rfl) rfl)) ev_int)) ?_ runB_nil) (runB_one (show Run X W _ _ (.nx [.va (nums die), .no]) from ?_))⟩
    · rw [decide_eq_true (by omega), decide_eq_true (by omega)]; rfl
    · refine (run_for A 1 rfl (.inl rfl) (evi_list (ev_var A.toWh 0 rfl (.inl rfl) rfl)) ?_)
      exact loop die o3
  · obtain ⟨die, rfl, bad, rfl⟩ := hS
    by_cases h : 2 ≤ die.length ∧ die.length ≤ 4
    · have h3 : ¬ ∀ w ∈ die, 1 ≤ w ∧ w ≤ 9 := fun q => bad ⟨h.1, h.2, q⟩
      have loop : ∀ l : List Int, (¬ ∀ w ∈ l, 1 ≤ w ∧ w ≤ 9) → ForR X W 1 (bodyOf (stAt (defBody (topS 11)) 1)) (l.map iD) [.va (nums die), .no] (.ex (.ref E.die)) := by
        intro l
        induction l with
        | nil => intro h; exact absurd (fun _ h => nomatch h) h
        | cons w l ih =>
          intro h
          by_cases hw : 1 ≤ w ∧ w ≤ 9
          · have h2 : ¬ ∀ w ∈ l, 1 ≤ w ∧ w ≤ 9 := fun q => h fun v hv => (List.mem_cons.mp hv).elim (fun e => by rw [e]; exact hw) (q v)
            refine .nx (RunB.clrO 1 (runB_one (run_ifF (evt_not (evt_lele ev_int (ev_var A.toWh 1 rfl (.inl rfl) rfl) ev_int)) ?_ runB_nil))) (ih h2)
            rw [decide_eq_true hw.1, decide_eq_true hw.2]; rfl
          · refine .rt (runB_one (run_ifT (evt_not (evt_lele ev_int (ev_var A.toWh 1 rfl (.inl rfl) rfl) ev_int)) ?_ (runB_one (run_raiseN A.toWh tk C.die rfl)))) rfl
            rw [← Bool.decide_and, decide_eq_false hw]; rfl
      refine ⟨_, .inl rfl, runB_cons (run_ifF (evt_not (evt_lele ev_int (ev_lenM A.toWh (by rfl) B.len (ev_var A.toWh 0 rfl (.inl rfl) rfl)) ev_int)) ?_ runB_nil) (runB_one (show Run X W _ _ (.ex (.ref E.die)) from ?_))⟩
      · rw [decide_eq_true (by omega), decide_eq_true (by omega)]; rfl
      · refine (run_for A 1 rfl (.inl rfl) (evi_list (ev_var A.toWh 0 rfl (.inl rfl) rfl)) ?_)
        exact loop die h3
    · refine ⟨_, .inl rfl, runB_X (run_ifT (evt_not (evt_lele ev_int (ev_lenM A.toWh (by rfl) B.len (ev_var A.toWh 0 rfl (.inl rfl) rfl)) ev_int)) ?_ (runB_one (run_raiseN A.toWh tk C.die rfl)))⟩
      rw [← Bool.decide_and, decide_eq_false (by omega)]; rfl
/-! ### is_thrown -/
theorem sc_is_thrown : FnScope ["die", "text", "sign"] ["die", "text"] (defScope (topS 12)) := ⟨rfl, rfl, rfl, by decide +kernel, rfl, by decide +kernel, by decide +kernel⟩
theorem ok_is_thrown (Df : DfG K mg "is_thrown" (topS 12) ["die", "text"]) (B : Bts mg)
    (C : Clss K mg E)
    (g_SIGNS : GlG K mg "SIGNS" (sD [97, 98, 99, 100])) : FnG P w K mg base 1 "is_thrown" ["die", "text"] S_is_thrown := by
  refine fn_D Df sc_is_thrown (fun ds r h => S_is_thrown_len h) fun X W hP hw hK hm hb A tk ds r hS => ?_
  subst hP hw hK hm hb
  have hsz := szL
  obtain ⟨die, text, rfl, rfl⟩ := hS
  have loop : ∀ l : List Nat, ForR X W 2 (bodyOf (stAt (defBody (topS 12)) 0)) (l.map fun c => sD [c]) [.va (nums die), .va (sD text), .no] (if thrownB die.length l then .nx [.va (nums die), .va (sD text), .no] else .rt (bD false)) := by
    intro l
    induction l with
    | nil => exact .nil
    | cons c l ih =>
      cases hc : decide ([c] <:+: cutL abcd none (some (die.length : Int))) with
      | true =>
        have e : thrownB die.length (c :: l) = thrownB die.length l := by unfold thrownB; rw [List.all_cons, hc, Bool.true_and]
        rw [e]
        refine .nx (RunB.clrO 2 (runB_one (run_ifF (evt_ninT (ev_var A.toWh 2 rfl (.inl rfl) rfl) (ev_slT (ev_gl A.toWh g_SIGNS (by rfl)) evo_none (evo_some (ev_lenM A.toWh (by rfl) B.len (ev_var A.toWh 0 rfl (.inl rfl) rfl))) (by first | omega | assumption | rfl | (simp only [List.length_append, List.length_cons, List.length_nil, List.length_map, List.length_range]; omega)))) ?_ runB_nil))) ih
        rw [hc]; rfl
      | false =>
        have e : thrownB die.length (c :: l) = false := by unfold thrownB; rw [List.all_cons, hc, Bool.false_and]
        rw [e, if_neg (by decide)]
        refine .rt (runB_one (run_ifT (evt_ninT (ev_var A.toWh 2 rfl (.inl rfl) rfl) (ev_slT (ev_gl A.toWh g_SIGNS (by rfl)) evo_none (evo_some (ev_lenM A.toWh (by rfl) B.len (ev_var A.toWh 0 rfl (.inl rfl) rfl))) (by first | omega | assumption | rfl | (simp only [List.length_append, List.length_cons, List.length_nil, List.length_map, List.length_range]; omega)))) ?_ (runB_one (run_ret ev_bl)))) rfl
        rw [hc]; rfl
  have L := loop text
  cases hb : thrownB die.length text with
  | true =>
    rw [hb, if_pos rfl] at L
    refine ⟨_, .inl rfl, runB_cons (show Run X W _ _ (.nx [.va (nums die), .va (sD text), .no]) from ?_) (runB_one (run_ret ev_bl))⟩
    refine (run_for A 2 rfl (.inl rfl) (evi_strT (ev_var A.toWh 1 rfl (.inl rfl) rfl)) ?_)
    exact L
  | false =>
    rw [hb, if_neg (by decide)] at L
    refine ⟨_, .inl rfl, runB_stop (u := .rt (bD false)) ?_ rfl⟩
    refine (run_for A 2 rfl (.inl rfl) (evi_strT (ev_var A.toWh 1 rfl (.inl rfl) rfl)) ?_)
    exact L
/-! ### ask_word -/
theorem sc_ask_word : FnScope ["die", "word"] ["die", "word"] (defScope (topS 13)) := ⟨rfl, rfl, rfl, by decide +kernel, rfl, by decide +kernel, by decide +kernel⟩
theorem ok_ask_word (Df : DfG K mg "ask_word" (topS 13) ["die", "word"]) (B : Bts mg)
    (C : Clss K mg E)
    (c_is_thrown : FnG P w K mg base 1 "is_thrown" ["die", "text"] S_is_thrown) : FnN P w K mg base 2 "ask_word" ["die", "word"] (fun ds r => S_ask_word ds r ∨ XX_ask_word E ds r) := by
  refine fn_N Df sc_ask_word (fun ds r h => h.elim (fun h => S_ask_word_len h) (fun h => XX_ask_word_len h)) fun X W hP hw hK hm hb A tk ds r hS => ?_
  subst hP hw hK hm hb
  have hsz := szL
  rcases hS with hS | hS
  · obtain ⟨die, text, rfl, ok, rfl⟩ := hS
    have hl := ok.lt
    refine ⟨_, .inr ⟨_, rfl, rfl⟩, runB_one (run_ifF ((evw_or (evt_not (evt_lele ev_int (ev_lenT' A.toWh (by rfl) B.len (ev_var A.toWh 1 rfl (.inl rfl) rfl) (by first | omega | assumption | rfl | (simp only [List.length_append, List.length_cons, List.length_nil, List.length_map, List.length_range]; omega))) ev_int)) (fun hc1 => (evw_or1 (evt_not (evt_val (ev_call A.toWh c_is_thrown (by decide) (by rfl) (eva_cons (ev_var A.toWh 0 rfl (.inl rfl) rfl) (eva_cons (ev_var A.toWh 1 rfl (.inl rfl) rfl) eva_nil)) ⟨_, _, rfl, rfl⟩))))))).t ?_ runB_nil)⟩
    rw [decide_eq_true (show (1 : Int) ≤ text.length by have := ok.1; omega), decide_eq_true (show (text.length : Int) ≤ 6 by omega), thrownB_ok ok.2.2]; rfl
  · obtain ⟨die, text, rfl, hl, bad, rfl⟩ := hS
    refine ⟨_, .inl rfl, runB_X (run_ifT ((evw_or (evt_not (evt_lele ev_int (ev_lenT' A.toWh (by rfl) B.len (ev_var A.toWh 1 rfl (.inl rfl) rfl) (by first | omega | assumption | rfl | (simp only [List.length_append, List.length_cons, List.length_nil, List.length_map, List.length_range]; omega))) ev_int)) (fun hc1 => (evw_or1 (evt_not (evt_val (ev_call A.toWh c_is_thrown (by decide) (by rfl) (eva_cons (ev_var A.toWh 0 rfl (.inl rfl) rfl) (eva_cons (ev_var A.toWh 1 rfl (.inl rfl) rfl) eva_nil)) ⟨_, _, rfl, rfl⟩))))))).t ?_ (runB_one (run_raiseN A.toWh tk C.word rfl)))⟩
    by_cases h : (1 : Int) ≤ text.length ∧ (text.length : Int) ≤ 6
    · cases ht : thrownB die.length text with
      | true => exact absurd ⟨by omega, by omega, thrownB_iff.mp ht⟩ bad
      | false => rw [Bool.not_false, Bool.or_true]
    · rw [← Bool.decide_and, decide_eq_false h]; rfl
/-! ### ask_race -/
theorem sc_ask_race : FnScope ["die", "words", "word", "k", "j"] ["die", "words"] (defScope (topS 14)) := ⟨rfl, rfl, rfl, by decide +kernel, rfl, by decide +kernel, by decide +kernel⟩
theorem ok_ask_race (Df : DfG K mg "ask_race" (topS 14) ["die", "words"]) (B : Bts mg)
    (C : Clss K mg E)
    (n_ask_die : FnN P w K mg base 1 "ask_die" ["die"] (fun ds r => S_ask_die ds r ∨ XX_ask_die E ds r))
    (n_ask_word : FnN P w K mg base 2 "ask_word" ["die", "word"] (fun ds r => S_ask_word ds r ∨ XX_ask_word E ds r)) : FnN P w K mg base 3 "ask_race" ["die", "words"] (fun ds r => S_ask_race ds r ∨ XX_ask_race E ds r) := by
  refine fn_N Df sc_ask_race (fun ds r h => h.elim (fun h => S_ask_race_len h) (fun h => XX_ask_race_len h)) fun X W hP hw hK hm hb A tk ds r hS => ?_
  subst hP hw hK hm hb
  have hsz := szL
  have c_ask_die := n_ask_die.toG
  have c_ask_word := n_ask_word.toG
  rcases hS with hS | hS
  · obtain ⟨die, ws, rfl, ok, rfl⟩ := hS
    obtain ⟨hd, hw, h1, h4, ha⟩ := ok
    have loop1 : ∀ l : List (List Nat), (∀ w ∈ l, okWord die.length w) → ForR X W 2 (bodyOf (stAt (defBody (topS 14)) 1)) (l.map sD) [.va (nums die), .va (txts ws), .no, .no, .no] (.nx [.va (nums die), .va (txts ws), .no, .no, .no]) := by
      intro l
      induction l with
      | nil => intro _; exact .nil
      | cons w l ih =>
        intro h
        have hw := h w List.mem_cons_self
        exact .nx (RunB.clrO 2 (runB_one (run_expr (ev_call A.toWh c_ask_word (by decide) (by rfl) (eva_cons (ev_var A.toWh 0 rfl (.inl rfl) rfl) (eva_cons (ev_var A.toWh 2 rfl (.inl rfl) rfl) eva_nil)) (.inl ⟨_, _, rfl, (by assumption), rfl⟩))))) (ih fun w hw => h w (List.mem_cons_of_mem _ hw))
    have loop3 : ∀ (k : Nat), k < ws.length → ∀ l : List Nat, (∀ j ∈ l, j < ws.length) → ForR X W 4 (bodyOf (stAt (bodyOf (stAt (defBody (topS 14)) 3)) 0)) (l.map fun (j : Nat) => iD j) [.va (nums die), .va (txts ws), .no, .va (iD k), .no] (.nx [.va (nums die), .va (txts ws), .no, .va (iD k), .no]) := by
      intro k hk l
      induction l with
      | nil => intro _; exact .nil
      | cons j l ih =>
        intro h
        have hj := h j List.mem_cons_self
        refine .nx (RunB.clrO 4 (runB_one (run_ifF ((evw_and (evt_neI (ev_var A.toWh 4 rfl (.inl rfl) rfl) (ev_var A.toWh 3 rfl (.inl rfl) rfl)) (fun hc1 => (evw_and1 (evt_inT (ev_ixG (enc := sD) [] (ev_var A.toWh 1 rfl (.inl rfl) rfl) (ev_var A.toWh 3 rfl (.inl rfl) rfl) (by first | omega | assumption | rfl | (simp only [List.length_append, List.length_cons, List.length_nil, List.length_map, List.length_range]; omega)) (by first | omega | assumption | rfl | (simp only [List.length_append, List.length_cons, List.length_nil, List.length_map, List.length_range]; omega))) (ev_ixG (enc := sD) [] (ev_var A.toWh 1 rfl (.inl rfl) rfl) (ev_var A.toWh 4 rfl (.inl rfl) rfl) (by first | omega | assumption | rfl | (simp only [List.length_append, List.length_cons, List.length_nil, List.length_map, List.length_range]; omega)) (by first | omega | assumption | rfl | (simp only [List.length_append, List.length_cons, List.length_nil, List.length_map, List.length_range]; omega)))))))).t ?_ runB_nil))) (ih fun j hj => h j (List.mem_cons_of_mem _ hj))
        rw [Int.toNat_natCast, Int.toNat_natCast]
        by_cases e : j = k
        · subst e; rw [decide_eq_true rfl]; rfl
        · rw [decide_eq_false (ha k j hk hj e), Bool.and_false]
    have loop2 : ∀ l : List Nat, (∀ j ∈ l, j < ws.length) → ForR X W 3 (bodyOf (stAt (defBody (topS 14)) 3)) (l.map fun (j : Nat) => iD j) [.va (nums die), .va (txts ws), .no, .no, .no] (.nx [.va (nums die), .va (txts ws), .no, .no, .no]) := by
      intro l
      induction l with
      | nil => intro _; exact .nil
      | cons k l ih =>
        intro h
        have hk := h k List.mem_cons_self
        refine .nx (RunB.clrO 3 (runB_one (show Run X W _ _ (.nx [.va (nums die), .va (txts ws), .no, .va (iD k), .no]) from ?_))) (ih fun j hj => h j (List.mem_cons_of_mem _ hj))
        refine (run_for A 4 rfl (.inl rfl) (evi_rangeN A.toWh (by rfl) B.range (ev_lenM A.toWh (by rfl) B.len (ev_var A.toWh 1 rfl (.inl rfl) rfl)) (by first | omega | rfl | assumption) (by first | omega | assumption | rfl | (simp only [List.length_append, List.length_cons, List.length_nil, List.length_map, List.length_range]; omega))) ?_)
        exact loop3 k hk (List.range ws.length) fun j hj => List.mem_range.mp hj
    refine ⟨_, .inr ⟨_, rfl, rfl⟩, runB_cons (run_expr (ev_call A.toWh c_ask_die (by decide) (by rfl) (eva_cons (ev_var A.toWh 0 rfl (.inl rfl) rfl) eva_nil) (.inl ⟨_, rfl, (by assumption), rfl⟩))) (runB_to [.va (nums die), .va (txts ws), .no, .no, .no] ?_ (runB_cons (run_ifF (evt_not (evt_lele ev_int (ev_lenM A.toWh (by rfl) B.len (ev_var A.toWh 1 rfl (.inl rfl) rfl)) ev_int)) ?_ runB_nil) (runB_one (show Run X W _ _ (.nx [.va (nums die), .va (txts ws), .no, .no, .no]) from ?_))))⟩
    · refine (run_for A 2 rfl (.inl rfl) (evi_list (ev_var A.toWh 1 rfl (.inl rfl) rfl)) ?_)
      exact loop1 ws hw
    · rw [decide_eq_true (by omega), decide_eq_true (by omega)]; rfl
    · refine (run_for A 3 rfl (.inl rfl) (evi_rangeN A.toWh (by rfl) B.range (ev_lenM A.toWh (by rfl) B.len (ev_var A.toWh 1 rfl (.inl rfl) rfl)) (by first | omega | rfl | assumption) (by first | omega | assumption | rfl | (simp only [List.length_append, List.length_cons, List.length_nil, List.length_map, List.length_range]; omega))) ?_)
      exact loop2 (List.range ws.length) fun j hj => List.mem_range.mp hj
  · obtain ⟨die, ws, c, rfl, ⟨s1, s2⟩, bad, rfl⟩ := hS
    cases bad with
    | die hb => exact ⟨_, .inl rfl, runB_X (run_exprX (evx_callN A.toWh tk n_ask_die (by decide) (by rfl) (eva_cons (ev_var A.toWh 0 rfl (.inl rfl) rfl) eva_nil) (.inr ⟨_, rfl, (by assumption), rfl⟩)))⟩
    | word hd hb =>
      have loop : ∀ l : List (List Nat), (∃ w ∈ l, ¬ okWord die.length w) → (∀ w ∈ l, w.length ≤ 100) → ForR X W 2 (bodyOf (stAt (defBody (topS 14)) 1)) (l.map sD) [.va (nums die), .va (txts ws), .no, .no, .no] (.ex (.ref E.word)) := by
        intro l
        induction l with
        | nil => rintro ⟨_, h, _⟩; exact nomatch h
        | cons w l ih =>
          intro hx hz
          have z := hz w List.mem_cons_self
          by_cases hw : okWord die.length w
          · refine .nx (RunB.clrO 2 (runB_one (run_expr (ev_call A.toWh c_ask_word (by decide) (by rfl) (eva_cons (ev_var A.toWh 0 rfl (.inl rfl) rfl) (eva_cons (ev_var A.toWh 2 rfl (.inl rfl) rfl) eva_nil)) (.inl ⟨_, _, rfl, (by assumption), rfl⟩))))) (ih ?_ fun w hw => hz w (List.mem_cons_of_mem _ hw))
            obtain ⟨v, hv, hb⟩ := hx
            rcases List.mem_cons.mp hv with rfl | hv
            · exact absurd hw hb
            · exact ⟨v, hv, hb⟩
          · exact .rt (runB_one (run_exprX (evx_callN A.toWh tk n_ask_word (by decide) (by rfl) (eva_cons (ev_var A.toWh 0 rfl (.inl rfl) rfl) (eva_cons (ev_var A.toWh 2 rfl (.inl rfl) rfl) eva_nil)) (.inr ⟨_, _, rfl, (by assumption), (by assumption), rfl⟩)))) rfl
      refine ⟨_, .inl rfl, runB_cons (run_expr (ev_call A.toWh c_ask_die (by decide) (by rfl) (eva_cons (ev_var A.toWh 0 rfl (.inl rfl) rfl) eva_nil) (.inl ⟨_, rfl, (by assumption), rfl⟩))) (runB_X (show Run X W _ _ (.ex (.ref E.word)) from ?_))⟩
      refine (run_for A 2 rfl (.inl rfl) (evi_list (ev_var A.toWh 1 rfl (.inl rfl) rfl)) ?_)
      exact loop ws hb s2
    | race hd hw hb =>
      have loop1 : ∀ l : List (List Nat), (∀ w ∈ l, okWord die.length w) → ForR X W 2 (bodyOf (stAt (defBody (topS 14)) 1)) (l.map sD) [.va (nums die), .va (txts ws), .no, .no, .no] (.nx [.va (nums die), .va (txts ws), .no, .no, .no]) := by
        intro l
        induction l with
        | nil => intro _; exact .nil
        | cons w l ih =>
          intro h
          have hw := h w List.mem_cons_self
          exact .nx (RunB.clrO 2 (runB_one (run_expr (ev_call A.toWh c_ask_word (by decide) (by rfl) (eva_cons (ev_var A.toWh 0 rfl (.inl rfl) rfl) (eva_cons (ev_var A.toWh 2 rfl (.inl rfl) rfl) eva_nil)) (.inl ⟨_, _, rfl, (by assumption), rfl⟩))))) (ih fun w hw => h w (List.mem_cons_of_mem _ hw))
      have first : ∀ u, RunB X W (((defBody (topS 14))).drop 2) [.va (nums die), .va (txts ws), .no, .no, .no] u → RunB X W (((defBody (topS 14))).drop 0) [.va (nums die), .va (txts ws), .no, .no, .no] u := by
        intro u h
        refine runB_cons (run_expr (ev_call A.toWh c_ask_die (by decide) (by rfl) (eva_cons (ev_var A.toWh 0 rfl (.inl rfl) rfl) eva_nil) (.inl ⟨_, rfl, (by assumption), rfl⟩))) (runB_to [.va (nums die), .va (txts ws), .no, .no, .no] ?_ h)
        refine (run_for A 2 rfl (.inl rfl) (evi_list (ev_var A.toWh 1 rfl (.inl rfl) rfl)) ?_)
        exact loop1 ws hw
      by_cases h14 : 1 ≤ ws.length ∧ ws.length ≤ 4
      · have clash2 : ∃ k, k < ws.length ∧ ∃ j, j < ws.length ∧ j ≠ k ∧ ws.getD k [] <:+: ws.getD j [] := by
          refine Classical.byContradiction fun q => hb ⟨h14.1, h14.2, fun i j hi hj ne hs => q ⟨i, hi, j, hj, ne, hs⟩⟩
        have test : ∀ (k j : Nat), (!decide ((j : Int) = (k : Int)) && decide (ws.getD (k : Int).toNat [] <:+: ws.getD (j : Int).toNat [])) = decide (j ≠ k ∧ ws.getD k [] <:+: ws.getD j []) := fun k j => by
          rw [Bool.decide_and, Int.toNat_natCast, Int.toNat_natCast]
          congr 1
          by_cases e : j = k
          · subst e; rw [decide_eq_true rfl, decide_eq_false (by omega)]; rfl
          · rw [decide_eq_false (by omega), decide_eq_true e]; rfl
        have loop3X : ∀ (k : Nat), k < ws.length → ∀ l : List Nat, (∀ j ∈ l, j < ws.length) → (∃ j ∈ l, j ≠ k ∧ ws.getD k [] <:+: ws.getD j []) → ForR X W 4 (bodyOf (stAt (bodyOf (stAt (defBody (topS 14)) 3)) 0)) (l.map fun (j : Nat) => iD j) [.va (nums die), .va (txts ws), .no, .va (iD k), .no] (.ex (.ref E.race)) := by
          intro k hk l
          induction l with
          | nil => rintro _ ⟨_, h, _⟩; exact nomatch h
          | cons j l ih =>
            intro h hx
            have hj := h j List.mem_cons_self
            by_cases q : j ≠ k ∧ ws.getD k [] <:+: ws.getD j []
            · exact .rt (runB_one (run_ifT ((evw_and (evt_neI (ev_var A.toWh 4 rfl (.inl rfl) rfl) (ev_var A.toWh 3 rfl (.inl rfl) rfl)) (fun hc1 => (evw_and1 (evt_inT (ev_ixG (enc := sD) [] (ev_var A.toWh 1 rfl (.inl rfl) rfl) (ev_var A.toWh 3 rfl (.inl rfl) rfl) (by first | omega | assumption | rfl | (simp only [List.length_append, List.length_cons, List.length_nil, List.length_map, List.length_range]; omega)) (by first | omega | assumption | rfl | (simp only [List.length_append, List.length_cons, List.length_nil, List.length_map, List.length_range]; omega))) (ev_ixG (enc := sD) [] (ev_var A.toWh 1 rfl (.inl rfl) rfl) (ev_var A.toWh 4 rfl (.inl rfl) rfl) (by first | omega | assumption | rfl | (simp only [List.length_append, List.length_cons, List.length_nil, List.length_map, List.length_range]; omega)) (by first | omega | assumption | rfl | (simp only [List.length_append, List.length_cons, List.length_nil, List.length_map, List.length_range]; omega)))))))).t ((test k j).trans (decide_eq_true q)) (runB_one (run_raiseN A.toWh tk C.race rfl)))) rfl
            · refine .nx (RunB.clrO 4 (runB_one (run_ifF ((evw_and (evt_neI (ev_var A.toWh 4 rfl (.inl rfl) rfl) (ev_var A.toWh 3 rfl (.inl rfl) rfl)) (fun hc1 => (evw_and1 (evt_inT (ev_ixG (enc := sD) [] (ev_var A.toWh 1 rfl (.inl rfl) rfl) (ev_var A.toWh 3 rfl (.inl rfl) rfl) (by first | omega | assumption | rfl | (simp only [List.length_append, List.length_cons, List.length_nil, List.length_map, List.length_range]; omega)) (by first | omega | assumption | rfl | (simp only [List.length_append, List.length_cons, List.length_nil, List.length_map, List.length_range]; omega))) (ev_ixG (enc := sD) [] (ev_var A.toWh 1 rfl (.inl rfl) rfl) (ev_var A.toWh 4 rfl (.inl rfl) rfl) (by first | omega | assumption | rfl | (simp only [List.length_append, List.length_cons, List.length_nil, List.length_map, List.length_range]; omega)) (by first | omega | assumption | rfl | (simp only [List.length_append, List.length_cons, List.length_nil, List.length_map, List.length_range]; omega)))))))).t ((test k j).trans (decide_eq_false q)) runB_nil))) (ih (fun j hj => h j (List.mem_cons_of_mem _ hj)) ?_)
              obtain ⟨v, hv, hq⟩ := hx
              rcases List.mem_cons.mp hv with rfl | hv
              · exact absurd hq q
              · exact ⟨v, hv, hq⟩
        have loop3N : ∀ (k : Nat), k < ws.length → ∀ l : List Nat, (∀ j ∈ l, j < ws.length) → (¬ ∃ j ∈ l, j ≠ k ∧ ws.getD k [] <:+: ws.getD j []) → ForR X W 4 (bodyOf (stAt (bodyOf (stAt (defBody (topS 14)) 3)) 0)) (l.map fun (j : Nat) => iD j) [.va (nums die), .va (txts ws), .no, .va (iD k), .no] (.nx [.va (nums die), .va (txts ws), .no, .va (iD k), .no]) := by
          intro k hk l
          induction l with
          | nil => intro _ _; exact .nil
          | cons j l ih =>
            intro h hx
            have hj := h j List.mem_cons_self
            exact .nx (RunB.clrO 4 (runB_one (run_ifF ((evw_and (evt_neI (ev_var A.toWh 4 rfl (.inl rfl) rfl) (ev_var A.toWh 3 rfl (.inl rfl) rfl)) (fun hc1 => (evw_and1 (evt_inT (ev_ixG (enc := sD) [] (ev_var A.toWh 1 rfl (.inl rfl) rfl) (ev_var A.toWh 3 rfl (.inl rfl) rfl) (by first | omega | assumption | rfl | (simp only [List.length_append, List.length_cons, List.length_nil, List.length_map, List.length_range]; omega)) (by first | omega | assumption | rfl | (simp only [List.length_append, List.length_cons, List.length_nil, List.length_map, List.length_range]; omega))) (ev_ixG (enc := sD) [] (ev_var A.toWh 1 rfl (.inl rfl) rfl) (ev_var A.toWh 4 rfl (.inl rfl) rfl) (by first | omega | assumption | rfl | (simp only [List.length_append, List.length_cons, List.length_nil, List.length_map, List.length_range]; omega)) (by first | omega | assumption | rfl | (simp only [List.length_append, List.length_cons, List.length_nil, List.length_map, List.length_range]; omega)))))))).t ((test k j).trans (decide_eq_false fun q => hx ⟨j, List.mem_cons_self, q⟩)) runB_nil))) (ih (fun j hj => h j (List.mem_cons_of_mem _ hj)) fun ⟨v, hv, hq⟩ => hx ⟨v, List.mem_cons_of_mem _ hv, hq⟩)
        have loop2 : ∀ l : List Nat, (∀ j ∈ l, j < ws.length) → (∃ k ∈ l, ∃ j ∈ List.range ws.length, j ≠ k ∧ ws.getD k [] <:+: ws.getD j []) → ForR X W 3 (bodyOf (stAt (defBody (topS 14)) 3)) (l.map fun (j : Nat) => iD j) [.va (nums die), .va (txts ws), .no, .no, .no] (.ex (.ref E.race)) := by
          intro l
          induction l with
          | nil => rintro _ ⟨_, h, _⟩; exact nomatch h
          | cons k l ih =>
            intro h hx
            have hk := h k List.mem_cons_self
            by_cases q : ∃ j ∈ List.range ws.length, j ≠ k ∧ ws.getD k [] <:+: ws.getD j []
            · refine .rt (runB_one (show Run X W _ _ (.ex (.ref E.race)) from ?_)) rfl
              refine (run_for A 4 rfl (.inl rfl) (evi_rangeN A.toWh (by rfl) B.range (ev_lenM A.toWh (by rfl) B.len (ev_var A.toWh 1 rfl (.inl rfl) rfl)) (by first | omega | rfl | assumption) (by first | omega | assumption | rfl | (simp only [List.length_append, List.length_cons, List.length_nil, List.length_map, List.length_range]; omega))) ?_)
              exact loop3X k hk (List.range ws.length) (fun j hj => List.mem_range.mp hj) q
            · refine .nx (RunB.clrO 3 (runB_one (show Run X W _ _ (.nx [.va (nums die), .va (txts ws), .no, .va (iD k), .no]) from ?_))) (ih (fun j hj => h j (List.mem_cons_of_mem _ hj)) ?_)
              · refine (run_for A 4 rfl (.inl rfl) (evi_rangeN A.toWh (by rfl) B.range (ev_lenM A.toWh (by rfl) B.len (ev_var A.toWh 1 rfl (.inl rfl) rfl)) (by first | omega | rfl | assumption) (by first | omega | assumption | rfl | (simp only [List.length_append, List.length_cons, List.length_nil, List.length_map, List.length_range]; omega))) ?_)
                exact loop3N k hk (List.range ws.length) (fun j hj => List.mem_range.mp hj) q
              · obtain ⟨v, hv, hq⟩ := hx
                rcases List.mem_cons.mp hv with rfl | hv
                · exact absurd hq q
                · exact ⟨v, hv, hq⟩
        refine ⟨_, .inl rfl, first _ (runB_cons (run_ifF (evt_not (evt_lele ev_int (ev_lenM A.toWh (by rfl) B.len (ev_var A.toWh 1 rfl (.inl rfl) rfl)) ev_int)) ?_ runB_nil) (runB_one (show Run X W _ _ (.ex (.ref E.race)) from ?_)))⟩
        · rw [decide_eq_true (by omega), decide_eq_true (by omega)]; rfl
        · refine (run_for A 3 rfl (.inl rfl) (evi_rangeN A.toWh (by rfl) B.range (ev_lenM A.toWh (by rfl) B.len (ev_var A.toWh 1 rfl (.inl rfl) rfl)) (by first | omega | rfl | assumption) (by first | omega | assumption | rfl | (simp only [List.length_append, List.length_cons, List.length_nil, List.length_map, List.length_range]; omega))) ?_)
          obtain ⟨k, hk, j, hj, q⟩ := clash2
          exact loop2 (List.range ws.length) (fun j hj => List.mem_range.mp hj) ⟨k, List.mem_range.mpr hk, j, List.mem_range.mpr hj, q⟩
      · refine ⟨_, .inl rfl, first _ (runB_X (run_ifT (evt_not (evt_lele ev_int (ev_lenM A.toWh (by rfl) B.len (ev_var A.toWh 1 rfl (.inl rfl) rfl)) ev_int)) ?_ (runB_one (run_raiseN A.toWh tk C.race rfl))))⟩
        rw [← Bool.decide_and, decide_eq_false (by omega)]; rfl
/-! ### weight_of -/
theorem sc_weight_of : FnScope ["word"] ["word"] (defScope (topS 17)) := ⟨rfl, rfl, rfl, by decide +kernel, rfl, by decide +kernel, by decide +kernel⟩
theorem ok_weight_of (Df : DfG K mg "weight_of" (topS 17) ["word"]) (B : Bts mg)
    (C : Clss K mg E)
    (g_FIGURES : GlG K mg "FIGURES" (sD [49, 50, 51, 52, 53, 54, 55, 56, 57])) : FnG P w K mg base 1 "weight_of" ["word"] (fun ds r => S_weight_of ds r ∨ XX_weight_of E ds r) := by
  refine fn_D Df sc_weight_of (fun ds r h => h.elim (fun h => S_weight_of_len h) (fun h => XX_weight_of_len h)) fun X W hP hw hK hm hb A tk ds r hS => ?_
  subst hP hw hK hm hb
  have hsz := szL
  rcases hS with hS | hS
  · obtain ⟨t, rfl, hf, rfl⟩ := hS
    obtain ⟨e1, e2, e3, e4, _, _⟩ := fig_facts hf
    refine ⟨_, .inl rfl, runB_cons (run_ifF ((evw_or (evt_neI (ev_lenT' A.toWh (by rfl) B.len (ev_var A.toWh 0 rfl (.inl rfl) rfl) (by omega)) ev_int) (fun hc1 => (evw_or1 (evt_ninT (ev_var A.toWh 0 rfl (.inl rfl) rfl) (ev_gl A.toWh g_FIGURES (by rfl))))))).t ?_ runB_nil) (runB_one (run_ret (ev_intS A.toWh (by rfl) B.int (ev_var A.toWh 0 rfl (.inl rfl) rfl) (by exact e1) (by exact e2))))⟩
    rw [decide_eq_true (show (t.length : Int) = 1 by omega), decide_eq_true e4]; rfl
  · obtain ⟨t, rfl, lt, bad, rfl⟩ := hS
    refine ⟨_, .inl rfl, runB_X (run_ifT ((evw_or (evt_neI (ev_lenT' A.toWh (by rfl) B.len (ev_var A.toWh 0 rfl (.inl rfl) rfl) (by omega)) ev_int) (fun hc1 => (evw_or1 (evt_ninT (ev_var A.toWh 0 rfl (.inl rfl) rfl) (ev_gl A.toWh g_FIGURES (by rfl))))))).t ?_ (runB_one (run_raise A.toWh tk C.note rfl)))⟩
    by_cases h1 : (t.length : Int) = 1
    · have h2 : ¬ t <:+: figs := fun q => bad (okFig_iff.mpr ⟨by omega, q⟩)
      rw [decide_eq_true h1, decide_eq_false h2]; rfl
    · rw [decide_eq_false h1]; rfl
/-! ### read -/
theorem sc_read : FnScope ["text", "parts", "die", "words", "word"] ["text"] (defScope (topS 18)) := ⟨rfl, rfl, rfl, by decide +kernel, rfl, by decide +kernel, by decide +kernel⟩
theorem ok_read (Df : DfG K mg "read" (topS 18) ["text"]) (B : Bts mg)
    (C : Clss K mg E)
    (c_weight_of : FnG P w K mg base 1 "weight_of" ["word"] (fun ds r => S_weight_of ds r ∨ XX_weight_of E ds r))
    (n_ask_race : FnN P w K mg base 3 "ask_race" ["die", "words"] (fun ds r => S_ask_race ds r ∨ XX_ask_race E ds r))
    (N3 : Note3 K E) : FnG P w K mg base 4 "read" ["text"] (fun ds r => S_read ds r ∨ XX_read E ds r) := by
  refine fn_P Df sc_read (fun ds r h => h.elim (fun h => S_read_len h) (fun h => XX_read_len h)) fun X W hP hw hK hm hb hpa A tk ds r hS => ?_
  subst hP hw hK hm hb
  have hsz := szL
  have c_ask_race := n_ask_race.toG
  rcases hS with hS | hS
  · obtain ⟨t, rfl, lt, ok, rfl⟩ := hS
    have l1 := (part_len [58, 32] t).1
    have l2 := (part_len [58, 32] t).2
    have w1 := wts_len t
    have hc := ok.colon
    have hr := ok.race
    have hf := ok.fig
    refine ⟨_, .inl rfl, runB_cons (run_set A 1 rfl (.inl rfl) (ev_partition (ev_var A.toWh 0 rfl (.inl rfl) rfl) (ev_strC [58, 32] (by rfl)) (by decide) (by omega))) (runB_cons (run_ifF (evt_eqT (ev_ixT (ev_var A.toWh 1 rfl (.inl rfl) rfl) ev_int (atI_n (k := 1) rfl)) (ev_strC [] (by rfl))) (decide_eq_false hc) runB_nil) ?_)⟩
    refine runB_to [.va (sD t), .va (tsD3 (partL [58, 32] t)), .ow ((dieT t).map iD), .no, .no] (run_setLc0 iD 4 A 2 rfl rfl ⟨rfl, by decide +kernel, rfl, (.inl rfl), Nat.le_of_ble_eq_true rfl⟩ (evi_list ((evn_split (ev_ixT (ev_var A.toWh 1 rfl (.inl rfl) rfl) ev_int (atI_n (k := 0) rfl)) (ev_strC [32] (by rfl)) (by decide) (by decide) (by first | omega | (show (wtsT t).length ≤ sizeLine; omega)))).ev) (fun a1 ha2 X3 hX4 => (ev_call (A.toWh.blk hX4) (c_weight_of.blk hX4) (by decide) (by rfl) (eva_cons (ev_var (A.toWh.blk hX4) 4 rfl (.inl rfl) rfl) eva_nil) (.inl ⟨_, rfl, (by exact hf _ (by assumption)), rfl⟩))) (fun _ => rfl) (by first | omega | (show (wtsT t).length ≤ sizeLine; omega))) ?_
    refine runB_to [.va (sD t), .va (tsD3 (partL [58, 32] t)), .ow ((dieT t).map iD), .ow ((wdsT t).map sD), .no] (run_setN A 3 rfl (.inl rfl) (evn_split (ev_ixT (ev_var A.toWh 1 rfl (.inl rfl) rfl) ev_int (atI_n (k := 2) rfl)) (ev_strC [32] (by rfl)) (by decide) (by decide) (by omega))) ?_
    exact runB_cons (run_try0 A fun A => runB_one (run_expr (EvE.lift (frzAll_frz _) (ev_call A.toWh c_ask_race (by decide) (by rfl) (eva_cons (ev_var A.toWh 2 rfl (.inl rfl) rfl) (eva_cons (ev_var A.toWh 3 rfl (.inl rfl) rfl) eva_nil)) (.inl ⟨_, _, rfl, (by exact hr), rfl⟩)) rfl))) (runB_one (run_ret2 A (i := 2) (j := 3) rfl (.inl rfl) rfl rfl (.inl rfl) rfl (by decide)))
  · obtain ⟨t, rfl, lt, bad, rfl⟩ := hS
    have l1 := (part_len [58, 32] t).1
    have l2 := (part_len [58, 32] t).2
    have w1 := wts_len t
    have w2 := wds_len t
    by_cases hc : (partL [58, 32] t).2.1 = []
    · exact ⟨_, .inl rfl, runB_cons (run_set A 1 rfl (.inl rfl) (ev_partition (ev_var A.toWh 0 rfl (.inl rfl) rfl) (ev_strC [58, 32] (by rfl)) (by decide) (by omega))) (runB_X (run_ifT (evt_eqT (ev_ixT (ev_var A.toWh 1 rfl (.inl rfl) rfl) ev_int (atI_n (k := 1) rfl)) (ev_strC [] (by rfl))) (decide_eq_true hc) (runB_one (run_raise A.toWh tk C.note rfl))))⟩
    refine ⟨_, .inl rfl, runB_cons (run_set A 1 rfl (.inl rfl) (ev_partition (ev_var A.toWh 0 rfl (.inl rfl) rfl) (ev_strC [58, 32] (by rfl)) (by decide) (by omega))) (runB_cons (run_ifF (evt_eqT (ev_ixT (ev_var A.toWh 1 rfl (.inl rfl) rfl) ev_int (atI_n (k := 1) rfl)) (ev_strC [] (by rfl))) (decide_eq_false hc) runB_nil) ?_)⟩
    by_cases hf : ∀ f ∈ wtsT t, okFig f
    · have hr : ¬ okRace (dieT t) (wdsT t) := fun q => bad ⟨hc, hf, q⟩
      obtain ⟨c, hx⟩ := raceX_of (E := E) hr
      have sz : szW (wdsT t) := ⟨by omega, fun v hv => by have := w2.2 v hv; omega⟩
      refine runB_to [.va (sD t), .va (tsD3 (partL [58, 32] t)), .ow ((dieT t).map iD), .no, .no] (run_setLc0 iD 4 A 2 rfl rfl ⟨rfl, by decide +kernel, rfl, (.inl rfl), Nat.le_of_ble_eq_true rfl⟩ (evi_list ((evn_split (ev_ixT (ev_var A.toWh 1 rfl (.inl rfl) rfl) ev_int (atI_n (k := 0) rfl)) (ev_strC [32] (by rfl)) (by decide) (by decide) (by first | omega | (show (wtsT t).length ≤ sizeLine; omega)))).ev) (fun a1 ha2 X3 hX4 => (ev_call (A.toWh.blk hX4) (c_weight_of.blk hX4) (by decide) (by rfl) (eva_cons (ev_var (A.toWh.blk hX4) 4 rfl (.inl rfl) rfl) eva_nil) (.inl ⟨_, rfl, (by exact hf _ (by assumption)), rfl⟩))) (fun _ => rfl) (by first | omega | (show (wtsT t).length ≤ sizeLine; omega))) ?_
      refine runB_to [.va (sD t), .va (tsD3 (partL [58, 32] t)), .ow ((dieT t).map iD), .ow ((wdsT t).map sD), .no] (run_setN A 3 rfl (.inl rfl) (evn_split (ev_ixT (ev_var A.toWh 1 rfl (.inl rfl) rfl) ev_int (atI_n (k := 2) rfl)) (ev_strC [32] (by rfl)) (by decide) (by decide) (by omega))) ?_
      exact runB_X (run_try3 A tk hpa rfl C.die.gl rfl C.word.gl rfl C.race.gl (N3.one hx) C.note rfl fun W' pn xe A tk => RunB.frz (runB_one (run_exprX (evx_callN A.toWh tk n_ask_race (by decide) (by rfl) (eva_cons (ev_var A.toWh 2 rfl (.inl rfl) rfl) (eva_cons (ev_var A.toWh 3 rfl (.inl rfl) rfl) eva_nil)) (.inr ⟨_, _, _, rfl, (by exact sz), (by exact hx), rfl⟩)))) (frzAll_frz _))
    · have hex : ∃ f ∈ wtsT t, ¬ okFig f := Classical.byContradiction fun q => hf fun f hm => Classical.byContradiction fun z => q ⟨f, hm, z⟩
      exact runB_X (run_setLcX (enc := sD) okFig 4 A tk rfl ⟨rfl, by decide +kernel, rfl, (.inl rfl), Nat.le_of_ble_eq_true rfl⟩ (evi_list ((evn_split (ev_ixT (ev_var A.toWh 1 rfl (.inl rfl) rfl) ev_int (atI_n (k := 0) rfl)) (ev_strC [32] (by rfl)) (by decide) (by decide) (by omega))).ev) (fun a ha hp X3 hX => ⟨_, ev_call (A.toWh.blkE hX) (c_weight_of.blkE hX) (by decide) (by rfl) (eva_cons (ev_var (A.toWh.blkE hX) 4 rfl (.inl rfl) rfl) eva_nil) (.inl ⟨_, rfl, hp, rfl⟩)⟩) (fun a ha hp X3 hX => evxb_call (A.toWh.blkE hX) (c_weight_of.blkE hX) (by decide) (by rfl) (eva_cons (ev_var (A.toWh.blkE hX) 4 rfl (.inl rfl) rfl) eva_nil) (.inr ⟨_, rfl, by have := w1.2 a ha; omega, hp, rfl⟩)) hex (by show (wtsT t).length ≤ sizeLine; omega))
/-! ### _law_cell_at -/
theorem sc__law_cell_at : FnScope ["script", "k"] ["script", "k"] (defScope (topS 20)) := ⟨rfl, rfl, rfl, by decide +kernel, rfl, by decide +kernel, by decide +kernel⟩
theorem ok__law_cell_at (Df : DfG K mg "_law_cell_at" (topS 20) ["script", "k"]) (B : Bts mg)
    (C : Clss K mg E) : FnG P w K mg base 1 "_law_cell_at" ["script", "k"] S__law_cell_at := by
  refine fn_D Df sc__law_cell_at (fun ds r h => S__law_cell_at_len h) fun X W hP hw hK hm hb A tk ds r hS => ?_
  subst hP hw hK hm hb
  have hsz := szL
  obtain ⟨ns, k, rfl, h0, rfl⟩ := hS
  refine ⟨_, .inl rfl, ?_⟩
  by_cases h : k < ns.length
  · have e : cellAt ns k = ns.getD k.toNat 0 := if_pos h
    rw [e]
    exact runB_stop (run_ifT (evt_lt (ev_var A.toWh 1 rfl (.inl rfl) rfl) (ev_lenM A.toWh (by rfl) B.len (ev_var A.toWh 0 rfl (.inl rfl) rfl))) (decide_eq_true h) (runB_one (run_ret (ev_ixG (enc := iD) 0 (ev_var A.toWh 0 rfl (.inl rfl) rfl) (ev_var A.toWh 1 rfl (.inl rfl) rfl) (by first | omega | assumption | rfl | (simp only [List.length_append, List.length_cons, List.length_nil, List.length_map, List.length_range]; omega)) (by first | omega | assumption | rfl | (simp only [List.length_append, List.length_cons, List.length_nil, List.length_map, List.length_range]; omega)))))) rfl
  · have e : cellAt ns k = 0 := if_neg h
    rw [e]
    exact runB_cons (run_ifF (evt_lt (ev_var A.toWh 1 rfl (.inl rfl) rfl) (ev_lenM A.toWh (by rfl) B.len (ev_var A.toWh 0 rfl (.inl rfl) rfl))) (decide_eq_false h) runB_nil) (runB_one (run_ret ev_int))
/-! ### _law_next -/
theorem sc__law_next : FnScope ["seed"] ["seed"] (defScope (topS 21)) := ⟨rfl, rfl, rfl, by decide +kernel, rfl, by decide +kernel, by decide +kernel⟩
theorem ok__law_next (Df : DfG K mg "_law_next" (topS 21) ["seed"]) (B : Bts mg)
    (C : Clss K mg E) : FnG P w K mg base 1 "_law_next" ["seed"] S__law_next := by
  refine fn_D Df sc__law_next (fun ds r h => S__law_next_len h) fun X W hP hw hK hm hb A tk ds r hS => ?_
  subst hP hw hK hm hb
  have hsz := szL
  obtain ⟨s, rfl, rfl⟩ := hS
  have h1 : 0 ≤ (s + 7919) % 2147483647 := Int.emod_nonneg _ (by decide)
  have h2 : (s + 7919) % 2147483647 < 2147483647 := Int.emod_lt_of_pos _ (by decide)
  exact ⟨_, .inl rfl, runB_cons (run_set A 0 rfl (.inl rfl) (ev_mod (ev_add (ev_var A.toWh 0 rfl (.inl rfl) rfl) ev_int) ev_int (by first | omega | assumption | rfl | (simp only [List.length_append, List.length_cons, List.length_nil, List.length_map, List.length_range]; omega)))) (runB_one (run_ret (ev_mod (ev_add (ev_add (ev_mul (ev_var A.toWh 0 rfl (.inl rfl) rfl) (ev_var A.toWh 0 rfl (.inl rfl) rfl) (by first | exact .inl ⟨by omega, by omega⟩ | exact .inr ⟨by omega, by omega⟩)) (ev_mul ev_int (ev_var A.toWh 0 rfl (.inl rfl) rfl) (by first | exact .inl ⟨by omega, by omega⟩ | exact .inr ⟨by omega, by omega⟩))) ev_int) ev_int (by first | omega | assumption | rfl | (simp only [List.length_append, List.length_cons, List.length_nil, List.length_map, List.length_range]; omega)))))⟩
/-! ### _law_die -/
theorem sc__law_die : FnScope ["cell", "many", "k"] ["cell"] (defScope (topS 22)) := ⟨rfl, rfl, rfl, by decide +kernel, rfl, by decide +kernel, by decide +kernel⟩
theorem ok__law_die (Df : DfG K mg "_law_die" (topS 22) ["cell"]) (B : Bts mg)
    (C : Clss K mg E)
    (c__law_next : FnG P w K mg base 1 "_law_next" ["seed"] S__law_next) : FnG P w K mg base 2 "_law_die" ["cell"] S__law_die := by
  refine fn_D Df sc__law_die (fun ds r h => S__law_die_len h) fun X W hP hw hK hm hb A tk ds r hS => ?_
  subst hP hw hK hm hb
  have hsz := szL
  obtain ⟨c, rfl, rfl⟩ := hS
  have h0 : 0 ≤ c % 3 := Int.emod_nonneg _ (by decide)
  have h3 : c % 3 < 3 := Int.emod_lt_of_pos _ (by decide)
  refine ⟨_, .inl rfl, runB_cons (run_set A 1 rfl (.inl rfl) (ev_add ev_int (ev_mod (ev_var A.toWh 0 rfl (.inr (.inl rfl)) rfl) ev_int (by first | omega | assumption | rfl | (simp only [List.length_append, List.length_cons, List.length_nil, List.length_map, List.length_range]; omega))))) ?_⟩
  by_cases h : c / 3 % 3 = 0
  · have e : dieL c = (List.range (2 + c % 3).toNat).map fun _ => 1 := if_pos h
    rw [e]
    exact runB_stop (run_ifT (evt_eqI (ev_mod (ev_fdiv (ev_var A.toWh 0 rfl (.inr (.inl rfl)) rfl) ev_int ⟨(by first | omega | assumption | rfl | (simp only [List.length_append, List.length_cons, List.length_nil, List.length_map, List.length_range]; omega)), (by first | omega | assumption | rfl | (simp only [List.length_append, List.length_cons, List.length_nil, List.length_map, List.length_range]; omega))⟩) ev_int (by first | omega | assumption | rfl | (simp only [List.length_append, List.length_cons, List.length_nil, List.length_map, List.length_range]; omega))) ev_int) (decide_eq_true h) (runB_one (run_retN (evn_lc0 iD 2 A.toWh ⟨rfl, by decide +kernel, rfl, (.inl rfl), Nat.le_of_ble_eq_true rfl⟩ (evi_rangeN A.toWh (by rfl) B.range (ev_var A.toWh 1 rfl (.inl rfl) rfl) (by first | omega | rfl | assumption) (by first | omega | assumption | rfl | (simp only [List.length_append, List.length_cons, List.length_nil, List.length_map, List.length_range]; omega))) (fun a1 ha2 X3 hX4 => ev_int) (fun _ => rfl) (by first | omega | assumption | rfl | (simp only [List.length_append, List.length_cons, List.length_nil, List.length_map, List.length_range]; omega)))))) rfl
  · have e : dieL c = (List.range (2 + c % 3).toNat).map fun (k : Nat) => 1 + nextI (c / 9 + 31 * (k : Int)) / 7 % 9 := if_neg h
    rw [e]
    exact runB_cons (run_ifF (evt_eqI (ev_mod (ev_fdiv (ev_var A.toWh 0 rfl (.inr (.inl rfl)) rfl) ev_int ⟨(by first | omega | assumption | rfl | (simp only [List.length_append, List.length_cons, List.length_nil, List.length_map, List.length_range]; omega)), (by first | omega | assumption | rfl | (simp only [List.length_append, List.length_cons, List.length_nil, List.length_map, List.length_range]; omega))⟩) ev_int (by first | omega | assumption | rfl | (simp only [List.length_append, List.length_cons, List.length_nil, List.length_map, List.length_range]; omega))) ev_int) (decide_eq_false h) runB_nil) (runB_one (run_retN (evn_lc0 iD 2 A.toWh ⟨rfl, by decide +kernel, rfl, (.inl rfl), Nat.le_of_ble_eq_true rfl⟩ (evi_rangeN A.toWh (by rfl) B.range (ev_var A.toWh 1 rfl (.inl rfl) rfl) (by first | omega | rfl | assumption) (by first | omega | assumption | rfl | (simp only [List.length_append, List.length_cons, List.length_nil, List.length_map, List.length_range]; omega))) (fun a1 ha2 X3 hX4 => (ev_add ev_int (ev_mod (ev_fdiv (ev_call (A.toWh.blk hX4) (c__law_next.blk hX4) (by decide) (by rfl) (eva_cons (ev_add (ev_fdiv (ev_var (A.toWh.blk hX4) 0 rfl (.inr (.inl rfl)) rfl) ev_int ⟨(by first | omega | assumption | rfl | (simp only [List.length_append, List.length_cons, List.length_nil, List.length_map, List.length_range]; omega)), (by first | omega | assumption | rfl | (simp only [List.length_append, List.length_cons, List.length_nil, List.length_map, List.length_range]; omega))⟩) (ev_mul ev_int (ev_var (A.toWh.blk hX4) 2 rfl (.inl rfl) rfl) (by first | exact .inl ⟨by omega, by omega⟩ | exact .inr ⟨by omega, by omega⟩))) eva_nil) ⟨_, rfl, rfl⟩) ev_int ⟨(by first | omega | assumption | rfl | (simp only [List.length_append, List.length_cons, List.length_nil, List.length_map, List.length_range]; omega)), (by first | omega | assumption | rfl | (simp only [List.length_append, List.length_cons, List.length_nil, List.length_map, List.length_range]; omega))⟩) ev_int (by first | omega | assumption | rfl | (simp only [List.length_append, List.length_cons, List.length_nil, List.length_map, List.length_range]; omega))))) (fun _ => rfl) (by first | omega | assumption | rfl | (simp only [List.length_append, List.length_cons, List.length_nil, List.length_map, List.length_range]; omega)))))
/-! ### _law_thrown -/
theorem sc__law_thrown : FnScope ["cell", "many", "signs", "text", "seed", "k"] ["cell", "many", "signs"] (defScope (topS 23)) := ⟨rfl, rfl, rfl, by decide +kernel, rfl, by decide +kernel, by decide +kernel⟩
theorem ok__law_thrown (Df : DfG K mg "_law_thrown" (topS 23) ["cell", "many", "signs"]) (B : Bts mg)
    (C : Clss K mg E)
    (c__law_next : FnG P w K mg base 1 "_law_next" ["seed"] S__law_next) : FnG P w K mg base 2 "_law_thrown" ["cell", "many", "signs"] S__law_thrown := by
  refine fn_D Df sc__law_thrown (fun ds r h => S__law_thrown_len h) fun X W hP hw hK hm hb A tk ds r hS => ?_
  subst hP hw hK hm hb
  have hsz := szL
  obtain ⟨c, m, sg, rfl, h0, h1, h2, h3, rfl⟩ := hS
  have loop : ∀ (l : List Nat) (t : List Nat) (s : Int), t.length + l.length ≤ 1000 → ForR X W 5 (bodyOf (stAt (defBody (topS 23)) 2)) (l.map fun (k : Nat) => iD k) [.va (iD c), .va (iD m), .va (iD sg), .va (sD t), .va (iD s), .no] (.nx [.va (iD c), .va (iD m), .va (iD sg), .va (sD (l.foldl (thrownStep sg) (t, s)).1), .va (iD (l.foldl (thrownStep sg) (t, s)).2), .no]) := by
    intro l
    induction l with
    | nil => intro t s _; exact .nil
    | cons k l ih =>
      intro t s h
      rw [List.length_cons] at h
      have i0 : 0 ≤ s / 7 % sg := Int.emod_nonneg _ (by omega)
      have i1 : s / 7 % sg < sg := Int.emod_lt_of_pos _ (by omega)
      refine .nx (RunB.clrO 5 (runB_cons (run_set A 3 rfl (.inl rfl) (ev_addT (ev_var A.toWh 3 rfl (.inl rfl) rfl) (ev_ixTG (ev_strC [97, 98, 99, 100] (by rfl)) (ev_mod (ev_fdiv (ev_var A.toWh 4 rfl (.inl rfl) rfl) ev_int ⟨(by first | omega | assumption | rfl | (simp only [List.length_append, List.length_cons, List.length_nil, List.length_map, List.length_range]; omega)), (by first | omega | assumption | rfl | (simp only [List.length_append, List.length_cons, List.length_nil, List.length_map, List.length_range]; omega))⟩) (ev_var A.toWh 2 rfl (.inl rfl) rfl) (by first | omega | assumption | rfl | (simp only [List.length_append, List.length_cons, List.length_nil, List.length_map, List.length_range]; omega))) (by first | omega | assumption | rfl | (simp only [List.length_append, List.length_cons, List.length_nil, List.length_map, List.length_range]; omega)) (by first | omega | assumption | rfl | (simp only [List.length_append, List.length_cons, List.length_nil, List.length_map, List.length_range]; omega)) (by first | omega | assumption | rfl | (simp only [List.length_append, List.length_cons, List.length_nil, List.length_map, List.length_range]; omega))) (by first | omega | assumption | rfl | (simp only [List.length_append, List.length_cons, List.length_nil, List.length_map, List.length_range]; omega)))) (runB_one (run_set A 4 rfl (.inl rfl) (ev_call A.toWh c__law_next (by decide) (by rfl) (eva_cons (ev_add (ev_var A.toWh 4 rfl (.inl rfl) rfl) (ev_var A.toWh 5 rfl (.inl rfl) rfl)) eva_nil) ⟨_, rfl, rfl⟩))))) (ih _ _ ?_)
      rw [List.length_append, List.length_singleton]; omega
  refine ⟨_, .inl rfl, runB_cons (run_set A 3 rfl (.inl rfl) (ev_strC [] (by rfl))) (runB_cons (run_set A 4 rfl (.inl rfl) (ev_call A.toWh c__law_next (by decide) (by rfl) (eva_cons (ev_var A.toWh 0 rfl (.inl rfl) rfl) eva_nil) ⟨_, rfl, rfl⟩)) (runB_to [.va (iD c), .va (iD m), .va (iD sg), .va (sD ((List.range m.toNat).foldl (thrownStep sg) ([], nextI c)).1), .va (iD ((List.range m.toNat).foldl (thrownStep sg) ([], nextI c)).2), .no] ?_ (runB_one (run_ret (ev_var A.toWh 3 rfl (.inl rfl) rfl)))))⟩
  refine (run_for A 5 rfl (.inl rfl) (evi_rangeN A.toWh (by rfl) B.range (ev_var A.toWh 1 rfl (.inl rfl) rfl) (by first | omega | rfl | assumption) (by first | omega | assumption | rfl | (simp only [List.length_append, List.length_cons, List.length_nil, List.length_map, List.length_range]; omega))) ?_)
  exact loop (List.range m.toNat) [] (nextI c) (by rw [List.length_range, List.length_nil]; omega)
/-! ### _law_word -/
theorem sc__law_word : FnScope ["cell", "signs", "word"] ["cell", "signs"] (defScope (topS 24)) := ⟨rfl, rfl, rfl, by decide +kernel, rfl, by decide +kernel, by decide +kernel⟩
theorem ok__law_word (Df : DfG K mg "_law_word" (topS 24) ["cell", "signs"]) (B : Bts mg)
    (C : Clss K mg E)
    (c__law_thrown : FnG P w K mg base 2 "_law_thrown" ["cell", "many", "signs"] S__law_thrown) : FnG P w K mg base 3 "_law_word" ["cell", "signs"] S__law_word := by
  refine fn_D Df sc__law_word (fun ds r h => S__law_word_len h) fun X W hP hw hK hm hb A tk ds r hS => ?_
  subst hP hw hK hm hb
  have hsz := szL
  obtain ⟨c, sg, rfl, h1, h2, rfl⟩ := hS
  have h0 : 0 ≤ c % 6 := Int.emod_nonneg _ (by decide)
  have h6 : c % 6 < 6 := Int.emod_lt_of_pos _ (by decide)
  have len := thrownL_len (c / 8) (1 + c % 6).toNat sg
  have lc := cutL_len (thrownL (c / 8) (1 + c % 6).toNat sg) none (some (1 + c / 24 % 2))
  have lf : (List.replicate 6 (cutL (thrownL (c / 8) (1 + c % 6).toNat sg) none (some (1 + c / 24 % 2)))).flatten.length ≤ 36 := by
    rw [List.length_flatten, List.map_replicate, List.sum_replicate_nat]; omega
  refine ⟨_, .inl rfl, runB_cons (run_set A 2 rfl (.inl rfl) (ev_call A.toWh c__law_thrown (by decide) (by rfl) (eva_cons (ev_fdiv (ev_var A.toWh 0 rfl (.inl rfl) rfl) ev_int ⟨(by first | omega | assumption | rfl | (simp only [List.length_append, List.length_cons, List.length_nil, List.length_map, List.length_range]; omega)), (by first | omega | assumption | rfl | (simp only [List.length_append, List.length_cons, List.length_nil, List.length_map, List.length_range]; omega))⟩) (eva_cons (ev_add ev_int (ev_mod (ev_var A.toWh 0 rfl (.inl rfl) rfl) ev_int (by first | omega | assumption | rfl | (simp only [List.length_append, List.length_cons, List.length_nil, List.length_map, List.length_range]; omega)))) (eva_cons (ev_var A.toWh 1 rfl (.inl rfl) rfl) eva_nil))) ⟨_, _, _, rfl, (by first | omega | assumption | rfl | (simp only [List.length_append, List.length_cons, List.length_nil, List.length_map, List.length_range]; omega)), (by first | omega | assumption | rfl | (simp only [List.length_append, List.length_cons, List.length_nil, List.length_map, List.length_range]; omega)), (by first | omega | assumption | rfl | (simp only [List.length_append, List.length_cons, List.length_nil, List.length_map, List.length_range]; omega)), (by first | omega | assumption | rfl | (simp only [List.length_append, List.length_cons, List.length_nil, List.length_map, List.length_range]; omega)), rfl⟩)) ?_⟩
  by_cases h : c / 6 % 4 = 0
  · have e : wordL c sg = cutL (List.replicate 6 (cutL (thrownL (c / 8) (1 + c % 6).toNat sg) none (some (1 + c / 24 % 2)))).flatten none (some ((thrownL (c / 8) (1 + c % 6).toNat sg).length : Int)) := if_pos h
    rw [e]
    exact runB_cons (run_ifT (evt_eqI (ev_mod (ev_fdiv (ev_var A.toWh 0 rfl (.inl rfl) rfl) ev_int ⟨(by first | omega | assumption | rfl | (simp only [List.length_append, List.length_cons, List.length_nil, List.length_map, List.length_range]; omega)), (by first | omega | assumption | rfl | (simp only [List.length_append, List.length_cons, List.length_nil, List.length_map, List.length_range]; omega))⟩) ev_int (by first | omega | assumption | rfl | (simp only [List.length_append, List.length_cons, List.length_nil, List.length_map, List.length_range]; omega))) ev_int) (decide_eq_true h) (runB_one (run_set A 2 rfl (.inl rfl) (ev_slT (ev_mulT (ev_slT (ev_var A.toWh 2 rfl (.inl rfl) rfl) evo_none (evo_some (ev_add ev_int (ev_mod (ev_fdiv (ev_var A.toWh 0 rfl (.inl rfl) rfl) ev_int ⟨(by first | omega | assumption | rfl | (simp only [List.length_append, List.length_cons, List.length_nil, List.length_map, List.length_range]; omega)), (by first | omega | assumption | rfl | (simp only [List.length_append, List.length_cons, List.length_nil, List.length_map, List.length_range]; omega))⟩) ev_int (by first | omega | assumption | rfl | (simp only [List.length_append, List.length_cons, List.length_nil, List.length_map, List.length_range]; omega))))) (by first | omega | exact Nat.le_trans lf (by omega))) ev_int (by first | omega | exact Nat.le_trans lf (by omega)) (by first | omega | exact Nat.le_trans lf (by omega)) (by first | omega | exact Nat.le_trans lf (by omega))) evo_none (evo_some (ev_lenT' A.toWh (by rfl) B.len (ev_var A.toWh 2 rfl (.inl rfl) rfl) (by first | omega | exact Nat.le_trans lf (by omega)))) (by first | omega | exact Nat.le_trans lf (by omega)))))) (runB_one (run_ret (ev_var A.toWh 2 rfl (.inl rfl) rfl)))
  · have e : wordL c sg = thrownL (c / 8) (1 + c % 6).toNat sg := if_neg h
    rw [e]
    exact runB_cons (run_ifF (evt_eqI (ev_mod (ev_fdiv (ev_var A.toWh 0 rfl (.inl rfl) rfl) ev_int ⟨(by first | omega | assumption | rfl | (simp only [List.length_append, List.length_cons, List.length_nil, List.length_map, List.length_range]; omega)), (by first | omega | assumption | rfl | (simp only [List.length_append, List.length_cons, List.length_nil, List.length_map, List.length_range]; omega))⟩) ev_int (by first | omega | assumption | rfl | (simp only [List.length_append, List.length_cons, List.length_nil, List.length_map, List.length_range]; omega))) ev_int) (decide_eq_false h) runB_nil) (runB_one (run_ret (ev_var A.toWh 2 rfl (.inl rfl) rfl)))
/-! ### _law_words -/
theorem sc__law_words : FnScope ["script", "at", "signs", "words", "k", "word", "one"] ["script", "at", "signs"] (defScope (topS 25)) := ⟨rfl, rfl, rfl, by decide +kernel, rfl, by decide +kernel, by decide +kernel⟩
theorem ok__law_words (Df : DfG K mg "_law_words" (topS 25) ["script", "at", "signs"]) (B : Bts mg)
    (C : Clss K mg E)
    (c__law_word : FnG P w K mg base 3 "_law_word" ["cell", "signs"] S__law_word)
    (c__law_cell_at : FnG P w K mg base 1 "_law_cell_at" ["script", "k"] S__law_cell_at) : FnG P w K mg base 4 "_law_words" ["script", "at", "signs"] S__law_words := by
  refine fn_D Df sc__law_words (fun ds r h => S__law_words_len h) fun X W hP hw hK hm hb A tk ds r hS => ?_
  subst hP hw hK hm hb
  have hsz := szL
  obtain ⟨ns, a, sg, rfl, h0, h1, h4, rfl⟩ := hS
  have loop : ∀ (l : List Nat) (ws : List (List Nat)), ws.length + l.length ≤ 1000 → ForR X W 4 (bodyOf (stAt (defBody (topS 25)) 1)) (l.map fun (k : Nat) => iD k) [.va (nums ns), .va (iD a), .va (iD sg), .ow (ws.map sD), .no, .no, .no] (.nx [.va (nums ns), .va (iD a), .va (iD sg), .ow ((l.foldl (wordsStep ns a sg) ws).map sD), .no, .no, .no]) := by
    intro l
    induction l with
    | nil => intro ws _; exact .nil
    | cons k l ih =>
      intro ws h
      rw [List.length_cons] at h
      rw [List.foldl_cons]
      by_cases hc : ((ws.map (clash (wordL (cellAt ns (a + 1 + (k : Int)) % 1000003 + 7 * (k : Int)) sg))).any fun t => t) = true
      · have e : wordsStep ns a sg ws k = ws := if_pos hc
        rw [e]
        refine .nx (RunB.clrO 4 (RunB.clrO 5 (runB_cons (run_set A 5 rfl (.inr rfl) (ev_call A.toWh c__law_word (by decide) (by rfl) (eva_cons (ev_add (ev_mod (ev_call A.toWh c__law_cell_at (by decide) (by rfl) (eva_cons (ev_var A.toWh 0 rfl (.inl rfl) rfl) (eva_cons (ev_add (ev_add (ev_var A.toWh 1 rfl (.inl rfl) rfl) ev_int) (ev_var A.toWh 4 rfl (.inl rfl) rfl)) eva_nil)) ⟨_, _, rfl, (by first | omega | assumption | rfl | (simp only [List.length_append, List.length_cons, List.length_nil, List.length_map, List.length_range]; omega)), rfl⟩) ev_int (by first | omega | assumption | rfl | (simp only [List.length_append, List.length_cons, List.length_nil, List.length_map, List.length_range]; omega))) (ev_mul ev_int (ev_var A.toWh 4 rfl (.inl rfl) rfl) (by first | exact .inl ⟨by omega, by omega⟩ | exact .inr ⟨by omega, by omega⟩))) (eva_cons (ev_var A.toWh 2 rfl (.inl rfl) rfl) eva_nil)) ⟨_, _, rfl, (by first | omega | assumption | rfl | (simp only [List.length_append, List.length_cons, List.length_nil, List.length_map, List.length_range]; omega)), (by first | omega | assumption | rfl | (simp only [List.length_append, List.length_cons, List.length_nil, List.length_map, List.length_range]; omega)), rfl⟩)) (runB_one (run_ifF (EvT.lift (frzAll_frz _) (evt_not (evt_val (ev_any A.toWh (by rfl) B.any ((evn_lc0 bD 6 A.toWh ⟨rfl, by decide +kernel, rfl, (.inl rfl), Nat.le_of_ble_eq_true rfl⟩ (evi_list (ev_var A.toWh 3 rfl (.inl rfl) rfl)) (fun a1 ha2 X3 hX4 => (ev_or (ev_inT (ev_var (A.toWh.blk hX4) 5 rfl (.inr (.inl rfl)) rfl) (ev_var (A.toWh.blk hX4) 6 rfl (.inl rfl) rfl)) (fun hc6 => (ev_one (ev_inT (ev_var (A.toWh.blk hX4) 6 rfl (.inl rfl) rfl) (ev_var (A.toWh.blk hX4) 5 rfl (.inr (.inl rfl)) rfl)))))) (fun _ => rfl) (by first | omega | assumption | rfl | (simp only [List.length_append, List.length_cons, List.length_nil, List.length_map, List.length_range]; omega)))).ev)))) ?_ runB_nil))))) (ih ws (by omega))
        exact congrArg (fun b => !b) hc
      · have e : wordsStep ns a sg ws k = ws ++ [wordL (cellAt ns (a + 1 + (k : Int)) % 1000003 + 7 * (k : Int)) sg] := if_neg hc
        rw [e]
        refine .nx (RunB.clrO 4 (RunB.clrO 5 (runB_cons (run_set A 5 rfl (.inr rfl) (ev_call A.toWh c__law_word (by decide) (by rfl) (eva_cons (ev_add (ev_mod (ev_call A.toWh c__law_cell_at (by decide) (by rfl) (eva_cons (ev_var A.toWh 0 rfl (.inl rfl) rfl) (eva_cons (ev_add (ev_add (ev_var A.toWh 1 rfl (.inl rfl) rfl) ev_int) (ev_var A.toWh 4 rfl (.inl rfl) rfl)) eva_nil)) ⟨_, _, rfl, (by first | omega | assumption | rfl | (simp only [List.length_append, List.length_cons, List.length_nil, List.length_map, List.length_range]; omega)), rfl⟩) ev_int (by first | omega | assumption | rfl | (simp only [List.length_append, List.length_cons, List.length_nil, List.length_map, List.length_range]; omega))) (ev_mul ev_int (ev_var A.toWh 4 rfl (.inl rfl) rfl) (by first | exact .inl ⟨by omega, by omega⟩ | exact .inr ⟨by omega, by omega⟩))) (eva_cons (ev_var A.toWh 2 rfl (.inl rfl) rfl) eva_nil)) ⟨_, _, rfl, (by first | omega | assumption | rfl | (simp only [List.length_append, List.length_cons, List.length_nil, List.length_map, List.length_range]; omega)), (by first | omega | assumption | rfl | (simp only [List.length_append, List.length_cons, List.length_nil, List.length_map, List.length_range]; omega)), rfl⟩)) (runB_one (run_ifT (EvT.lift (frzAll_frz _) (evt_not (evt_val (ev_any A.toWh (by rfl) B.any ((evn_lc0 bD 6 A.toWh ⟨rfl, by decide +kernel, rfl, (.inl rfl), Nat.le_of_ble_eq_true rfl⟩ (evi_list (ev_var A.toWh 3 rfl (.inl rfl) rfl)) (fun a1 ha2 X3 hX4 => (ev_or (ev_inT (ev_var (A.toWh.blk hX4) 5 rfl (.inr (.inl rfl)) rfl) (ev_var (A.toWh.blk hX4) 6 rfl (.inl rfl) rfl)) (fun hc6 => (ev_one (ev_inT (ev_var (A.toWh.blk hX4) 6 rfl (.inl rfl) rfl) (ev_var (A.toWh.blk hX4) 5 rfl (.inr (.inl rfl)) rfl)))))) (fun _ => rfl) (by first | omega | assumption | rfl | (simp only [List.length_append, List.length_cons, List.length_nil, List.length_map, List.length_range]; omega)))).ev)))) ?_ (runB_one (run_appendM (enc := sD) A 3 _ rfl (.inl rfl) rfl (ev_var A.toWh 5 rfl (.inr (.inl rfl)) rfl) rfl (by first | omega | assumption | rfl | (simp only [List.length_append, List.length_cons, List.length_nil, List.length_map, List.length_range]; omega))))))))) (ih _ ?_)
        · exact congrArg (fun b => !b) (Bool.eq_false_iff.mpr hc)
        · rw [List.length_append, List.length_singleton]; omega
  have b0 : 0 ≤ cellAt ns a % 4 := Int.emod_nonneg _ (by decide)
  have b4 : cellAt ns a % 4 < 4 := Int.emod_lt_of_pos _ (by decide)
  refine ⟨_, .inl rfl, runB_cons (run_setN A 3 rfl (.inl rfl) (evn_lst (as := []) eva_nil rfl (Nat.zero_le _))) (runB_to [.va (nums ns), .va (iD a), .va (iD sg), .ow ((wordsL ns a sg).map sD), .no, .no, .no] ?_ (runB_one (run_retO A 3 rfl (.inl rfl) rfl)))⟩
  refine (run_for A 4 rfl (.inl rfl) (evi_rangeN A.toWh (by rfl) B.range (ev_add ev_int (ev_mod (ev_call A.toWh c__law_cell_at (by decide) (by rfl) (eva_cons (ev_var A.toWh 0 rfl (.inl rfl) rfl) (eva_cons (ev_var A.toWh 1 rfl (.inl rfl) rfl) eva_nil)) ⟨_, _, rfl, (by first | omega | assumption | rfl | (simp only [List.length_append, List.length_cons, List.length_nil, List.length_map, List.length_range]; omega)), rfl⟩) ev_int (by first | omega | assumption | rfl | (simp only [List.length_append, List.length_cons, List.length_nil, List.length_map, List.length_range]; omega)))) (by first | omega | rfl | assumption) (by first | omega | assumption | rfl | (simp only [List.length_append, List.length_cons, List.length_nil, List.length_map, List.length_range]; omega))) ?_)
  exact loop (List.range (1 + cellAt ns a % 4).toNat) [] (by rw [List.length_range, List.length_nil]; omega)
/-! ### _law_kind -/
theorem sc__law_kind : FnScope ["e", "kinds"] ["e"] (defScope (topS 26)) := ⟨rfl, rfl, rfl, by decide +kernel, rfl, by decide +kernel, by decide +kernel⟩
theorem ok__law_kind (Df : DfG K mg "_law_kind" (topS 26) ["e"]) (B : Bts mg) (C : Clss K mg E) {D : Addr} {j : Nat} (kd : KindC K E D j) : KndG P w K mg base 1 D (kindN j) := by
  obtain ⟨f, fd, h1, h2, h3⟩ := Df
  obtain ⟨oc, od, kV, doc, pm, an, cdv, ct, osl, rfl, lk, hcd⟩ := h1.ex
  refine ⟨f, _, fn_ofK lk hcd sc__law_kind ?_, h2, h1.kp, h3⟩
  intro X q hP hw hK hm hb A hfn hq hz hf
  subst hP hw hK hm hb
  have hsz := szL
  obtain ⟨b1, b2, b3⟩ := bits7_ok kd.lt
  have hj := kd.lt
  refine runB_to [.rf q.1, .ow ([j == 0, j == 1, j == 2, j == 3].map bD)] (run_setN0 A (hfn _) 1 rfl (.inl rfl) (evn_lstM (enc := bD) [_, _, _, _] (eva_consM _ (ev_isE A kd.xc hq hz hf (m := 0) rfl (.inl rfl) rfl (by rfl) B.isinstance (by rfl) C.die.gl kd.k0) (eva_consM _ (ev_isE A kd.xc hq hz hf (m := 0) rfl (.inl rfl) rfl (by rfl) B.isinstance (by rfl) C.word.gl kd.k1) (eva_consM _ (ev_isE A kd.xc hq hz hf (m := 0) rfl (.inl rfl) rfl (by rfl) B.isinstance (by rfl) C.race.gl kd.k2) (eva_consM _ (ev_isE A kd.xc hq hz hf (m := 0) rfl (.inl rfl) rfl (by rfl) B.isinstance (by rfl) C.row.gl kd.k3) eva_nilM)))) (fun _ => rfl) (by show 4 ≤ sizeLine; omega))) ?_
  refine runB_to [.rf q.1, .ow ((bits7 j).map bD)] (run_setN0 A (hfn _) 1 rfl (.inl rfl) (evn_catM (enc := bD) (evc_own0 A 1 rfl (.inl rfl) rfl) (evn_lstM (enc := bD) [_, _, _] (eva_consM _ (ev_isE A kd.xc hq hz hf (m := 0) rfl (.inl rfl) rfl (by rfl) B.isinstance (by rfl) C.over.gl kd.k4) (eva_consM _ (ev_isE A kd.xc hq hz hf (m := 0) rfl (.inl rfl) rfl (by rfl) B.isinstance (by rfl) C.many.gl kd.k5) (eva_consM _ (ev_isE A kd.xc hq hz hf (m := 0) rfl (.inl rfl) rfl (by rfl) B.isinstance (by rfl) C.note.gl kd.k6) eva_nilM))) (fun _ => rfl) (by show 3 ≤ sizeLine; omega)).toC (by show 4 + 3 ≤ sizeLine; omega))) ?_
  refine runB_cons (run_ifF (EvT.lift (frzAll_frz _) (evw_or (evt_not (evt_val (ev_isEV A kd.xc hq hz hf (m := 0) rfl (.inl rfl) rfl (by rfl) B.isinstance (by rfl) C.value (by rfl) kd.kv))) fun _ => evw_or1 (evt_neI (ev_countB (ev_var0 A 1 rfl (.inl rfl) rfl) ev_bl) ev_int)).t) ?_ runB_nil) (runB_one (Run.cast (run_ret (EvE.lift (frzAll_frz _) (ev_ixG (enc := sD) [] (EvN.ev (evn_lstM (enc := sD) [_, _, _, _, _, _, _] (eva_consM _ (ev_strC [100, 105, 101] (by rfl)) (eva_consM _ (ev_strC [119, 111, 114, 100] (by rfl)) (eva_consM _ (ev_strC [114, 97, 99, 101] (by rfl)) (eva_consM _ (ev_strC [114, 111, 119] (by rfl)) (eva_consM _ (ev_strC [111, 118, 101, 114] (by rfl)) (eva_consM _ (ev_strC [109, 97, 110, 121] (by rfl)) (eva_consM _ (ev_strC [110, 111, 116, 101] (by rfl)) eva_nilM))))))) (fun _ => rfl) (by show 7 ≤ sizeLine; omega))) (ev_indexB (ev_var0 A 1 rfl (.inl rfl) rfl) ev_bl b2) (by omega) (by rw [b3]; show (j : Int) < 7; omega)) rfl)) ?_))
  · rw [b1]; rfl
  · rw [b3]; rfl
/-! ### _law_tried -/
theorem sc__law_tried : FnScope ["text", "e"] ["text"] (defScope (topS 27)) := ⟨rfl, rfl, rfl, by decide +kernel, rfl, by decide +kernel, by decide +kernel⟩
theorem ok__law_tried (Df : DfG K mg "_law_tried" (topS 27) ["text"]) (B : Bts mg)
    (C : Clss K mg E)
    (c_read : FnG P w K mg base 4 "read" ["text"] (fun ds r => S_read ds r ∨ XX_read E ds r))
    (c__law_kind_note : KndG P w K mg base 1 E.note (kindN 6)) (k_note : KindC K E E.note 6) : FnG P w K mg base 5 "_law_tried" ["text"] (S20__law_tried E) := by
  refine fn_D Df sc__law_tried (fun ds r h => S20__law_tried_len h) fun X W hP hw hK hm hb A tk ds r hS => ?_
  subst hP hw hK hm hb
  have hsz := szL
  obtain ⟨t, rfl, lt, how⟩ := hS
  rcases how with ⟨bad, rfl⟩ | ⟨ok, rfl⟩
  · exact ⟨_, .inl rfl, runB_stop (run_try (i := 1) (u := .ex (.ref E.note)) (v := .rt (sD (kindN 6))) A tk rfl rfl (by rfl) C.base k_note.ex rfl (fun W' pn xe A tk => runB_one (run_exprX (evx_call A.toWh tk c_read (by decide) (by rfl) (eva_cons (ev_var A.toWh 0 rfl (.inl rfl) rfl) eva_nil) (.inr ⟨_, rfl, (by exact lt), (by exact bad), rfl⟩)))) (.inl rfl) (fun _ a oe pn W' hz hf => ⟨_, rfl, runB_one (run_ret (ev_kind (i := 1) A.toWh0.suite A.roomS c__law_kind_note (by decide) List.mem_cons_self hz hf rfl (.inl rfl) rfl (by rfl)))⟩)) rfl⟩
  · exact ⟨_, .inl rfl, runB_cons (run_try (i := 1) (u := .nx [.va (sD t), .no]) (v := .nx [.va (sD t), .no]) (C := E.note) A tk rfl rfl (by rfl) C.base k_note.ex rfl (fun W' pn xe A tk => runB_one (run_exprD ((EvR2.ev (evr2_call A.toWh c_read (by decide) (by rfl) (eva_cons (ev_var A.toWh 0 rfl (.inl rfl) rfl) eva_nil) (.inl ⟨_, rfl, (by exact lt), (by exact ok), rfl⟩)))).dn)) (.inr rfl) (fun h => nomatch h)) (runB_one (run_ret (ev_strC [114, 101, 97, 100] (by rfl))))⟩
/-! ### _law_line -/
theorem sc__law_line : FnScope ["weights", "words"] ["weights", "words"] (defScope (topS 28)) := ⟨rfl, rfl, rfl, by decide +kernel, rfl, by decide +kernel, by decide +kernel⟩
theorem ok__law_line (Df : DfG K mg "_law_line" (topS 28) ["weights", "words"]) (B : Bts mg)
    (C : Clss K mg E) : FnG P w K mg base 1 "_law_line" ["weights", "words"] S20__law_line := by
  refine fn_D Df sc__law_line (fun ds r h => S20__law_line_len h) fun X W hP hw hK hm hb A tk ds r hS => ?_
  subst hP hw hK hm hb
  have hsz := szL
  obtain ⟨a, b, rfl, sa, sb, rfl⟩ := hS
  obtain ⟨a1, a2⟩ := join20 sa
  obtain ⟨b1, b2⟩ := join20 sb
  refine ⟨_, .inl rfl, runB_one (Run.cast (run_ret (ev_addT (ev_addT (ev_join (ev_strC [32] (by rfl)) (ev_var A.toWh 0 rfl (.inl rfl) rfl) (by first | exact a1 | exact b1 | (show _ + 2 ≤ sizeLine; omega) | (rw [List.length_append]; show _ + 2 + _ ≤ sizeLine; omega))) (ev_strC [58, 32] (by rfl)) (by first | exact a1 | exact b1 | (show _ + 2 ≤ sizeLine; omega) | (rw [List.length_append]; show _ + 2 + _ ≤ sizeLine; omega))) (ev_join (ev_strC [32] (by rfl)) (ev_var A.toWh 1 rfl (.inl rfl) rfl) (by first | exact a1 | exact b1 | (show _ + 2 ≤ sizeLine; omega) | (rw [List.length_append]; show _ + 2 + _ ≤ sizeLine; omega))) (by first | exact a1 | exact b1 | (show _ + 2 ≤ sizeLine; omega) | (rw [List.length_append]; show _ + 2 + _ ≤ sizeLine; omega)))) ?_)⟩
  rw [joinT_eq, joinT_eq]; rfl
/-! ### _law_spoiled -/
theorem sc__law_spoiled : FnScope ["weights", "words", "fault", "cell", "at", "place", "text", "some", "other", "k"] ["weights", "words", "fault", "cell"] (defScope (topS 29)) := ⟨rfl, rfl, rfl, by decide +kernel, rfl, by decide +kernel, by decide +kernel⟩
theorem ok__law_spoiled (Df : DfG K mg "_law_spoiled" (topS 29) ["weights", "words", "fault", "cell"]) (B : Bts mg)
    (C : Clss K mg E)
    (c__law_line : FnG P w K mg base 1 "_law_line" ["weights", "words"] S20__law_line) : FnG P w K mg base 2 "_law_spoiled" ["weights", "words", "fault", "cell"] S20__law_spoiled := by
  refine fn_D Df sc__law_spoiled (fun ds r h => S20__law_spoiled_len h) fun X W hP hw hK hm hb A tk ds r hS => ?_
  subst hP hw hK hm hb
  have hsz := szL
  obtain ⟨die, ws, f, c, rfl, ok, rfl⟩ := hS
  obtain ⟨f1, f2, f3⟩ := figs_len ok.1
  have o1 := ok.2.2.1
  have o4 := ok.four
  have o6 := ok.six
  have sw : small20 ws := ⟨by omega, fun p h => Nat.le_trans (o6 p h) (by decide)⟩
  have sf : small20 (die.map figL) := ⟨by omega, fun p h => Nat.le_trans (f1 p h) (by decide)⟩
  obtain ⟨j1, j2⟩ := join_sizes ok
  have lT : (lineL (die.map figL) ws).length ≤ 38 := by
    unfold lineL
    rw [List.length_append, List.length_append]
    have : ([58, 32] : List Nat).length = 2 := rfl
    omega
  have p0 : 0 ≤ c % (ws.length : Int) := Int.emod_nonneg _ (by omega)
  have p1 : c % (ws.length : Int) < ws.length := Int.emod_lt_of_pos _ (by omega)
  refine ⟨_, .inl rfl, runB_cons (run_set A 4 rfl (.inl rfl) (ev_mod (ev_var A.toWh 3 rfl (.inl rfl) rfl) (ev_lenM A.toWh (by rfl) B.len (ev_var A.toWh 0 rfl (.inl rfl) rfl)) (by omega))) (runB_cons (run_set A 5 rfl (.inl rfl) (ev_mod (ev_var A.toWh 3 rfl (.inl rfl) rfl) (ev_lenM A.toWh (by rfl) B.len (ev_var A.toWh 1 rfl (.inl rfl) rfl)) (by omega))) (runB_to [.va (txts (die.map figL)), .va (txts ws), .va (iD f), .va (iD c), .va (iD (c % ((die.map figL).length : Int))), .va (iD (c % (ws.length : Int))), .va (sD (lineL (die.map figL) ws)), .no, .no, .no] (run_set A 6 rfl (.inl rfl) (ev_call A.toWh c__law_line (by decide) (by rfl) (eva_cons (ev_var A.toWh 0 rfl (.inl rfl) rfl) (eva_cons (ev_var A.toWh 1 rfl (.inl rfl) rfl) eva_nil)) ⟨_, _, rfl, (by first | exact sf | exact sw), (by first | exact sf | exact sw), rfl⟩)) ?_))⟩
  by_cases h0 : f = 0
  · have e : spoiledL (die.map figL) ws f c = lineL (sp0a (die.map figL) c) ws := if_pos h0
    rw [e]
    have l1 := cutL_len (die.map figL) none (some (c % ((die.map figL).length : Int)))
    have l2 := cutL_len (die.map figL) (some (c % ((die.map figL).length : Int) + 1)) none
    have q0 : 0 ≤ c / 16 % 11 := Int.emod_nonneg _ (by decide)
    have q1 : c / 16 % 11 < 11 := Int.emod_lt_of_pos _ (by decide)
    refine runB_stop (run_ifT (evt_eqI (ev_var A.toWh 2 rfl (.inl rfl) rfl) ev_int) (decide_eq_true h0) ?_) rfl
    show RunB X W (bodyOf (stAt (defBody (topS 29)) 3)) _ _
    obtain ⟨es, lp, p, pos, s1, hst, hes, hs1⟩ : ∃ es lp p pos s1, (bodyOf (stAt (defBody (topS 29)) 3)) = [Stmt.Assign [.Name (Str.ofString "some") p] (.List es lp) pos, s1] ∧ strsB es zeroT = true ∧ s1 = stAt (bodyOf (stAt (defBody (topS 29)) 3)) 1 := ⟨_, _, _, _, _, rfl, by decide +kernel, rfl⟩
    rw [hst]
    refine runB_to [.va (txts (die.map figL)), .va (txts ws), .va (iD f), .va (iD c), .va (iD (c % ((die.map figL).length : Int))), .va (iD (c % (ws.length : Int))), .va (sD (lineL (die.map figL) ws)), .va (txts zeroT), .no, .no] (run_setStrs (m := 7) A rfl (.inl rfl) (eva_strs hes) (by show 11 ≤ sizeLine; omega)) ?_
    rw [hs1]
    exact (runB_one (run_ret (ev_call A.toWh c__law_line (by decide) (by rfl) (eva_cons ((evn_catM (enc := sD) ((evn_catM (enc := sD) ((evn_slM (ev_var A.toWh 0 rfl (.inl rfl) rfl) evo_none (evo_some (ev_var A.toWh 4 rfl (.inl rfl) rfl)))).toC ((evn_lstM (enc := sD) [_] (eva_consM _ (ev_ixG (enc := sD) [] (ev_var A.toWh 7 rfl (.inl rfl) rfl) (ev_mod (ev_fdiv (ev_var A.toWh 3 rfl (.inl rfl) rfl) ev_int ⟨(by first | omega | assumption | rfl | (simp only [List.length_append, List.length_cons, List.length_nil, List.length_map, List.length_range]; omega)), (by first | omega | assumption | rfl | (simp only [List.length_append, List.length_cons, List.length_nil, List.length_map, List.length_range]; omega))⟩) ev_int (by first | omega | assumption | rfl | (simp only [List.length_append, List.length_cons, List.length_nil, List.length_map, List.length_range]; omega))) (by first | omega | (show _ < (11 : Int); omega)) (by first | omega | (show _ < (11 : Int); omega))) eva_nilM) (fun _ => rfl) (by show _ ≤ sizeLine; rw [sizeLine_eq]; exact Nat.le_of_ble_eq_true rfl))).toC (by first | (show _ + 1 ≤ sizeLine; omega) | (rw [List.length_append]; show _ + 1 + _ ≤ sizeLine; omega)))).toC ((evn_slM (ev_var A.toWh 0 rfl (.inl rfl) rfl) (evo_some (ev_add (ev_var A.toWh 4 rfl (.inl rfl) rfl) ev_int)) evo_none)).toC (by first | (show _ + 1 ≤ sizeLine; omega) | (rw [List.length_append]; show _ + 1 + _ ≤ sizeLine; omega)))).ev (eva_cons (ev_var A.toWh 1 rfl (.inl rfl) rfl) eva_nil)) ⟨_, _, rfl, (by first | exact (sp0_bad ok c).2.2 | exact sw), (by first | exact (sp0_bad ok c).2.2 | exact sw), rfl⟩)))
  refine runB_cons (run_ifF (evt_eqI (ev_var A.toWh 2 rfl (.inl rfl) rfl) ev_int) (decide_eq_false h0) runB_nil) ?_
  by_cases h1 : f = 1
  · have e : spoiledL (die.map figL) ws f c = lineL (die.map figL) (sp1b ws c) := (if_neg h0).trans (if_pos h1)
    rw [e]
    have l1 := cutL_len ws none (some (c % (ws.length : Int)))
    have l2 := cutL_len ws (some (c % (ws.length : Int) + 1)) none
    have q0 : 0 ≤ c / 16 % 9 := Int.emod_nonneg _ (by decide)
    have q1 : c / 16 % 9 < 9 := Int.emod_lt_of_pos _ (by decide)
    obtain ⟨hw, hm⟩ := prevW_in p0 p1
    have l6 := o6 _ hm
    refine runB_stop (run_ifT (evt_eqI (ev_var A.toWh 2 rfl (.inl rfl) rfl) ev_int) (decide_eq_true h1) ?_) rfl
    show RunB X W (bodyOf (stAt (defBody (topS 29)) 4)) _ _
    obtain ⟨es, lp, p, pos, s1, hst, hes, hrest, hs1⟩ : ∃ es lp p pos s1, (bodyOf (stAt (defBody (topS 29)) 4)) = [Stmt.Assign [.Name (Str.ofString "some") p] (.List es lp) pos, s1] ∧ strsB (es.take 7) [[], [97, 97, 97, 97, 97, 97, 98], [101], [65], [97, 45], [97, 49], [97, 9]] = true ∧ EvA X (es.drop 7) [.va (txts (die.map figL)), .va (txts ws), .va (iD f), .va (iD c), .va (iD (c % ((die.map figL).length : Int))), .va (iD (c % (ws.length : Int))), .va (sD (lineL (die.map figL) ws)), .no, .no, .no] ([prevW ws (c % (ws.length : Int)) ++ [32] ++ prevW ws (c % (ws.length : Int)), [97, 98, 10]].map sD) ∧ s1 = stAt (bodyOf (stAt (defBody (topS 29)) 4)) 1 :=
      ⟨_, _, _, _, _, rfl, by decide +kernel, (show EvA X [_, _] _ _ from eva_consM _ (ev_addT (ev_addT (ev_ixL (ev_var A.toWh 1 rfl (.inl rfl) rfl) (ev_sub (ev_var A.toWh 5 rfl (.inl rfl) rfl) ev_int) (atI_map sD hw)) (ev_strC [32] (by rfl)) (by show _ + 1 ≤ sizeLine; omega)) (ev_ixL (ev_var A.toWh 1 rfl (.inl rfl) rfl) (ev_sub (ev_var A.toWh 5 rfl (.inl rfl) rfl) ev_int) (atI_map sD hw)) (by rw [List.length_append]; show _ + 1 + _ ≤ sizeLine; omega)) (eva_consM _ (ev_strC [97, 98, 10] (by rfl)) eva_nilM)), rfl⟩
    rw [hst]
    refine runB_to [.va (txts (die.map figL)), .va (txts ws), .va (iD f), .va (iD c), .va (iD (c % ((die.map figL).length : Int))), .va (iD (c % (ws.length : Int))), .va (sD (lineL (die.map figL) ws)), .va (txts (oneT (prevW ws (c % (ws.length : Int))))), .no, .no] (run_setStrs (m := 7) (cs := oneT (prevW ws (c % (ws.length : Int)))) A rfl (.inl rfl) (eva_pre 7 hes hrest) (by show 9 ≤ sizeLine; omega)) ?_
    rw [hs1]
    exact (runB_one (run_ret (ev_call A.toWh c__law_line (by decide) (by rfl) (eva_cons (ev_var A.toWh 0 rfl (.inl rfl) rfl) (eva_cons ((evn_catM (enc := sD) ((evn_catM (enc := sD) ((evn_slM (ev_var A.toWh 1 rfl (.inl rfl) rfl) evo_none (evo_some (ev_var A.toWh 5 rfl (.inl rfl) rfl)))).toC ((evn_lstM (enc := sD) [_] (eva_consM _ (ev_ixG (enc := sD) [] (ev_var A.toWh 7 rfl (.inl rfl) rfl) (ev_mod (ev_fdiv (ev_var A.toWh 3 rfl (.inl rfl) rfl) ev_int ⟨(by first | omega | assumption | rfl | (simp only [List.length_append, List.length_cons, List.length_nil, List.length_map, List.length_range]; omega)), (by first | omega | assumption | rfl | (simp only [List.length_append, List.length_cons, List.length_nil, List.length_map, List.length_range]; omega))⟩) ev_int (by first | omega | assumption | rfl | (simp only [List.length_append, List.length_cons, List.length_nil, List.length_map, List.length_range]; omega))) (by first | omega | (show _ < (9 : Int); omega)) (by first | omega | (show _ < (9 : Int); omega))) eva_nilM) (fun _ => rfl) (by show _ ≤ sizeLine; rw [sizeLine_eq]; exact Nat.le_of_ble_eq_true rfl))).toC (by first | (show _ + 1 ≤ sizeLine; omega) | (rw [List.length_append]; show _ + 1 + _ ≤ sizeLine; omega)))).toC ((evn_slM (ev_var A.toWh 1 rfl (.inl rfl) rfl) (evo_some (ev_add (ev_var A.toWh 5 rfl (.inl rfl) rfl) ev_int)) evo_none)).toC (by first | (show _ + 1 ≤ sizeLine; omega) | (rw [List.length_append]; show _ + 1 + _ ≤ sizeLine; omega)))).ev eva_nil)) ⟨_, _, rfl, (by first | exact (sp1_bad ok c).2.2 | exact sf), (by first | exact (sp1_bad ok c).2.2 | exact sf), rfl⟩)))
  refine runB_cons (run_ifF (evt_eqI (ev_var A.toWh 2 rfl (.inl rfl) rfl) ev_int) (decide_eq_false h1) runB_nil) ?_
  by_cases h2 : f = 2
  · have e : spoiledL (die.map figL) ws f c = replT (lineL (die.map figL) ws) [58, 32] (repsT.getD (c % 4).toNat []) := (if_neg h0).trans ((if_neg h1).trans (if_pos h2))
    rw [e]
    have q0 : 0 ≤ c % 4 := Int.emod_nonneg _ (by decide)
    have q1 : c % 4 < 4 := Int.emod_lt_of_pos _ (by decide)
    have hk : (c % 4).toNat = 0 ∨ (c % 4).toNat = 1 ∨ (c % 4).toNat = 2 ∨ (c % 4).toNat = 3 := by omega
    have lz : (repsT.getD (c % 4).toNat []).length ≤ 3 := by rcases hk with e | e | e | e <;> rw [e] <;> decide
    have lb : (lineL (die.map figL) ws).length + ((lineL (die.map figL) ws).length + 1) * (repsT.getD (c % 4).toNat []).length ≤ 16777216 := by
      have := Nat.mul_le_mul (show (lineL (die.map figL) ws).length + 1 ≤ 39 by omega) lz
      omega
    refine runB_stop (run_ifT1 (ev_var A.toWh 2 rfl (.inl rfl) rfl) h2 (runB1_ret (ev1_replT (z := S (repsT.getD (c % 4).toNat [])) (yc := [58, 32]) (zc := repsT.getD (c % 4).toNat []) _ (ev_var A.toWh 6 rfl (.inl rfl) rfl) (newt_ix4 (i := c % 4) (ev_mod (ev_var A.toWh 3 rfl (.inl rfl) rfl) ev_int (by decide)) q0 q1 (by rcases hk with e | e | e | e <;> rw [e] <;> rfl)) (by rfl) rfl (by rcases hk with e | e | e | e <;> rw [e] <;> rfl) lb rfl))) rfl
  refine runB_cons (run_ifF (evt_eqI (ev_var A.toWh 2 rfl (.inl rfl) rfl) ev_int) (decide_eq_false h2) runB_nil) ?_
  by_cases h3 : f = 3
  · have e : spoiledL (die.map figL) ws f c = sp3 (lineL (die.map figL) ws) c := (if_neg h0).trans ((if_neg h1).trans ((if_neg h2).trans (if_pos h3)))
    rw [e]
    have q0 : 0 ≤ c % 5 := Int.emod_nonneg _ (by decide)
    have q1 : c % 5 < 5 := Int.emod_lt_of_pos _ (by decide)
    unfold sp3
    generalize lineL (die.map figL) ws = T at lT ⊢
    have lb : T.length + (T.length + 1) * ([58, 32, 32] : List Nat).length ≤ 16777216 := by
      show T.length + (T.length + 1) * 3 ≤ 16777216
      omega
    refine runB_stop (run_ifT1 (ev_var A.toWh 2 rfl (.inl rfl) rfl) h3 (runB1_ret (ev1_ix (xs := ([[32] ++ T, T ++ [32], T ++ [10], [9] ++ T, replT T [58, 32] [58, 32, 32]] : List (List Nat)).map sD) (ev1_lst (eva1_cons (EvE.one (ev_addT (ev_strC [32] (by rfl)) (ev_var A.toWh 6 rfl (.inl rfl) rfl) (by show 1 + _ ≤ sizeLine; omega))) (eva1_cons (EvE.one (ev_addT (ev_var A.toWh 6 rfl (.inl rfl) rfl) (ev_strC [32] (by rfl)) (by show _ + 1 ≤ sizeLine; omega))) (eva1_cons (EvE.one (ev_addT (ev_var A.toWh 6 rfl (.inl rfl) rfl) (ev_strC [10] (by rfl)) (by show _ + 1 ≤ sizeLine; omega))) (eva1_cons (EvE.one (ev_addT (ev_strC [9] (by rfl)) (ev_var A.toWh 6 rfl (.inl rfl) rfl) (by show 1 + _ ≤ sizeLine; omega))) (eva1_cons (ev1_replT (z := S [58, 32, 32]) (yc := [58, 32]) (zc := [58, 32, 32]) _ (ev_var A.toWh 6 rfl (.inl rfl) rfl) newt_const (by rfl) rfl rfl lb rfl) eva1_nil))))) rfl (by show 5 ≤ sizeLine; omega)) (ev_mod (ev_var A.toWh 3 rfl (.inl rfl) rfl) ev_int (by decide)) (atI_map sD (atI_getD [] q0 (show _ < (5 : Int) from q1)))))) rfl
  refine runB_cons (run_ifF (evt_eqI (ev_var A.toWh 2 rfl (.inl rfl) rfl) ev_int) (decide_eq_false h3) runB_nil) ?_
  by_cases h4 : f = 4
  · have e : spoiledL (die.map figL) ws f c = lineL (sp4a (die.map figL) c) (if c % 3 < 2 then ws else []) := (if_neg h0).trans ((if_neg h1).trans ((if_neg h2).trans ((if_neg h3).trans (if_pos h4))))
    rw [e]
    have q0 : 0 ≤ c % 3 := Int.emod_nonneg _ (by decide)
    have q1 : c % 3 < 3 := Int.emod_lt_of_pos _ (by decide)
    have s4 := (sp4_bad ok c).2.2
    have o : Run X W (stAt (bodyOf (stAt (defBody (topS 29)) 7)) 0) [.va (txts (die.map figL)), .va (txts ws), .va (iD f), .va (iD c), .va (iD (c % ((die.map figL).length : Int))), .va (iD (c % (ws.length : Int))), .va (sD (lineL (die.map figL) ws)), .no, .no, .no] (.nx [.va (txts (die.map figL)), .va (txts ws), .va (iD f), .va (iD c), .va (iD (c % ((die.map figL).length : Int))), .va (iD (c % (ws.length : Int))), .va (sD (lineL (die.map figL) ws)), .no, .va (txts (sp4a (die.map figL) c)), .no]) := (run_set A 8 rfl (.inl rfl) (ev_ixG (enc := txts) [] ((evn_lstM (enc := txts) [_, _, _] (eva_consM _ ((evn_slM (ev_var A.toWh 0 rfl (.inl rfl) rfl) evo_none (evo_some ev_int))).ev (eva_consM _ ((evn_catVM (enc := sD) (ev_var A.toWh 0 rfl (.inl rfl) rfl) ((evn_lc0 sD 9 A.toWh ⟨rfl, by decide +kernel, rfl, (.inl rfl), Nat.le_of_ble_eq_true rfl⟩ (evi_rangeN A.toWh (by rfl) B.range ev_int (by rfl) (by first | omega | assumption | rfl | (simp only [List.length_append, List.length_cons, List.length_nil, List.length_map, List.length_range]; omega))) (fun a1 ha2 X3 hX4 => (ev_strC [49] (by rfl))) (fun _ => rfl) (by first | (show 3 ≤ sizeLine; omega) | (show _ + 3 ≤ sizeLine; omega)))).ev (by first | (show 3 ≤ sizeLine; omega) | (show _ + 3 ≤ sizeLine; omega)))).ev (eva_consM _ (ev_var A.toWh 0 rfl (.inl rfl) rfl) eva_nilM))) (fun _ => rfl) (by show _ ≤ sizeLine; rw [sizeLine_eq]; exact Nat.le_of_ble_eq_true rfl))).ev (ev_mod (ev_var A.toWh 3 rfl (.inl rfl) rfl) ev_int (by first | omega | assumption | rfl | (simp only [List.length_append, List.length_cons, List.length_nil, List.length_map, List.length_range]; omega))) (by first | omega | (show _ < (3 : Int); omega)) (by first | omega | (show _ < (3 : Int); omega))))
    refine runB_stop (run_ifT (evt_eqI (ev_var A.toWh 2 rfl (.inl rfl) rfl) ev_int) (decide_eq_true h4) (runB_to [.va (txts (die.map figL)), .va (txts ws), .va (iD f), .va (iD c), .va (iD (c % ((die.map figL).length : Int))), .va (iD (c % (ws.length : Int))), .va (sD (lineL (die.map figL) ws)), .no, .va (txts (sp4a (die.map figL) c)), .no] o ?_)) rfl
    by_cases h5 : c % 3 < 2
    · rw [if_pos h5]
      exact runB_one (run_ret (ev_call A.toWh c__law_line (by decide) (by rfl) (eva_cons (ev_var A.toWh 8 rfl (.inl rfl) rfl) (eva_cons (ev_ifT (evt_lt (ev_mod (ev_var A.toWh 3 rfl (.inl rfl) rfl) ev_int (by first | omega | assumption | rfl | (simp only [List.length_append, List.length_cons, List.length_nil, List.length_map, List.length_range]; omega))) ev_int) (by exact decide_eq_true h5) (ev_var A.toWh 1 rfl (.inl rfl) rfl)) eva_nil)) ⟨_, _, rfl, (by first | exact s4 | exact sw), (by first | exact s4 | exact sw), rfl⟩))
    · rw [if_neg h5]
      exact runB_one (run_ret (ev_call A.toWh c__law_line (by decide) (by rfl) (eva_cons (ev_var A.toWh 8 rfl (.inl rfl) rfl) (eva_cons ((evn_ifF (evt_lt (ev_mod (ev_var A.toWh 3 rfl (.inl rfl) rfl) ev_int (by first | omega | assumption | rfl | (simp only [List.length_append, List.length_cons, List.length_nil, List.length_map, List.length_range]; omega))) ev_int) (by exact decide_eq_false h5) (evn_lst (as := []) eva_nil rfl (Nat.zero_le _)))).ev eva_nil)) ⟨_, [], rfl, s4, ⟨Nat.zero_le _, fun _ h => nomatch h⟩, rfl⟩))
  refine runB_cons (run_ifF (evt_eqI (ev_var A.toWh 2 rfl (.inl rfl) rfl) ev_int) (decide_eq_false h4) runB_nil) ?_
  by_cases h5 : f = 5
  · have e : spoiledL (die.map figL) ws f c = lineL (die.map figL) fiveT := (if_neg h0).trans ((if_neg h1).trans ((if_neg h2).trans ((if_neg h3).trans ((if_neg h4).trans (if_pos h5)))))
    rw [e]
    exact runB_stop (run_ifT (evt_eqI (ev_var A.toWh 2 rfl (.inl rfl) rfl) ev_int) (decide_eq_true h5) (runB_one (run_ret (ev_call A.toWh c__law_line (by decide) (by rfl) (eva_cons (ev_var A.toWh 0 rfl (.inl rfl) rfl) (eva_cons ((evn_lstM (enc := sD) [_, _, _, _, _] (eva_consM _ (ev_strC [97, 97, 98] (by rfl)) (eva_consM _ (ev_strC [97, 98, 98] (by rfl)) (eva_consM _ (ev_strC [98, 98, 97] (by rfl)) (eva_consM _ (ev_strC [98, 97, 97] (by rfl)) (eva_consM _ (ev_strC [98, 97, 98] (by rfl)) eva_nilM))))) (fun _ => rfl) (by show _ ≤ sizeLine; rw [sizeLine_eq]; exact Nat.le_of_ble_eq_true rfl))).ev eva_nil)) ⟨_, _, rfl, (by first | exact sf | exact five20), (by first | exact sf | exact five20), rfl⟩)))) rfl
  refine runB_cons (run_ifF (evt_eqI (ev_var A.toWh 2 rfl (.inl rfl) rfl) ev_int) (decide_eq_false h5) runB_nil) ?_
  have e : spoiledL (die.map figL) ws f c = restT.getD (c % 10).toNat [] := (if_neg h0).trans ((if_neg h1).trans ((if_neg h2).trans ((if_neg h3).trans ((if_neg h4).trans (if_neg h5)))))
  rw [e]
  have q0 : 0 ≤ c % 10 := Int.emod_nonneg _ (by decide)
  have q1 : c % 10 < 10 := Int.emod_lt_of_pos _ (by decide)
  show RunB X W (((defBody (topS 29))).drop 9) _ _
  obtain ⟨es, lp, rp, pos, p1, p2, p3, j, hst, hes⟩ : ∃ es lp rp pos p1 p2 p3 j, (((defBody (topS 29))).drop 9) = [Stmt.Return (some (.Subscript (.List es lp) (.BinOp (.Name (Str.ofString "cell") p1) .Mod (.Constant (.int 10) j p2) p3) rp)) pos] ∧ strsB es restT = true := ⟨_, _, _, _, _, _, _, _, rfl, by decide +kernel⟩
  rw [hst]
  exact runB_one (run_retStrs (eva_strs hes) (by show 10 ≤ sizeLine; omega) (ev_mod (ev_var A.toWh 3 rfl (.inl rfl) rfl) ev_int (by decide)) q0 (show _ < (10 : Int) from q1) (fun _ _ => rfl))
/-! ### law -/
theorem sc_law : FnScope ["script", "die", "words", "weights", "cell", "bad", "weight"] ["script"] (defScope (topS 30)) := ⟨rfl, rfl, rfl, by decide +kernel, rfl, by decide +kernel, by decide +kernel⟩
theorem ok_law {f : Addr} {fd : FuncData} (Fu : Fun K "law" "law" (topS 30) f fd) (B : Bts mg)
    (C : Clss K mg E)
    (c__law_die : FnG P w K mg base 2 "_law_die" ["cell"] S__law_die)
    (c__law_words : FnG P w K mg base 4 "_law_words" ["script", "at", "signs"] S__law_words)
    (c__law_spoiled : FnG P w K mg base 2 "_law_spoiled" ["weights", "words", "fault", "cell"] S20__law_spoiled)
    (c__law_cell_at : FnG P w K mg base 1 "_law_cell_at" ["script", "k"] S__law_cell_at)
    (c__law_tried : FnG P w K mg base 5 "_law_tried" ["text"] (S20__law_tried E))
    (c__law_line : FnG P w K mg base 1 "_law_line" ["weights", "words"] S20__law_line) : FnOk P w K mg base (L2.CX P w) 6 f fd ["script"] (spD K S_law) := by
  refine fn_body Fu sc_law (fun ds r h => S_law_len h) fun X W hP hw hK hm hb A tk ds r hS => ?_
  subst hP hw hK hm hb
  have hsz := szL
  obtain ⟨ns, rfl, hl, rfl⟩ := hS
  refine ⟨_, .inl rfl, runB_cons (run_set A 1 rfl (.inl rfl) ((evn_call A.toWh c__law_die (by decide) (by rfl) (eva_cons (ev_mod (ev_call A.toWh c__law_cell_at (by decide) (by rfl) (eva_cons (ev_var A.toWh 0 rfl (.inl rfl) rfl) (eva_cons ev_int eva_nil)) ⟨_, _, rfl, (by first | omega | assumption | rfl | (simp only [List.length_append, List.length_cons, List.length_nil, List.length_map, List.length_range]; omega)), rfl⟩) ev_int (by first | omega | assumption | rfl | (simp only [List.length_append, List.length_cons, List.length_nil, List.length_map, List.length_range]; omega))) eva_nil) ⟨_, rfl, rfl⟩)).ev) ?_⟩
  have dk := dieL_ok (cellAt ns 0 % 1000003)
  generalize dieL (cellAt ns 0 % 1000003) = die at dk
  have d2 := dk.1
  have d4 := dk.2.1
  have d9 := dk.2.2
  refine runB_cons (run_set A 2 rfl (.inl rfl) ((evn_call A.toWh c__law_words (by decide) (by rfl) (eva_cons (ev_var A.toWh 0 rfl (.inl rfl) rfl) (eva_cons ev_int (eva_cons (ev_lenM A.toWh (by rfl) B.len (ev_var A.toWh 1 rfl (.inl rfl) rfl)) eva_nil))) ⟨_, _, _, rfl, (by first | omega | assumption | rfl | (simp only [List.length_append, List.length_cons, List.length_nil, List.length_map, List.length_range]; omega)), (by first | omega | assumption | rfl | (simp only [List.length_append, List.length_cons, List.length_nil, List.length_map, List.length_range]; omega)), (by first | omega | assumption | rfl | (simp only [List.length_append, List.length_cons, List.length_nil, List.length_map, List.length_range]; omega)), rfl⟩)).ev) ?_
  have ok := wordsL_ok ns 1 dk
  generalize wordsL ns 1 die.length = ws at ok
  have o4 := ok.four
  have o6 := ok.six
  obtain ⟨f1, f2, f3⟩ := figs_len dk
  have sw : small20 ws := ⟨by omega, fun p h => Nat.le_trans (o6 p h) (by decide)⟩
  have sf : small20 (die.map figL) := ⟨by omega, fun p h => Nat.le_trans (f1 p h) (by decide)⟩
  obtain ⟨rn, _, _, r3⟩ := shown_read ok
  have rn : noteOk (lineL (die.map figL) ws) := rn
  have r3 : (lineL (die.map figL) ws).length ≤ 90 := r3
  refine runB_to [.va (nums ns), .va (nums die), .va (txts ws), .ow ((die.map figL).map sD), .no, .no, .no] (run_setLc0 sD 6 A 3 rfl rfl ⟨rfl, by decide +kernel, rfl, (.inl rfl), Nat.le_of_ble_eq_true rfl⟩ (evi_list (ev_var A.toWh 1 rfl (.inl rfl) rfl)) (fun a1 ha2 X3 hX4 => ((ev_strI (A.toWh.blk hX4) (by rfl) (B.blk hX4).str (ev_var (A.toWh.blk hX4) 6 rfl (.inl rfl) rfl) (by exact small_log (d9 _ (by assumption)))).cast (digit (by exact d9 _ (by assumption))))) (fun _ => rfl) (by omega)) (RunB.frz (ds' := [.va (nums ns), .va (nums die), .va (txts ws), .va (txts (die.map figL)), .no, .no, .no]) ?_ (frzAll_frz _))
  refine runB_cons (run_set A 4 rfl (.inl rfl) (ev_mod (ev_call A.toWh c__law_cell_at (by decide) (by rfl) (eva_cons (ev_var A.toWh 0 rfl (.inl rfl) rfl) (eva_cons ev_int eva_nil)) ⟨_, _, rfl, (by first | omega | assumption | rfl | (simp only [List.length_append, List.length_cons, List.length_nil, List.length_map, List.length_range]; omega)), rfl⟩) ev_int (by first | omega | assumption | rfl | (simp only [List.length_append, List.length_cons, List.length_nil, List.length_map, List.length_range]; omega)))) ?_
  generalize cellAt ns 7 % 1000003 = cell
  obtain ⟨b1, b2⟩ := spoiled_bad ok (cellAt ns 6 % 7) cell
  refine runB_cons (run_set A 5 rfl (.inl rfl) (ev_call A.toWh c__law_spoiled (by decide) (by rfl) (eva_cons (ev_var A.toWh 3 rfl (.inl rfl) rfl) (eva_cons (ev_var A.toWh 2 rfl (.inl rfl) rfl) (eva_cons (ev_mod (ev_call A.toWh c__law_cell_at (by decide) (by rfl) (eva_cons (ev_var A.toWh 0 rfl (.inl rfl) rfl) (eva_cons ev_int eva_nil)) ⟨_, _, rfl, (by first | omega | assumption | rfl | (simp only [List.length_append, List.length_cons, List.length_nil, List.length_map, List.length_range]; omega)), rfl⟩) ev_int (by first | omega | assumption | rfl | (simp only [List.length_append, List.length_cons, List.length_nil, List.length_map, List.length_range]; omega))) (eva_cons (ev_var A.toWh 4 rfl (.inl rfl) rfl) eva_nil)))) ⟨_, _, _, _, rfl, (by exact ok), rfl⟩)) ?_
  generalize spoiledL (die.map figL) ws (cellAt ns 6 % 7) cell = bad at b1 b2
  refine runB_cons (run_ifF ((evw_or (evt_neT (ev_call A.toWh c__law_tried (by decide) (by rfl) (eva_cons (ev_var A.toWh 5 rfl (.inl rfl) rfl) eva_nil) ⟨_, rfl, (by exact b2), (by exact .inl ⟨b1, rfl⟩)⟩) (ev_strC [110, 111, 116, 101] (by rfl))) (fun hc1 => (evw_or1 (evt_neT (ev_call A.toWh c__law_tried (by decide) (by rfl) (eva_cons (ev_var A.toWh 5 rfl (.inl rfl) rfl) eva_nil) ⟨_, rfl, (by exact b2), (by exact .inl ⟨b1, rfl⟩)⟩) (ev_strC [110, 111, 116, 101] (by rfl))))))).t ?_ runB_nil) (runB_one (Run.cast (run_ret (ev_eqT (ev_call A.toWh c__law_tried (by decide) (by rfl) (eva_cons (ev_call A.toWh c__law_line (by decide) (by rfl) (eva_cons (ev_var A.toWh 3 rfl (.inl rfl) rfl) (eva_cons (ev_var A.toWh 2 rfl (.inl rfl) rfl) eva_nil)) ⟨_, _, rfl, (by first | exact sf | exact sw), (by first | exact sf | exact sw), rfl⟩) eva_nil) ⟨_, rfl, (by exact r3), (by exact .inr ⟨rn, rfl⟩)⟩) (ev_strC [114, 101, 97, 100] (by rfl)))) ?_))
  · decide
  · exact congrArg (fun t => Out.rt (bD t)) (decide_eq_true rfl)
end
/-! ### what the top has left -/
theorem all_mk {P : Program} {w : World} {K : PySem.W.Frag} {h : Heap} {mg : Str → Option Value} {fa : Addr} (HK : K.In h) (G : h.Ns mainGlobals mg) (hfa : mg "law" = some (.ref fa))
    {f0 : Addr} {od0 an0 : Option Addr} {sl0 : Array (Option Value)} {oc0 kV0 dc0 pm0 cd0 ct0 : Value}
    (a0 : PySem.W.nsIn K mainGlobals "ask_die" = some (some (.ref f0))) (l0 : K.lookup f0 = some ⟨oc0, od0, .func (PySem.W.fnOf "ask_die" "ask_die" (defArgs (topS 11)) (defBody (topS 11)) (defScope (topS 11)) .none kV0 dc0 pm0 an0 cd0 ct0), sl0⟩) (k0 : PySem.W.codeIn K cd0 "ask_die" = true) (q0 : PySem.W.keepIn K (.ref f0) = true)
    {f1 : Addr} {od1 an1 : Option Addr} {sl1 : Array (Option Value)} {oc1 kV1 dc1 pm1 cd1 ct1 : Value}
    (a1 : PySem.W.nsIn K mainGlobals "is_thrown" = some (some (.ref f1))) (l1 : K.lookup f1 = some ⟨oc1, od1, .func (PySem.W.fnOf "is_thrown" "is_thrown" (defArgs (topS 12)) (defBody (topS 12)) (defScope (topS 12)) .none kV1 dc1 pm1 an1 cd1 ct1), sl1⟩) (k1 : PySem.W.codeIn K cd1 "is_thrown" = true) (q1 : PySem.W.keepIn K (.ref f1) = true)
    {f2 : Addr} {od2 an2 : Option Addr} {sl2 : Array (Option Value)} {oc2 kV2 dc2 pm2 cd2 ct2 : Value}
    (a2 : PySem.W.nsIn K mainGlobals "ask_word" = some (some (.ref f2))) (l2 : K.lookup f2 = some ⟨oc2, od2, .func (PySem.W.fnOf "ask_word" "ask_word" (defArgs (topS 13)) (defBody (topS 13)) (defScope (topS 13)) .none kV2 dc2 pm2 an2 cd2 ct2), sl2⟩) (k2 : PySem.W.codeIn K cd2 "ask_word" = true) (q2 : PySem.W.keepIn K (.ref f2) = true)
    {f3 : Addr} {od3 an3 : Option Addr} {sl3 : Array (Option Value)} {oc3 kV3 dc3 pm3 cd3 ct3 : Value}
    (a3 : PySem.W.nsIn K mainGlobals "ask_race" = some (some (.ref f3))) (l3 : K.lookup f3 = some ⟨oc3, od3, .func (PySem.W.fnOf "ask_race" "ask_race" (defArgs (topS 14)) (defBody (topS 14)) (defScope (topS 14)) .none kV3 dc3 pm3 an3 cd3 ct3), sl3⟩) (k3 : PySem.W.codeIn K cd3 "ask_race" = true) (q3 : PySem.W.keepIn K (.ref f3) = true)
    {f4 : Addr} {od4 an4 : Option Addr} {sl4 : Array (Option Value)} {oc4 kV4 dc4 pm4 cd4 ct4 : Value}
    (a4 : PySem.W.nsIn K mainGlobals "weight_of" = some (some (.ref f4))) (l4 : K.lookup f4 = some ⟨oc4, od4, .func (PySem.W.fnOf "weight_of" "weight_of" (defArgs (topS 17)) (defBody (topS 17)) (defScope (topS 17)) .none kV4 dc4 pm4 an4 cd4 ct4), sl4⟩) (k4 : PySem.W.codeIn K cd4 "weight_of" = true) (q4 : PySem.W.keepIn K (.ref f4) = true)
    {f5 : Addr} {od5 an5 : Option Addr} {sl5 : Array (Option Value)} {oc5 kV5 dc5 pm5 cd5 ct5 : Value}
    (a5 : PySem.W.nsIn K mainGlobals "read" = some (some (.ref f5))) (l5 : K.lookup f5 = some ⟨oc5, od5, .func (PySem.W.fnOf "read" "read" (defArgs (topS 18)) (defBody (topS 18)) (defScope (topS 18)) .none kV5 dc5 pm5 an5 cd5 ct5), sl5⟩) (k5 : PySem.W.codeIn K cd5 "read" = true) (q5 : PySem.W.keepIn K (.ref f5) = true)
    {f6 : Addr} {od6 an6 : Option Addr} {sl6 : Array (Option Value)} {oc6 kV6 dc6 pm6 cd6 ct6 : Value}
    (a6 : PySem.W.nsIn K mainGlobals "_law_cell_at" = some (some (.ref f6))) (l6 : K.lookup f6 = some ⟨oc6, od6, .func (PySem.W.fnOf "_law_cell_at" "_law_cell_at" (defArgs (topS 20)) (defBody (topS 20)) (defScope (topS 20)) .none kV6 dc6 pm6 an6 cd6 ct6), sl6⟩) (k6 : PySem.W.codeIn K cd6 "_law_cell_at" = true) (q6 : PySem.W.keepIn K (.ref f6) = true)
    {f7 : Addr} {od7 an7 : Option Addr} {sl7 : Array (Option Value)} {oc7 kV7 dc7 pm7 cd7 ct7 : Value}
    (a7 : PySem.W.nsIn K mainGlobals "_law_next" = some (some (.ref f7))) (l7 : K.lookup f7 = some ⟨oc7, od7, .func (PySem.W.fnOf "_law_next" "_law_next" (defArgs (topS 21)) (defBody (topS 21)) (defScope (topS 21)) .none kV7 dc7 pm7 an7 cd7 ct7), sl7⟩) (k7 : PySem.W.codeIn K cd7 "_law_next" = true) (q7 : PySem.W.keepIn K (.ref f7) = true)
    {f8 : Addr} {od8 an8 : Option Addr} {sl8 : Array (Option Value)} {oc8 kV8 dc8 pm8 cd8 ct8 : Value}
    (a8 : PySem.W.nsIn K mainGlobals "_law_die" = some (some (.ref f8))) (l8 : K.lookup f8 = some ⟨oc8, od8, .func (PySem.W.fnOf "_law_die" "_law_die" (defArgs (topS 22)) (defBody (topS 22)) (defScope (topS 22)) .none kV8 dc8 pm8 an8 cd8 ct8), sl8⟩) (k8 : PySem.W.codeIn K cd8 "_law_die" = true) (q8 : PySem.W.keepIn K (.ref f8) = true)
    {f9 : Addr} {od9 an9 : Option Addr} {sl9 : Array (Option Value)} {oc9 kV9 dc9 pm9 cd9 ct9 : Value}
    (a9 : PySem.W.nsIn K mainGlobals "_law_thrown" = some (some (.ref f9))) (l9 : K.lookup f9 = some ⟨oc9, od9, .func (PySem.W.fnOf "_law_thrown" "_law_thrown" (defArgs (topS 23)) (defBody (topS 23)) (defScope (topS 23)) .none kV9 dc9 pm9 an9 cd9 ct9), sl9⟩) (k9 : PySem.W.codeIn K cd9 "_law_thrown" = true) (q9 : PySem.W.keepIn K (.ref f9) = true)
    {f10 : Addr} {od10 an10 : Option Addr} {sl10 : Array (Option Value)} {oc10 kV10 dc10 pm10 cd10 ct10 : Value}
    (a10 : PySem.W.nsIn K mainGlobals "_law_word" = some (some (.ref f10))) (l10 : K.lookup f10 = some ⟨oc10, od10, .func (PySem.W.fnOf "_law_word" "_law_word" (defArgs (topS 24)) (defBody (topS 24)) (defScope (topS 24)) .none kV10 dc10 pm10 an10 cd10 ct10), sl10⟩) (k10 : PySem.W.codeIn K cd10 "_law_word" = true) (q10 : PySem.W.keepIn K (.ref f10) = true)
    {f11 : Addr} {od11 an11 : Option Addr} {sl11 : Array (Option Value)} {oc11 kV11 dc11 pm11 cd11 ct11 : Value}
    (a11 : PySem.W.nsIn K mainGlobals "_law_words" = some (some (.ref f11))) (l11 : K.lookup f11 = some ⟨oc11, od11, .func (PySem.W.fnOf "_law_words" "_law_words" (defArgs (topS 25)) (defBody (topS 25)) (defScope (topS 25)) .none kV11 dc11 pm11 an11 cd11 ct11), sl11⟩) (k11 : PySem.W.codeIn K cd11 "_law_words" = true) (q11 : PySem.W.keepIn K (.ref f11) = true)
    {f12 : Addr} {od12 an12 : Option Addr} {sl12 : Array (Option Value)} {oc12 kV12 dc12 pm12 cd12 ct12 : Value}
    (a12 : PySem.W.nsIn K mainGlobals "_law_kind" = some (some (.ref f12))) (l12 : K.lookup f12 = some ⟨oc12, od12, .func (PySem.W.fnOf "_law_kind" "_law_kind" (defArgs (topS 26)) (defBody (topS 26)) (defScope (topS 26)) .none kV12 dc12 pm12 an12 cd12 ct12), sl12⟩) (k12 : PySem.W.codeIn K cd12 "_law_kind" = true) (q12 : PySem.W.keepIn K (.ref f12) = true)
    {f13 : Addr} {od13 an13 : Option Addr} {sl13 : Array (Option Value)} {oc13 kV13 dc13 pm13 cd13 ct13 : Value}
    (a13 : PySem.W.nsIn K mainGlobals "_law_tried" = some (some (.ref f13))) (l13 : K.lookup f13 = some ⟨oc13, od13, .func (PySem.W.fnOf "_law_tried" "_law_tried" (defArgs (topS 27)) (defBody (topS 27)) (defScope (topS 27)) .none kV13 dc13 pm13 an13 cd13 ct13), sl13⟩) (k13 : PySem.W.codeIn K cd13 "_law_tried" = true) (q13 : PySem.W.keepIn K (.ref f13) = true)
    {f14 : Addr} {od14 an14 : Option Addr} {sl14 : Array (Option Value)} {oc14 kV14 dc14 pm14 cd14 ct14 : Value}
    (a14 : PySem.W.nsIn K mainGlobals "_law_line" = some (some (.ref f14))) (l14 : K.lookup f14 = some ⟨oc14, od14, .func (PySem.W.fnOf "_law_line" "_law_line" (defArgs (topS 28)) (defBody (topS 28)) (defScope (topS 28)) .none kV14 dc14 pm14 an14 cd14 ct14), sl14⟩) (k14 : PySem.W.codeIn K cd14 "_law_line" = true) (q14 : PySem.W.keepIn K (.ref f14) = true)
    {f15 : Addr} {od15 an15 : Option Addr} {sl15 : Array (Option Value)} {oc15 kV15 dc15 pm15 cd15 ct15 : Value}
    (a15 : PySem.W.nsIn K mainGlobals "_law_spoiled" = some (some (.ref f15))) (l15 : K.lookup f15 = some ⟨oc15, od15, .func (PySem.W.fnOf "_law_spoiled" "_law_spoiled" (defArgs (topS 29)) (defBody (topS 29)) (defScope (topS 29)) .none kV15 dc15 pm15 an15 cd15 ct15), sl15⟩) (k15 : PySem.W.codeIn K cd15 "_law_spoiled" = true) (q15 : PySem.W.keepIn K (.ref f15) = true)
    {f16 : Addr} {od16 an16 : Option Addr} {sl16 : Array (Option Value)} {oc16 kV16 dc16 pm16 cd16 ct16 : Value}
    (a16 : PySem.W.nsIn K mainGlobals "law" = some (some (.ref f16))) (l16 : K.lookup f16 = some ⟨oc16, od16, .func (PySem.W.fnOf "law" "law" (defArgs (topS 30)) (defBody (topS 30)) (defScope (topS 30)) .none kV16 dc16 pm16 an16 cd16 ct16), sl16⟩) (k16 : PySem.W.codeIn K cd16 "law" = true) (q16 : PySem.W.keepIn K (.ref f16) = true)
    (z_len : PySem.W.nsIn K mainGlobals "len" = some none)    (z_abs : PySem.W.nsIn K mainGlobals "abs" = some none)    (z_min : PySem.W.nsIn K mainGlobals "min" = some none)    (z_sum : PySem.W.nsIn K mainGlobals "sum" = some none)    (z_range : PySem.W.nsIn K mainGlobals "range" = some none)    (z_sorted : PySem.W.nsIn K mainGlobals "sorted" = some none)    (z_list : PySem.W.nsIn K mainGlobals "list" = some none)    (z_int : PySem.W.nsIn K mainGlobals "int" = some none)    (z_str : PySem.W.nsIn K mainGlobals "str" = some none)    (z_tuple : PySem.W.nsIn K mainGlobals "tuple" = some none)    (z_bool : PySem.W.nsIn K mainGlobals "bool" = some none)    (z_isinstance : PySem.W.nsIn K mainGlobals "isinstance" = some none)    (z_any : PySem.W.nsIn K mainGlobals "any" = some none)    (z_all : PySem.W.nsIn K mainGlobals "all" = some none)
    {t_SIGNS : Tok} (y_SIGNS : PySem.W.nsIn K mainGlobals "SIGNS" = some (some (.str "abcd" t_SIGNS)))
    {t_FIGURES : Tok} (y_FIGURES : PySem.W.nsIn K mainGlobals "FIGURES" = some (some (.str "123456789" t_FIGURES)))
    {c_base c_die c_word c_race c_row c_over c_many c_note : Addr}
    (n_base : PySem.W.nsIn K mainGlobals "RaceError" = some (some (.ref c_base)))
    (n_die : PySem.W.nsIn K mainGlobals "NoDie" = some (some (.ref c_die))) (x_die : PySem.W.excIn K c_die [.type "ValueError", .type "Exception", .type "BaseException", .type "object"] "ValueError.__new__" = true) (q_die : PySem.W.keepIn K (.ref c_die) = true) (s_die : PySem.W.subIn K (.ref c_die) (.type "BaseException") = some true) (t_die : PySem.W.typeIn K (.ref c_die) = some (.type "type"))
    (n_word : PySem.W.nsIn K mainGlobals "NoWord" = some (some (.ref c_word))) (x_word : PySem.W.excIn K c_word [.type "ValueError", .type "Exception", .type "BaseException", .type "object"] "ValueError.__new__" = true) (q_word : PySem.W.keepIn K (.ref c_word) = true) (s_word : PySem.W.subIn K (.ref c_word) (.type "BaseException") = some true) (t_word : PySem.W.typeIn K (.ref c_word) = some (.type "type"))
    (n_race : PySem.W.nsIn K mainGlobals "NoRace" = some (some (.ref c_race))) (x_race : PySem.W.excIn K c_race [.type "ValueError", .type "Exception", .type "BaseException", .type "object"] "ValueError.__new__" = true) (q_race : PySem.W.keepIn K (.ref c_race) = true) (s_race : PySem.W.subIn K (.ref c_race) (.type "BaseException") = some true) (t_race : PySem.W.typeIn K (.ref c_race) = some (.type "type"))
    (n_row : PySem.W.nsIn K mainGlobals "NoRow" = some (some (.ref c_row))) (x_row : PySem.W.excIn K c_row [.type "ValueError", .type "Exception", .type "BaseException", .type "object"] "ValueError.__new__" = true) (q_row : PySem.W.keepIn K (.ref c_row) = true) (s_row : PySem.W.subIn K (.ref c_row) (.type "BaseException") = some true) (t_row : PySem.W.typeIn K (.ref c_row) = some (.type "type"))
    (n_over : PySem.W.nsIn K mainGlobals "Over" = some (some (.ref c_over))) (x_over : PySem.W.excIn K c_over [.type "ValueError", .type "Exception", .type "BaseException", .type "object"] "ValueError.__new__" = true) (q_over : PySem.W.keepIn K (.ref c_over) = true) (s_over : PySem.W.subIn K (.ref c_over) (.type "BaseException") = some true) (t_over : PySem.W.typeIn K (.ref c_over) = some (.type "type"))
    (n_many : PySem.W.nsIn K mainGlobals "TooMany" = some (some (.ref c_many))) (x_many : PySem.W.excIn K c_many [.type "ValueError", .type "Exception", .type "BaseException", .type "object"] "ValueError.__new__" = true) (q_many : PySem.W.keepIn K (.ref c_many) = true) (s_many : PySem.W.subIn K (.ref c_many) (.type "BaseException") = some true) (t_many : PySem.W.typeIn K (.ref c_many) = some (.type "type"))
    (n_note : PySem.W.nsIn K mainGlobals "NoNote" = some (some (.ref c_note))) (x_note : PySem.W.excIn K c_note [.type "ValueError", .type "Exception", .type "BaseException", .type "object"] "ValueError.__new__" = true) (q_note : PySem.W.keepIn K (.ref c_note) = true) (s_note : PySem.W.subIn K (.ref c_note) (.type "BaseException") = some true) (t_note : PySem.W.typeIn K (.ref c_note) = some (.type "type"))
    (sb_base : PySem.W.subIn K (.ref c_base) (.type "BaseException") = some true) (hd_base : PySem.W.hasDictIn K c_base = true) (ty_base : PySem.W.typeIn K (.ref c_base) = some (.type "type"))
    (z_ValueError : PySem.W.nsIn K mainGlobals "ValueError" = some none)
    (e_die : PySem.W.exmAny K (.ref c_die) [.ref c_die, .ref c_word, .ref c_race] = some true)    (e_word : PySem.W.exmAny K (.ref c_word) [.ref c_die, .ref c_word, .ref c_race] = some true)    (e_race : PySem.W.exmAny K (.ref c_race) [.ref c_die, .ref c_word, .ref c_race] = some true)
    (h0_note : PySem.W.findIn K (.ref c_note) "__getattribute__" = some (some (.builtin "BaseException.__getattribute__")))    (h1_note : PySem.W.findIn K (.ref c_note) "__getattr__" = some none)    (h2_note : PySem.W.subIn K (.ref c_note) (.type "BaseException") = some true)    (h3_note : PySem.W.hasDictIn K c_note = true)    (h4_note : PySem.W.findIn K (.ref c_note) "__class__" = some (some (.builtin "object.__class__")))    (h5_note : PySem.W.specialIn K (.builtin "object.__class__") "__get__" = some (some (.builtin "getset_descriptor.__get__")))    (h6_note : PySem.W.takesIn K (.builtin "object.__class__") = some true)    (h7_note : PySem.W.mroIn K c_note (.type "object") = some true)
    (k0_note : PySem.W.kitOne K (.ref c_note) (.ref c_die) = some false)    (k1_note : PySem.W.kitOne K (.ref c_note) (.ref c_word) = some false)    (k2_note : PySem.W.kitOne K (.ref c_note) (.ref c_race) = some false)    (k3_note : PySem.W.kitOne K (.ref c_note) (.ref c_row) = some false)    (k4_note : PySem.W.kitOne K (.ref c_note) (.ref c_over) = some false)    (k5_note : PySem.W.kitOne K (.ref c_note) (.ref c_many) = some false)    (k6_note : PySem.W.kitOne K (.ref c_note) (.ref c_note) = some true)
    (kv_note : PySem.W.kitOne K (.ref c_note) (.type "ValueError") = some true) (ex_note : PySem.W.subIn K (.ref c_note) (.ref c_base) = some true)
    : ∃ fd : FuncData, (∀ (s : Shared) (v : Value), BindsTo s fd ⟨[v], []⟩ [("script", v)]) ∧ ∀ base : Heap, K.In base → base.Ns mainGlobals mg → FnOk P w K mg base (L2.CX P w) 6 fa fd ["script"] (spD K S_law) := by
  cases (hfa.symm.trans (PySem.W.mg_of HK G a16))
  have B : Bts mg := ⟨PySem.W.mg_none_of HK G z_len, PySem.W.mg_none_of HK G z_abs, PySem.W.mg_none_of HK G z_min, PySem.W.mg_none_of HK G z_sum, PySem.W.mg_none_of HK G z_range, PySem.W.mg_none_of HK G z_sorted, PySem.W.mg_none_of HK G z_list, PySem.W.mg_none_of HK G z_int, PySem.W.mg_none_of HK G z_str, PySem.W.mg_none_of HK G z_tuple, PySem.W.mg_none_of HK G z_bool, PySem.W.mg_none_of HK G z_isinstance, PySem.W.mg_none_of HK G z_any, PySem.W.mg_none_of HK G z_all⟩
  have C : Clss K mg ⟨c_base, c_die, c_word, c_race, c_row, c_over, c_many, c_note⟩ := ⟨PySem.W.mg_of HK G n_base, ⟨x_die, PySem.W.mg_of HK G n_die, q_die, s_die, t_die⟩, ⟨x_word, PySem.W.mg_of HK G n_word, q_word, s_word, t_word⟩, ⟨x_race, PySem.W.mg_of HK G n_race, q_race, s_race, t_race⟩, ⟨x_row, PySem.W.mg_of HK G n_row, q_row, s_row, t_row⟩, ⟨x_over, PySem.W.mg_of HK G n_over, q_over, s_over, t_over⟩, ⟨x_many, PySem.W.mg_of HK G n_many, q_many, s_many, t_many⟩, ⟨x_note, PySem.W.mg_of HK G n_note, q_note, s_note, t_note⟩, PySem.W.mg_none_of HK G z_ValueError⟩
  have k_note : KindC K ⟨c_base, c_die, c_word, c_race, c_row, c_over, c_many, c_note⟩ c_note 6 := ⟨⟨h0_note, h1_note, h2_note, h3_note, h4_note, h5_note, h6_note, h7_note⟩, k0_note, k1_note, k2_note, k3_note, k4_note, k5_note, k6_note, kv_note, PySem.W.exm_ref sb_base hd_base ty_base ex_note, by decide⟩
  have N3 : Note3 K ⟨c_base, c_die, c_word, c_race, c_row, c_over, c_many, c_note⟩ := ⟨e_die, e_word, e_race⟩
  have g_SIGNS : GlG K mg "SIGNS" (sD [97, 98, 99, 100]) := ⟨_, .str "abcd", PySem.W.mg_of HK G y_SIGNS, ⟨_, rfl⟩, fun H => rp_str.mpr (by rfl)⟩
  have g_FIGURES : GlG K mg "FIGURES" (sD [49, 50, 51, 52, 53, 54, 55, 56, 57]) := ⟨_, .str "123456789", PySem.W.mg_of HK G y_FIGURES, ⟨_, rfl⟩, fun H => rp_str.mpr (by rfl)⟩
  have F0 := fun_mk (st := topS 11) l0 k0 q0
  have D0 : DfG K mg "ask_die" (topS 11) ["die"] := ⟨f0, _, F0, PySem.W.mg_of HK G a0, F0.binds fun _ _ _ _ _ _ us hl => match us, hl with | [_], _ => rfl⟩
  have F1 := fun_mk (st := topS 12) l1 k1 q1
  have D1 : DfG K mg "is_thrown" (topS 12) ["die", "text"] := ⟨f1, _, F1, PySem.W.mg_of HK G a1, F1.binds fun _ _ _ _ _ _ us hl => match us, hl with | [_, _], _ => rfl⟩
  have F2 := fun_mk (st := topS 13) l2 k2 q2
  have D2 : DfG K mg "ask_word" (topS 13) ["die", "word"] := ⟨f2, _, F2, PySem.W.mg_of HK G a2, F2.binds fun _ _ _ _ _ _ us hl => match us, hl with | [_, _], _ => rfl⟩
  have F3 := fun_mk (st := topS 14) l3 k3 q3
  have D3 : DfG K mg "ask_race" (topS 14) ["die", "words"] := ⟨f3, _, F3, PySem.W.mg_of HK G a3, F3.binds fun _ _ _ _ _ _ us hl => match us, hl with | [_, _], _ => rfl⟩
  have F4 := fun_mk (st := topS 17) l4 k4 q4
  have D4 : DfG K mg "weight_of" (topS 17) ["word"] := ⟨f4, _, F4, PySem.W.mg_of HK G a4, F4.binds fun _ _ _ _ _ _ us hl => match us, hl with | [_], _ => rfl⟩
  have F5 := fun_mk (st := topS 18) l5 k5 q5
  have D5 : DfG K mg "read" (topS 18) ["text"] := ⟨f5, _, F5, PySem.W.mg_of HK G a5, F5.binds fun _ _ _ _ _ _ us hl => match us, hl with | [_], _ => rfl⟩
  have F6 := fun_mk (st := topS 20) l6 k6 q6
  have D6 : DfG K mg "_law_cell_at" (topS 20) ["script", "k"] := ⟨f6, _, F6, PySem.W.mg_of HK G a6, F6.binds fun _ _ _ _ _ _ us hl => match us, hl with | [_, _], _ => rfl⟩
  have F7 := fun_mk (st := topS 21) l7 k7 q7
  have D7 : DfG K mg "_law_next" (topS 21) ["seed"] := ⟨f7, _, F7, PySem.W.mg_of HK G a7, F7.binds fun _ _ _ _ _ _ us hl => match us, hl with | [_], _ => rfl⟩
  have F8 := fun_mk (st := topS 22) l8 k8 q8
  have D8 : DfG K mg "_law_die" (topS 22) ["cell"] := ⟨f8, _, F8, PySem.W.mg_of HK G a8, F8.binds fun _ _ _ _ _ _ us hl => match us, hl with | [_], _ => rfl⟩
  have F9 := fun_mk (st := topS 23) l9 k9 q9
  have D9 : DfG K mg "_law_thrown" (topS 23) ["cell", "many", "signs"] := ⟨f9, _, F9, PySem.W.mg_of HK G a9, F9.binds fun _ _ _ _ _ _ us hl => match us, hl with | [_, _, _], _ => rfl⟩
  have F10 := fun_mk (st := topS 24) l10 k10 q10
  have D10 : DfG K mg "_law_word" (topS 24) ["cell", "signs"] := ⟨f10, _, F10, PySem.W.mg_of HK G a10, F10.binds fun _ _ _ _ _ _ us hl => match us, hl with | [_, _], _ => rfl⟩
  have F11 := fun_mk (st := topS 25) l11 k11 q11
  have D11 : DfG K mg "_law_words" (topS 25) ["script", "at", "signs"] := ⟨f11, _, F11, PySem.W.mg_of HK G a11, F11.binds fun _ _ _ _ _ _ us hl => match us, hl with | [_, _, _], _ => rfl⟩
  have F12 := fun_mk (st := topS 26) l12 k12 q12
  have D12 : DfG K mg "_law_kind" (topS 26) ["e"] := ⟨f12, _, F12, PySem.W.mg_of HK G a12, F12.binds fun _ _ _ _ _ _ us hl => match us, hl with | [_], _ => rfl⟩
  have F13 := fun_mk (st := topS 27) l13 k13 q13
  have D13 : DfG K mg "_law_tried" (topS 27) ["text"] := ⟨f13, _, F13, PySem.W.mg_of HK G a13, F13.binds fun _ _ _ _ _ _ us hl => match us, hl with | [_], _ => rfl⟩
  have F14 := fun_mk (st := topS 28) l14 k14 q14
  have D14 : DfG K mg "_law_line" (topS 28) ["weights", "words"] := ⟨f14, _, F14, PySem.W.mg_of HK G a14, F14.binds fun _ _ _ _ _ _ us hl => match us, hl with | [_, _], _ => rfl⟩
  have F15 := fun_mk (st := topS 29) l15 k15 q15
  have D15 : DfG K mg "_law_spoiled" (topS 29) ["weights", "words", "fault", "cell"] := ⟨f15, _, F15, PySem.W.mg_of HK G a15, F15.binds fun _ _ _ _ _ _ us hl => match us, hl with | [_, _, _, _], _ => rfl⟩
  have F16 := fun_mk (st := topS 30) l16 k16 q16
  refine ⟨PySem.W.fnOf "law" "law" (defArgs (topS 30)) (defBody (topS 30)) (defScope (topS 30)) .none kV16 dc16 pm16 an16 cd16 ct16, fun s v => .of_eq rfl, fun base _ _ => ?_⟩
  have n_ask_die := ok_ask_die (P := P) (w := w) (base := base) D0 B C
  have c_is_thrown := ok_is_thrown (P := P) (w := w) (base := base) D1 B C g_SIGNS
  have n_ask_word := ok_ask_word (P := P) (w := w) (base := base) D2 B C c_is_thrown
  have n_ask_race := ok_ask_race (P := P) (w := w) (base := base) D3 B C n_ask_die n_ask_word
  have c_weight_of := ok_weight_of (P := P) (w := w) (base := base) D4 B C g_FIGURES
  have c_read := ok_read (P := P) (w := w) (base := base) D5 B C c_weight_of n_ask_race N3
  have c__law_cell_at := ok__law_cell_at (P := P) (w := w) (base := base) D6 B C
  have c__law_next := ok__law_next (P := P) (w := w) (base := base) D7 B C
  have c__law_die := ok__law_die (P := P) (w := w) (base := base) D8 B C c__law_next
  have c__law_thrown := ok__law_thrown (P := P) (w := w) (base := base) D9 B C c__law_next
  have c__law_word := ok__law_word (P := P) (w := w) (base := base) D10 B C c__law_thrown
  have c__law_words := ok__law_words (P := P) (w := w) (base := base) D11 B C c__law_word c__law_cell_at
  have c__law_kind_note := ok__law_kind (P := P) (w := w) (base := base) D12 B C k_note
  have c__law_tried := ok__law_tried (P := P) (w := w) (base := base) D13 B C c_read c__law_kind_note k_note
  have c__law_line := ok__law_line (P := P) (w := w) (base := base) D14 B C
  have c__law_spoiled := ok__law_spoiled (P := P) (w := w) (base := base) D15 B C c__law_line
  have c_law := ok_law (P := P) (w := w) (base := base) F16 B C c__law_die c__law_words c__law_spoiled c__law_cell_at c__law_tried c__law_line
  exact c_law
end Vs
open PySem PySem.W PyProof.Rows
set_option maxHeartbeats 0 in
theorem PySem.Challenge.cw_wordrace_k20_unread_holds : PySem.Challenge.rw_wordrace_k20_unread.Holds := by
  w_on; o_law; k_head; (case hw => w_witness2)
  k_fill
  refine L2.walk_of (l := PySem.Challenge.rw_wordrace_k20_unread) (n := 63) (k := 6) (x := "script") (CX := fun w => L2.CX PySem.Challenge.pw_wordrace_k20_unread w) (sp := fun w => Vs.spD _ Vs.S_law) rfl (by decide) rfl ⟨rfl, by decide, by decide⟩ (fun w h Y => PySem.W.kIn_of Y) ?F (fun _ _ _ _ hl _ hS => Vs.hsp_law hl hS) (fun _ _ _ _ _ h => Vs.hcx_law h)
  case F =>
    intro w mg fa h KX G hmg
    refine' Vs.all_mk KX G hmg ?a0 ?l0 ?k0 ?q0 ?a1 ?l1 ?k1 ?q1 ?a2 ?l2 ?k2 ?q2 ?a3 ?l3 ?k3 ?q3 ?a4 ?l4 ?k4 ?q4 ?a5 ?l5 ?k5 ?q5 ?a6 ?l6 ?k6 ?q6 ?a7 ?l7 ?k7 ?q7 ?a8 ?l8 ?k8 ?q8 ?a9 ?l9 ?k9 ?q9 ?a10 ?l10 ?k10 ?q10 ?a11 ?l11 ?k11 ?q11 ?a12 ?l12 ?k12 ?q12 ?a13 ?l13 ?k13 ?q13 ?a14 ?l14 ?k14 ?q14 ?a15 ?l15 ?k15 ?q15 ?a16 ?l16 ?k16 ?q16 ?z_len ?z_abs ?z_min ?z_sum ?z_range ?z_sorted ?z_list ?z_int ?z_str ?z_tuple ?z_bool ?z_isinstance ?z_any ?z_all ?y_SIGNS ?y_FIGURES ?n_base ?n_die ?x_die ?q_die ?s_die ?t_die ?n_word ?x_word ?q_word ?s_word ?t_word ?n_race ?x_race ?q_race ?s_race ?t_race ?n_row ?x_row ?q_row ?s_row ?t_row ?n_over ?x_over ?q_over ?s_over ?t_over ?n_many ?x_many ?q_many ?s_many ?t_many ?n_note ?x_note ?q_note ?s_note ?t_note ?sb_base ?hd_base ?ty_base ?z_ValueError ?e_die ?e_word ?e_race ?h0_note ?h1_note ?h2_note ?h3_note ?h4_note ?h5_note ?h6_note ?h7_note ?k0_note ?k1_note ?k2_note ?k3_note ?k4_note ?k5_note ?k6_note ?kv_note ?ex_note
    (case a0 => k_is); (case l0 => k_is); (case k0 => k_is); (case q0 => k_is)
    (case a1 => k_is); (case l1 => k_is); (case k1 => k_is); (case q1 => k_is)
    (case a2 => k_is); (case l2 => k_is); (case k2 => k_is); (case q2 => k_is)
    (case a3 => k_is); (case l3 => k_is); (case k3 => k_is); (case q3 => k_is)
    (case a4 => k_is); (case l4 => k_is); (case k4 => k_is); (case q4 => k_is)
    (case a5 => k_is); (case l5 => k_is); (case k5 => k_is); (case q5 => k_is)
    (case a6 => k_is); (case l6 => k_is); (case k6 => k_is); (case q6 => k_is)
    (case a7 => k_is); (case l7 => k_is); (case k7 => k_is); (case q7 => k_is)
    (case a8 => k_is); (case l8 => k_is); (case k8 => k_is); (case q8 => k_is)
    (case a9 => k_is); (case l9 => k_is); (case k9 => k_is); (case q9 => k_is)
    (case a10 => k_is); (case l10 => k_is); (case k10 => k_is); (case q10 => k_is)
    (case a11 => k_is); (case l11 => k_is); (case k11 => k_is); (case q11 => k_is)
    (case a12 => k_is); (case l12 => k_is); (case k12 => k_is); (case q12 => k_is)
    (case a13 => k_is); (case l13 => k_is); (case k13 => k_is); (case q13 => k_is)
    (case a14 => k_is); (case l14 => k_is); (case k14 => k_is); (case q14 => k_is)
    (case a15 => k_is); (case l15 => k_is); (case k15 => k_is); (case q15 => k_is)
    (case a16 => k_is); (case l16 => k_is); (case k16 => k_is); (case q16 => k_is)
    (case z_len => k_is); (case z_abs => k_is); (case z_min => k_is); (case z_sum => k_is)
    (case z_range => k_is); (case z_sorted => k_is); (case z_list => k_is); (case z_int => k_is)
    (case z_str => k_is); (case z_tuple => k_is); (case z_bool => k_is); (case z_isinstance => k_is)
    (case z_any => k_is); (case z_all => k_is); (case y_SIGNS => k_is); (case y_FIGURES => k_is)
    (case n_base => k_is); (case n_die => k_is); (case x_die => k_exc); (case q_die => k_is)
    (case s_die => k_is); (case t_die => k_is); (case n_word => k_is); (case x_word => k_exc)
    (case q_word => k_is); (case s_word => k_is); (case t_word => k_is); (case n_race => k_is)
    (case x_race => k_exc); (case q_race => k_is); (case s_race => k_is); (case t_race => k_is)
    (case n_row => k_is); (case x_row => k_exc); (case q_row => k_is); (case s_row => k_is)
    (case t_row => k_is); (case n_over => k_is); (case x_over => k_exc); (case q_over => k_is)
    (case s_over => k_is); (case t_over => k_is); (case n_many => k_is); (case x_many => k_exc)
    (case q_many => k_is); (case s_many => k_is); (case t_many => k_is); (case n_note => k_is)
    (case x_note => k_exc); (case q_note => k_is); (case s_note => k_is); (case t_note => k_is)
    (case sb_base => k_is); (case hd_base => k_is); (case ty_base => k_is); (case z_ValueError => k_is)
    (case e_die => kts_exm); (case e_word => kts_exm); (case e_race => kts_exm); (case h0_note => k_is)
    (case h1_note => k_is); (case h2_note => k_is); (case h3_note => k_is); (case h4_note => k_is)
    (case h5_note => k_is); (case h6_note => k_is); (case h7_note => k_is); (case k0_note => kit_is)
    (case k1_note => kit_is); (case k2_note => kit_is); (case k3_note => kit_is); (case k4_note => kit_is)
    (case k5_note => kit_is); (case k6_note => kit_is); (case kv_note => kit_is); (case ex_note => k_is)
