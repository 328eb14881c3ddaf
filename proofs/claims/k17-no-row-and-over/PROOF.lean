import PyProof.Rows.All
import HandS.ForMost
import HandS.Conv
import HandS.IsInst
import HandS.Wide
import HandS.Exc
import HandS.TryOnly
import HandS.ExcOwn
import HandS.WordsExc
import HandS.Replace
import KE.SortData
import HandS.ExcIs
import KE.RegKIsAll
import HandS.HotCalls
import PyProof.Rows.CountFlat
import PyProof.Rows.SeqMore
import PySem.Challenge.RW_wordrace_k17_no_row_and_over
set_option Elab.async false
set_option linter.all false
set_option maxRecDepth 100000
set_option maxHeartbeats 2000000
/-! A layer of values over the hand layer: each expression gives a datum, each block an outcome; the heap is told once, here. -/
namespace Vs
open PySem PySem.Spec L2

/-! ### heaps: F what is fixed for good, H all -/
structure Ext (F H F' H' : Hp) : Prop where
  f : Same F F'
  h : Same H H'
  fh : Same F' H'
  own : ∀ a, F a = none → H a ≠ none → F' a = none
theorem Ext.refl {F H : Hp} (s : Same F H) : Ext F H F H := ⟨Same.refl _, Same.refl _, s, fun _ e _ => e⟩
theorem Ext.trans {F H F1 H1 F2 H2 : Hp} (a : Ext F H F1 H1) (b : Ext F1 H1 F2 H2) : Ext F H F2 H2 :=
  ⟨a.f.trans b.f, a.h.trans b.h, b.fh, fun c e n => b.own c (a.own c e n) (fun z => by
    cases q : H c with
    | none => exact n q
    | some o => rw [a.h c o q] at z; cases z)⟩
theorem same_upd {H : Hp} {p : Addr} {o : HO} (h : H p = none) : Same H (upd H p o) := fun b x e => by
  rw [upd_ne (ne_of_none e h)]
  exact e
theorem same_upd2 {F H : Hp} {p : Addr} {o : HO} (s : Same F H) : Same (upd F p o) (upd H p o) := fun b x e => by
  by_cases q : b = p
  · subst q; rw [upd_same] at e ⊢; exact e
  · rw [upd_ne q] at e ⊢; exact s b x e
/-- a new object, fixed at once -/
theorem Ext.new {F H : Hp} {p : Addr} {o : HO} (s : Same F H) (h : H p = none) : Ext F H (upd F p o) (upd H p o) :=
  ⟨same_upd (s.free h), same_upd h, same_upd2 s, fun a e n => by
    rw [upd_ne (fun z => n (by rw [z]; exact h))]; exact e⟩
/-- a new object, not fixed -/
theorem Ext.newO {F H : Hp} {p : Addr} {o : HO} (s : Same F H) (h : H p = none) : Ext F H F (upd H p o) :=
  ⟨Same.refl _, same_upd h, s.trans (same_upd h), fun a e n => e⟩
/-- the whole grows, nothing is fixed -/
theorem Ext.grow {F H H' : Hp} (s : Same F H) (h : Same H H') : Ext F H F H' := ⟨Same.refl _, h, s.trans h, fun _ e _ => e⟩

/-! ### what a value stands for -/
abbrev D := PyData
theorem sqT_mono {K : PySem.W.Frag} {H H' : Hp} {a : Addr} {xs : List V} (e : Same H H') (h : SqT K H a xs) : SqT K H' a xs := by
  rcases h with (h | ⟨o, h⟩) | h
  · exact .inl (.inl (e _ _ h))
  · exact .inl (.inr ⟨o, e _ _ h⟩)
  · exact .inr h
mutual
theorem dp_mono {K : PySem.W.Frag} {H H' : Hp} (e : Same H H') : ∀ {v : V} {d : D}, Dp K H v d → Dp K H' v d
  | _, _, .non => .non
  | _, _, .bl b => .bl b
  | _, _, .int i => .int i
  | _, _, .str x => .str x
  | _, _, .lst h r => .lst (e.seq h) (dpAll_mono e r)
  | _, _, .tup h r => .tup (sqT_mono e h) (dpAll_mono e r)
theorem dpAll_mono {K : PySem.W.Frag} {H H' : Hp} (e : Same H H') : ∀ {vs : List V} {ds : List D}, DpAll K H vs ds → DpAll K H' vs ds
  | _, _, .nil => .nil
  | _, _, .cons h r => .cons (dp_mono e h) (dpAll_mono e r)
end
abbrev KvR (K : PySem.W.Frag) (H : Hp) : List (Key × V) → List (Str × D) → Prop := Paired fun p q => p.1 = Sum.inr q.1 ∧ Dp K H p.2 q.2
theorem kvR_mono {K : PySem.W.Frag} {H H' : Hp} (e : Same H H') : ∀ {ks : List (Key × V)} {kv : List (Str × D)}, KvR K H ks kv → KvR K H' ks kv
  | _, _, .nil => .nil
  | _, _, .cons h r => .cons ⟨h.1, dp_mono e h.2⟩ (kvR_mono e r)
/-- a dict's datum -/
def mD (kv : List (Str × D)) : D := .dict (kv.map fun p => (.str p.1, p.2))
def Rp (K : PySem.W.Frag) (H : Hp) (v : V) : D → Prop
  | .dict kvs => ∃ (a : Addr) (ks : List (Key × V)) (kv : List (Str × D)), mD kv = .dict kvs ∧ v = .ref a ∧ H a = some (.dK ks) ∧ KvR K H ks kv
  | d => Dp K H v d
theorem rp_of {K : PySem.W.Frag} {H : Hp} {v : V} {d : D} (h : Dp K H v d) : Rp K H v d := by
  cases h <;> constructor <;> assumption
theorem rp_int {K : PySem.W.Frag} {H : Hp} {v : V} {i : Int} : Rp K H v (.int i) ↔ v = .int i := ⟨fun h => by cases (show Dp K H v (.int i) from h); rfl, fun h => by subst h; exact Dp.int i⟩
theorem rp_str {K : PySem.W.Frag} {H : Hp} {v : V} {x : Str} : Rp K H v (.str x) ↔ v = .str x := ⟨fun h => by cases (show Dp K H v (.str x) from h); rfl, fun h => by subst h; exact Dp.str x⟩
theorem rp_bl {K : PySem.W.Frag} {H : Hp} {v : V} {b : Bool} : Rp K H v (.bool b) ↔ v = .bl b := ⟨fun h => by cases (show Dp K H v (.bool b) from h); rfl, fun h => by subst h; exact Dp.bl b⟩
theorem rp_non {K : PySem.W.Frag} {H : Hp} {v : V} : Rp K H v .none ↔ v = .non := ⟨fun h => by cases (show Dp K H v .none from h); rfl, fun h => by subst h; exact Dp.non⟩
theorem rp_lst {K : PySem.W.Frag} {H : Hp} {v : V} {ds : List D} : Rp K H v (.list ds) ↔ ∃ a vs, v = .ref a ∧ SqL K H a vs ∧ DpAll K H vs ds := ⟨fun h => by
  cases (show Dp K H v (.list ds) from h) with
  | lst h1 r => exact ⟨_, _, rfl, h1, r⟩, fun ⟨a, vs, e, h, r⟩ => by subst e; exact Dp.lst h r⟩
theorem rp_tup {K : PySem.W.Frag} {H : Hp} {v : V} {ds : List D} : Rp K H v (.tuple ds) ↔ ∃ a vs, v = .ref a ∧ SqT K H a vs ∧ DpAll K H vs ds := ⟨fun h => by
  cases (show Dp K H v (.tuple ds) from h) with
  | tup h1 r => exact ⟨_, _, rfl, h1, r⟩, fun ⟨a, vs, e, h, r⟩ => by subst e; exact Dp.tup h r⟩
theorem mD_inj : ∀ {a b : List (Str × D)}, mD a = mD b → a = b := by
  intro a b h
  replace h : a.map (fun p => ((.str p.1, p.2) : D × D)) = b.map fun p => (.str p.1, p.2) := PyData.dict.inj h
  revert h
  induction a generalizing b with
  | nil => intro h; cases b with
    | nil => rfl
    | cons y b => cases h
  | cons x a ih => intro h; cases b with
    | nil => cases h
    | cons y b =>
      obtain ⟨h1, h2⟩ := List.cons.inj h
      obtain ⟨e1, e2⟩ := Prod.mk.inj h1
      obtain ⟨x1, x2⟩ := x
      obtain ⟨y1, y2⟩ := y
      cases e1
      cases (show x2 = y2 from e2)
      rw [ih h2]
theorem rp_dict {K : PySem.W.Frag} {H : Hp} {v : V} {kv : List (Str × D)} : Rp K H v (mD kv) ↔ ∃ a ks, v = .ref a ∧ H a = some (.dK ks) ∧ KvR K H ks kv := by
  constructor
  · rintro ⟨a, ks, kv', e, h1, h2, h3⟩
    obtain rfl := mD_inj e
    exact ⟨a, ks, h1, h2, h3⟩
  · rintro ⟨a, ks, h1, h2, h3⟩
    exact ⟨a, ks, kv, rfl, h1, h2, h3⟩
/-- not a dict -/
def nodict : D → Bool
  | .dict _ => false
  | _ => true
theorem rp_dp {K : PySem.W.Frag} {H : Hp} {v : V} {d : D} (h : Rp K H v d) (n : nodict d = true) : Dp K H v d := by
  cases d <;> first | exact h | cases n
theorem rp_mono {K : PySem.W.Frag} {H H' : Hp} (e : Same H H') {v : V} {d : D} (h : Rp K H v d) : Rp K H' v d := by
  cases d with
  | dict kvs =>
    obtain ⟨a, ks, kv, h1, h2, h3, h4⟩ := h
    exact ⟨a, ks, kv, h1, h2, e _ _ h3, kvR_mono e h4⟩
  | _ => exact dp_mono e h
/-- ints, texts, bools, None: no heap is asked -/
def scalar : D → Bool
  | .none => true
  | .bool _ => true
  | .int _ => true
  | .str _ => true
  | _ => false
theorem rp_scalar {K : PySem.W.Frag} {H H' : Hp} {v : V} {d : D} (n : scalar d = true) (h : Rp K H v d) : Rp K H' v d := by
  cases d with
  | none => exact rp_non.mpr (rp_non.mp h)
  | bool b => exact rp_bl.mpr (rp_bl.mp h)
  | int i => exact rp_int.mpr (rp_int.mp h)
  | str x => exact rp_str.mpr (rp_str.mp h)
  | _ => cases n
theorem dpAll_get {K : PySem.W.Frag} {H : Hp} : ∀ {vs : List V} {ds : List D} {i : Nat} {d : D}, DpAll K H vs ds → ds[i]? = some d → ∃ v, vs[i]? = some v ∧ Dp K H v d
  | _, _, _, _, .nil, e => by simp at e
  | _, _, 0, _, .cons h _, e => by
    have e := Option.some.inj e
    subst e
    exact ⟨_, rfl, h⟩
  | _, _, i + 1, _, .cons _ r, e => dpAll_get (i := i) r e
theorem dpAll_len {K : PySem.W.Frag} {H : Hp} : ∀ {vs : List V} {ds : List D}, DpAll K H vs ds → vs.length = ds.length
  | _, _, .nil => rfl
  | _, _, .cons _ r => congrArg (· + 1) (dpAll_len r)
theorem dpAll_append {K : PySem.W.Frag} {H : Hp} : ∀ {vs : List V} {ds : List D} {vs' : List V} {ds' : List D}, DpAll K H vs ds → DpAll K H vs' ds' → DpAll K H (vs ++ vs') (ds ++ ds')
  | _, _, _, _, .nil, h => h
  | _, _, _, _, .cons h r, h' => .cons h (dpAll_append r h')
theorem dpAll_take {K : PySem.W.Frag} {H : Hp} : ∀ (n : Nat) {vs : List V} {ds : List D}, DpAll K H vs ds → DpAll K H (vs.take n) (ds.take n)
  | 0, _, _, _ => .nil
  | _ + 1, _, _, .nil => .nil
  | n + 1, _, _, .cons h r => .cons h (dpAll_take n r)
theorem dpAll_drop {K : PySem.W.Frag} {H : Hp} : ∀ (n : Nat) {vs : List V} {ds : List D}, DpAll K H vs ds → DpAll K H (vs.drop n) (ds.drop n)
  | 0, _, _, h => h
  | _ + 1, _, _, .nil => .nil
  | n + 1, _, _, .cons _ r => dpAll_drop n r
theorem dpAll_set {K : PySem.W.Frag} {H : Hp} : ∀ (n : Nat) {vs : List V} {ds : List D} {v : V} {d : D}, DpAll K H vs ds → Dp K H v d → DpAll K H (vs.set n v) (ds.set n d)
  | _, _, _, _, _, .nil, _ => .nil
  | 0, _, _, _, _, .cons _ r, h => .cons h r
  | n + 1, _, _, _, _, .cons h r, h' => .cons h (dpAll_set n r h')
theorem dpAll_ints {K : PySem.W.Frag} {H : Hp} : ∀ {ns : List Int} {vs : List V}, DpAll K H vs (ns.map .int) → vs = ns.map .int
  | [], _, h => by cases h; rfl
  | n :: ns, _, h => by
    cases h with
    | cons h r => cases h; rw [dpAll_ints r]; rfl
theorem ints_dpAll {K : PySem.W.Frag} {H : Hp} : ∀ (ns : List Int), DpAll K H (ns.map .int) (ns.map .int)
  | [] => .nil
  | n :: ns => .cons (.int n) (ints_dpAll ns)
theorem dpAll_strs {K : PySem.W.Frag} {H : Hp} : ∀ {ns : List Str} {vs : List V}, DpAll K H vs (ns.map .str) → vs = ns.map .str
  | [], _, h => by cases h; rfl
  | n :: ns, _, h => by
    cases h with
    | cons h r => cases h; rw [dpAll_strs r]; rfl
theorem strs_dpAll {K : PySem.W.Frag} {H : Hp} : ∀ (ns : List Str), DpAll K H (ns.map .str) (ns.map .str)
  | [] => .nil
  | n :: ns => .cons (.str n) (strs_dpAll ns)
theorem dpAll_bls {K : PySem.W.Frag} {H : Hp} : ∀ {ns : List Bool} {vs : List V}, DpAll K H vs (ns.map .bool) → vs = ns.map .bl
  | [], _, h => by cases h; rfl
  | n :: ns, _, h => by
    cases h with
    | cons h r => cases h; rw [dpAll_bls r]; rfl

/-! ### slots -/
inductive Sl where
  /-- nothing is known -/
  | no
  | va (d : D)
  /-- a list, a dict of this frame's own: it may be changed -/
  | ow (xs : List D)
  | od (kv : List (Str × D))
  /-- an object that is not looked into -/
  | rf (a : Addr)
def Sl.mine : Sl → Bool
  | .ow _ => true
  | .od _ => true
  | _ => false
abbrev Sls := List Sl
def SlR (K : PySem.W.Frag) (H0 F H : Hp) (o : Option (Option V)) : Sl → Prop
  | .no => True
  | .va d => ∃ v, o = some (some v) ∧ Rp K F v d
  | .ow xs => ∃ a vs, o = some (some (.ref a)) ∧ H0 a = none ∧ F a = none ∧ H a = some (.lst vs) ∧ DpAll K F vs xs
  | .od kv => ∃ a ks, o = some (some (.ref a)) ∧ H0 a = none ∧ F a = none ∧ H a = some (.dK ks) ∧ KvR K F ks kv
  | .rf a => o = some (some (.ref a))
def Mine (ds : Sls) (i : Nat) : Prop := ∃ s, ds[i]? = some s ∧ s.mine = true
structure StR (K : PySem.W.Frag) (F0 H0 F H : Hp) (σ : St) (ds : Sls) : Prop where
  ext : Ext F0 H0 F H
  len : σ.length = ds.length
  at_ : ∀ (i : Nat) (s : Sl), ds[i]? = some s → SlR K H0 F H (σ[i]?) s
  sep : ∀ (i j : Nat) (a : Addr), Mine ds i → Mine ds j → σ[i]? = some (some (.ref a)) → σ[j]? = some (some (.ref a)) → i = j
section
variable {K : PySem.W.Frag} {F0 H0 F H F' H' : Hp} {σ : St} {ds : Sls}
theorem StR.fh (r : StR K F0 H0 F H σ ds) : Same F H := r.ext.fh
theorem SlR.ext {o : Option (Option V)} {s : Sl} (h : SlR K H0 F H o s) (e : Ext F H F' H') : SlR K H0 F' H' o s := by
  cases s with
  | no => trivial
  | va d => obtain ⟨v, h1, h2⟩ := h; exact ⟨v, h1, rp_mono e.f h2⟩
  | ow xs =>
    obtain ⟨a, vs, h1, h2, h3, h4, h5⟩ := h
    exact ⟨a, vs, h1, h2, e.own a h3 (by rw [h4]; exact fun z => nomatch z), e.h _ _ h4, dpAll_mono e.f h5⟩
  | od kv =>
    obtain ⟨a, vs, h1, h2, h3, h4, h5⟩ := h
    exact ⟨a, vs, h1, h2, e.own a h3 (by rw [h4]; exact fun z => nomatch z), e.h _ _ h4, kvR_mono e.f h5⟩
  | rf a => exact h
theorem StR.to (r : StR K F0 H0 F H σ ds) (e : Ext F H F' H') : StR K F0 H0 F' H' σ ds :=
  ⟨r.ext.trans e, r.len, fun i s h => (r.at_ i s h).ext e, r.sep⟩
theorem StR.set {i : Nat} {v : V} {d : D} (r : StR K F0 H0 F H σ ds) (h : Rp K F v d) : StR K F0 H0 F H (σ.set i (some v)) (ds.set i (.va d)) := by
  refine ⟨r.ext, by rw [List.length_set, List.length_set, r.len], fun j s e => ?_, fun j k a h1 h2 e1 e2 => ?_⟩
  · by_cases q : i = j
    · subst q
      have hl : i < ds.length := by
        have z := (List.getElem?_eq_some_iff.mp e).1
        rwa [List.length_set] at z
      rw [List.getElem?_set_self hl] at e
      have e := Option.some.inj e
      subst e
      exact ⟨v, List.getElem?_set_self (by rw [r.len]; exact hl), h⟩
    · rw [List.getElem?_set_ne q] at e ⊢
      exact r.at_ j s e
  · have nm : ∀ k, Mine (ds.set i (.va d)) k → k ≠ i ∧ Mine ds k := fun k ⟨s, e, m⟩ => by
      by_cases q : i = k
      · subst q
        have hl : i < ds.length := by
          have z := (List.getElem?_eq_some_iff.mp e).1
          rwa [List.length_set] at z
        rw [List.getElem?_set_self hl] at e
        have e := Option.some.inj e
        subst e
        cases m
      · rw [List.getElem?_set_ne q] at e
        exact ⟨fun z => q z.symm, s, e, m⟩
    obtain ⟨n1, m1⟩ := nm j h1
    obtain ⟨n2, m2⟩ := nm k h2
    rw [List.getElem?_set_ne (Ne.symm n1)] at e1
    rw [List.getElem?_set_ne (Ne.symm n2)] at e2
    exact r.sep j k a m1 m2 e1 e2
/-- weaker knowledge of the slots: what is mine may be taken as fixed no more -/
theorem StR.forget {ds' : Sls} (r : StR K F0 H0 F H σ ds) (hl : ds'.length = ds.length) (h : ∀ (i : Nat) (s : Sl), ds'[i]? = some s → s = .no ∨ ds[i]? = some s) : StR K F0 H0 F H σ ds' := by
  refine ⟨r.ext, by rw [r.len, hl], fun i s e => ?_, fun i j a ⟨s, e1, m1⟩ ⟨t, e2, m2⟩ p q => ?_⟩
  · rcases h i s e with z | z
    · subst z; trivial
    · exact r.at_ i s z
  · refine r.sep i j a ⟨s, ?_, m1⟩ ⟨t, ?_, m2⟩ p q
    · rcases h i s e1 with z | z
      · subst z; cases m1
      · exact z
    · rcases h j t e2 with z | z
      · subst z; cases m2
      · exact z
end
end Vs

namespace Vs
open PySem PySem.Spec L2

/-! ### the weakest readings -/
section
variable (X : Cx)
def wpE (e : Expr) : TE := fun σ H Q => ∀ (pins : List (Addr × Obj)) (s : Shared), Inv X pins σ H s → wpAny (model X.prog X.w) X.A (eval e X.env) (EP X pins σ Q) X.xe s
def wpT (e : Expr) : TT := fun σ H Q => ∀ (pins : List (Addr × Obj)) (s : Shared), Inv X pins σ H s → wpAny (model X.prog X.w) X.A (isTrue e X.env (eval e X.env)) (TP X pins σ Q) X.xe s
def wpW (e : Expr) : TT := fun σ H Q => ∀ (whole : Sem Value) (pins : List (Addr × Obj)) (s : Shared), Inv X pins σ H s → wpAny (model X.prog X.w) X.A (isTrue e X.env whole) (TP X pins σ Q) X.xe s
def wpA (es : List Expr) : TA := fun σ H Q => ∀ (pos : Pos) (pins : List (Addr × Obj)) (s : Shared), Inv X pins σ H s → wpAny (model X.prog X.w) X.A (spliced (backTo pos (starEach es X.env))) (AP X pins σ Q) X.xe s
def wpS (st : Stmt) : TS := fun D σ H => ∀ (pins : List (Addr × Obj)) (s : Shared), Inv X pins σ H s → wpAny (model X.prog X.w) X.A (exec st X.env) (SP X pins D) X.xe s
def wpB (st : List Stmt) : TS := fun D σ H => ∀ (pins : List (Addr × Obj)) (s : Shared), Inv X pins σ H s → wpAny (model X.prog X.w) X.A (execs st X.env) (SP X pins D) X.xe s
def wpI (tg iter : Expr) : TI := fun σ H R => ∀ (pins : List (Addr × Obj)) (s : Shared), Inv X pins σ H s → wpAny (model X.prog X.w) X.A (eval iter X.env) (fun v s1 => wpAny (model X.prog X.w) X.A (pyIter v) (PIE X pins σ tg R) X.xe s1) X.xe s
def wpTs (ifs : List Expr) : TT := fun σ H Q => ∀ (pins : List (Addr × Obj)) (s : Shared), Inv X pins σ H s →
  wpAny (model X.prog X.w) X.A (forIn ifs true fun c r => if r = true then do let ok ← isTrue c X.env (eval c X.env); pure (ForInStep.yield ok) else pure (ForInStep.yield r)) (TP X pins σ Q) X.xe s
end
section
variable {X : Cx} {σ : St} {H : Hp}
theorem wpE_pe {e : Expr} : PE X e (wpE X e) := ⟨fun pins s σ H Q I h => h pins s I⟩
theorem wpT_pt {e : Expr} : PT X e (wpT X e) := ⟨fun pins s σ H Q I h => h pins s I⟩
theorem wpW_pw {e : Expr} : PW X e (wpW X e) := ⟨fun wh pins s σ H Q I h => h wh pins s I⟩
theorem wpA_pa {e : List Expr} : PA X e (wpA X e) := ⟨fun pos pins s σ H Q I h => h pos pins s I⟩
theorem wpS_ps {e : Stmt} : PS X e (wpS X e) := ⟨fun pins s σ H D I h => h pins s I⟩
theorem wpB_pss {e : List Stmt} : PSs X e (wpB X e) := ⟨fun pins s σ H D I h => h pins s I⟩
theorem wpI_pi {tg iter : Expr} : PI X tg iter (wpI X tg iter) := ⟨fun pins s σ H R I h => h pins s I⟩
theorem wpTs_pts {e : List Expr} : PTs X e (wpTs X e) := ⟨fun pins s σ H Q I h => h pins s I⟩
theorem toE {e : Expr} {te : TE} (h : PE X e te) {Q : VK} (q : te σ H Q) : wpE X e σ H Q := fun pins s I => h.run pins s σ H Q I q
theorem toT {e : Expr} {te : TT} (h : PT X e te) {Q : Bool → Hp → Prop} (q : te σ H Q) : wpT X e σ H Q := fun pins s I => h.run pins s σ H Q I q
theorem toW {e : Expr} {te : TT} (h : PW X e te) {Q : Bool → Hp → Prop} (q : te σ H Q) : wpW X e σ H Q := fun wh pins s I => h.run wh pins s σ H Q I q
theorem toA {e : List Expr} {te : TA} (h : PA X e te) {Q : List V → Hp → Prop} (q : te σ H Q) : wpA X e σ H Q := fun pos pins s I => h.run pos pins s σ H Q I q
theorem toS {e : Stmt} {te : TS} (h : PS X e te) {D : Ends} (q : te D σ H) : wpS X e D σ H := fun pins s I => h.run pins s σ H D I q
theorem toB {e : List Stmt} {te : TS} (h : PSs X e te) {D : Ends} (q : te D σ H) : wpB X e D σ H := fun pins s I => h.run pins s σ H D I q
theorem toI {tg e : Expr} {te : TI} (h : PI X tg e te) {R : It → Hp → Prop} (q : te σ H R) : wpI X tg e σ H R := fun pins s I => h.run pins s σ H R I q
theorem toTs {e : List Expr} {te : TT} (h : PTs X e te) {Q : Bool → Hp → Prop} (q : te σ H Q) : wpTs X e σ H Q := fun pins s I => h.run pins s σ H Q I q
end

/-! ### the judgements -/
abbrev RpAll (K : PySem.W.Frag) (H : Hp) : List V → List D → Prop := Paired (Rp K H)
theorem rpAll_mono {K : PySem.W.Frag} {H H' : Hp} (e : Same H H') : ∀ {vs : List V} {ds : List D}, RpAll K H vs ds → RpAll K H' vs ds
  | _, _, .nil => .nil
  | _, _, .cons h r => .cons (rp_mono e h) (rpAll_mono e r)
theorem rpAll_dp {K : PySem.W.Frag} {H : Hp} : ∀ {vs : List V} {ds : List D}, RpAll K H vs ds → ds.all nodict = true → DpAll K H vs ds
  | _, _, .nil, _ => .nil
  | _, _, .cons h r, n => by
    rw [List.all_cons, Bool.and_eq_true] at n
    exact .cons (rp_dp h n.1) (rpAll_dp r n.2)
/-- e gives the datum d -/
def EvE (X : Cx) (e : Expr) (ds : Sls) (d : D) : Prop := ∀ (F0 H0 F H : Hp) (σ : St), StR X.K F0 H0 F H σ ds → ∀ Q : VK, (∀ v F' H', Ext F H F' H' → Rp X.K F' v d → Q v H') → wpE X e σ H Q
/-- e gives a new list of its own -/
def EvN (X : Cx) (e : Expr) (ds : Sls) (xs : List D) : Prop := ∀ (F0 H0 F H : Hp) (σ : St), StR X.K F0 H0 F H σ ds → ∀ Q : VK,
  (∀ p vs F' H', Ext F H F' H' → H p = none → F' p = none → H' p = some (.lst vs) → DpAll X.K F' vs xs → Q (.ref p) H') → wpE X e σ H Q
/-- .. a new dict -/
def EvM (X : Cx) (e : Expr) (ds : Sls) (kv : List (Str × D)) : Prop := ∀ (F0 H0 F H : Hp) (σ : St), StR X.K F0 H0 F H σ ds → ∀ Q : VK,
  (∀ p ks F' H', Ext F H F' H' → H p = none → F' p = none → H' p = some (.dK ks) → KvR X.K F' ks kv → Q (.ref p) H') → wpE X e σ H Q
def EvT (X : Cx) (e : Expr) (ds : Sls) (b : Bool) : Prop := ∀ (F0 H0 F H : Hp) (σ : St), StR X.K F0 H0 F H σ ds → ∀ Q : Bool → Hp → Prop, (∀ F' H', Ext F H F' H' → Q b H') → wpT X e σ H Q
def EvW (X : Cx) (e : Expr) (ds : Sls) (b : Bool) : Prop := ∀ (F0 H0 F H : Hp) (σ : St), StR X.K F0 H0 F H σ ds → ∀ Q : Bool → Hp → Prop, (∀ F' H', Ext F H F' H' → Q b H') → wpW X e σ H Q
def EvA (X : Cx) (es : List Expr) (ds : Sls) (as : List D) : Prop := ∀ (F0 H0 F H : Hp) (σ : St), StR X.K F0 H0 F H σ ds → ∀ Q : List V → Hp → Prop, (∀ vs F' H', Ext F H F' H' → RpAll X.K F' vs as → Q vs H') → wpA X es σ H Q
def EvTs (X : Cx) (es : List Expr) (ds : Sls) (b : Bool) : Prop := ∀ (F0 H0 F H : Hp) (σ : St), StR X.K F0 H0 F H σ ds → ∀ Q : Bool → Hp → Prop, (∀ F' H', Ext F H F' H' → Q b H') → wpTs X es σ H Q

/-- where one stands: names by slot, the scope, room for k calls -/
structure Wh0 (X : Cx) (N : List Str) (sc : Scope) : Prop where
  hN : X.N = N
  nd : N.Nodup
  hsc : X.env.scope = sc
  kind : sc.kind = .function
structure Wh (X : Cx) (N : List Str) (sc : Scope) (k : Nat) : Prop extends Wh0 X N sc where
  calm : X.calm = true
  room : Room k X.A
/-- .. in a def's own body, where names are stored -/
structure WhS (X : Cx) (N : List Str) (sc : Scope) (k : Nat) : Prop extends Wh X N sc k where
  hp : PassesOwn (model X.prog X.w) X.A X.env X.xe
  fn : ∀ x, X.fn x = true
  stk : X.stack = X.env :: X.outer
  frm : X.env.frame = some X.env.locals

section
variable {X : Cx} {N : List Str} {sc : Scope} {k : Nat} {ds : Sls} {d d1 d2 d3 : D} {e a b c : Expr} {pos : Pos}
theorem EvE.cast {d' : D} (h : EvE X e ds d) (q : d = d') : EvE X e ds d' := q ▸ h
theorem EvT.cast {b b' : Bool} (h : EvT X e ds b) (q : b = b') : EvT X e ds b' := q ▸ h
theorem EvN.cast {x x' : List D} (h : EvN X e ds x) (q : x = x') : EvN X e ds x' := q ▸ h
theorem EvN.ev {xs : List D} (h : EvN X e ds xs) : EvE X e ds (.list xs) := fun F0 H0 F H σ r Q q => h F0 H0 F H σ r Q fun p vs F' H' x hp fp h' dp => by
  refine q (.ref p) (upd F' p (.lst vs)) H' ⟨x.f.trans (same_upd fp), x.h, fun b o z => ?_, fun a z n => ?_⟩ (rp_lst.mpr ⟨p, vs, rfl, SqL.of upd_same, dpAll_mono (same_upd fp) dp⟩)
  · by_cases e : b = p
    · subst e; rw [upd_same] at z; cases z; exact h'
    · rw [upd_ne e] at z; exact x.fh b o z
  · rw [upd_ne (fun z' => n (by rw [z']; exact hp))]; exact x.own a z n
theorem EvM.ev {kv : List (Str × D)} (h : EvM X e ds kv) : EvE X e ds (mD kv) := fun F0 H0 F H σ r Q q => h F0 H0 F H σ r Q fun p vs F' H' x hp fp h' dp => by
  refine q (.ref p) (upd F' p (.dK vs)) H' ⟨x.f.trans (same_upd fp), x.h, fun b o z => ?_, fun a z n => ?_⟩ (rp_dict.mpr ⟨p, vs, rfl, upd_same, kvR_mono (same_upd fp) dp⟩)
  · by_cases e : b = p
    · subst e; rw [upd_same] at z; cases z; exact h'
    · rw [upd_ne e] at z; exact x.fh b o z
  · rw [upd_ne (fun z' => n (by rw [z']; exact hp))]; exact x.own a z n

/-! ### names, constants -/
theorem ev_var (A : Wh X N sc k) (i : Nat) {x : Str} (hi : N[i]? = some x) (hv : Vis sc x) (h : ds[i]? = some (.va d)) (hd : (x == ("__debug__" : Str)) = false := by decide) (hcd : (x == ("__classdict__" : Str)) = false := by decide) : EvE X (.Name x pos) ds d := by
  intro F0 H0 F H σ r Q q
  obtain ⟨v, e1, e2⟩ := r.at_ i _ h
  refine toE (pe_var (i := i) (by rw [A.hN]; exact hi) (by rw [A.hsc]; exact hv) hd hcd) ⟨v, e1, q v F H (.refl r.fh) e2⟩
theorem ev_int {i : Int} {j : Nat} : EvE X (.Constant (.int i) j pos) ds (.int i) := fun F0 H0 F H σ r Q q => toE pe_int (q _ F H (.refl r.fh) (.int i))
theorem ev_bl {i : Bool} {j : Nat} : EvE X (.Constant (.bool i) j pos) ds (.bool i) := fun F0 H0 F H σ r Q q => toE pe_bl (q _ F H (.refl r.fh) (.bl i))
theorem ev_non {j : Nat} : EvE X (.Constant .none j pos) ds .none := fun F0 H0 F H σ r Q q => toE pe_non (q _ F H (.refl r.fh) .non)
theorem ev_str {x : Str} {j : Nat} : EvE X (.Constant (.str x) j pos) ds (.str x) := fun F0 H0 F H σ r Q q => toE pe_str (q _ F H (.refl r.fh) (.str x))
theorem Wh0.gl (A : Wh0 X N sc) {x : Str} (h : sc.names.lookup x = some .globalImplicit) : Gl X x := by
  show X.env.scope.names.lookup x = _
  rw [A.hsc]; exact h
/-- a constant of the module -/
def GlV (X : Cx) (x : Str) (d : D) : Prop := ∃ u v, X.mg x = some u ∧ RelV v u ∧ ∀ H, Rp X.K H v d
theorem ev_glob (A : Wh X N sc k) {x : Str} (g : GlV X x d) (hg : sc.names.lookup x = some .globalImplicit) (hd : (x == ("__debug__" : Str)) = false := by decide) : EvE X (.Name x pos) ds d := fun F0 H0 F H σ r Q q => by
  obtain ⟨u, v, h1, h2, h3⟩ := g
  exact toE (pe_glob (A.gl hg) h1 h2 hd) (q v F H (.refl r.fh) (h3 F))

/-! ### operators -/
/-- a rule of two operands, by data -/
def OpD (X : Cx) (r : R2) (d1 d2 d : D) : Prop := ∀ (v1 v2 : V) (F H : Hp) (Q : VK), Same F H → Rp X.K F v1 d1 → Rp X.K F v2 d2 → (∀ v F' H', Ext F H F' H' → Rp X.K F' v d → Q v H') → r v1 v2 H Q
theorem ev2 (ha : EvE X a ds d1) (hb : EvE X b ds d2) {F0 H0 F H : Hp} {σ : St} (r : StR X.K F0 H0 F H σ ds) {R : V → V → Hp → Prop}
    (q : ∀ v1 v2 F' H', Ext F H F' H' → Rp X.K F' v1 d1 → Rp X.K F' v2 d2 → R v1 v2 H') : wpE X a σ H fun x H1 => wpE X b σ H1 fun y H2 => R x y H2 :=
  ha F0 H0 F H σ r _ fun v1 F1 H1 x1 r1 => hb F0 H0 F1 H1 σ (r.to x1) _ fun v2 F2 H2 x2 r2 => q v1 v2 F2 H2 (x1.trans x2) (rp_mono x2.f r1) r2
theorem ev_op {op : Operator} {r : R2} (ho : OpR X (binaryOp op) r) (ha : EvE X a ds d1) (hb : EvE X b ds d2) (hr : OpD X r d1 d2 d) : EvE X (.BinOp a op b pos) ds d := fun F0 H0 F H σ s Q q =>
  toE (pe_op ho wpE_pe wpE_pe) (ev2 ha hb s fun v1 v2 F' H' x r1 r2 => hr v1 v2 F' H' Q x.fh r1 r2 fun v F2 H2 x2 r3 => q v F2 H2 (x.trans x2) r3)
theorem ev_cmp {op : CmpOp} {r : R2} (ho : OpR X (compareOp op) r) (ha : EvE X a ds d1) (hb : EvE X b ds d2) (hr : OpD X r d1 d2 d) (hm : behindInMarks op b = false) : EvE X (.Compare a [op] [b] pos) ds d := fun F0 H0 F H σ s Q q =>
  toE (pe_cmpR ho wpE_pe wpE_pe hm) (ev2 ha hb s fun v1 v2 F' H' x r1 r2 => hr v1 v2 F' H' Q x.fh r1 r2 fun v F2 H2 x2 r3 => q v F2 H2 (x.trans x2) r3)
theorem evt_cmp {op : CmpOp} {r : R2} {k : Bool} (ho : OpR X (compareOp op) r) (ha : EvE X a ds d1) (hb : EvE X b ds d2) (hr : OpD X r d1 d2 (.bool k)) (hm : behindInMarks op b = false) : EvT X (.Compare a [op] [b] pos) ds k := fun F0 H0 F H σ s Q q =>
  toT (pt_cmpR ho wpE_pe wpE_pe hm) (ev2 ha hb s fun v1 v2 F' H' x r1 r2 => hr v1 v2 F' H' _ x.fh r1 r2 fun v F2 H2 x2 r3 => ⟨k, rp_bl.mp r3, q F2 H2 (x.trans x2)⟩)
theorem opd_I {C : Int → Int → Prop} {g : Int → Int → Int} {i j : Int} (hc : C i j) : OpD X (rI C fun i j => .int (g i j)) (.int i) (.int j) (.int (g i j)) := fun v1 v2 F H Q s r1 r2 q =>
  ⟨i, j, rp_int.mp r1, rp_int.mp r2, hc, q _ F H (.refl s) (.int _)⟩
theorem opd_I0 {g : Int → Int → Int} {i j : Int} : OpD X (rI0 fun i j => .int (g i j)) (.int i) (.int j) (.int (g i j)) := fun v1 v2 F H Q s r1 r2 q =>
  ⟨i, j, rp_int.mp r1, rp_int.mp r2, q _ F H (.refl s) (.int _)⟩
theorem opd_B0 {g : Int → Int → Bool} {i j : Int} : OpD X (rI0 fun i j => .bl (g i j)) (.int i) (.int j) (.bool (g i j)) := fun v1 v2 F H Q s r1 r2 q =>
  ⟨i, j, rp_int.mp r1, rp_int.mp r2, q _ F H (.refl s) (.bl _)⟩
variable {i j : Int} {x y : Str}
theorem ev_add (ha : EvE X a ds (.int i)) (hb : EvE X b ds (.int j)) : EvE X (.BinOp a .Add b pos) ds (.int (i + j)) := ev_op op_add ha hb opd_I0
theorem ev_sub (ha : EvE X a ds (.int i)) (hb : EvE X b ds (.int j)) : EvE X (.BinOp a .Sub b pos) ds (.int (i - j)) := ev_op op_sub ha hb opd_I0
theorem ev_mul (ha : EvE X a ds (.int i)) (hb : EvE X b ds (.int j)) (h : CMul i j) : EvE X (.BinOp a .Mult b pos) ds (.int (i * j)) := ev_op op_mul ha hb (opd_I h)
theorem ev_mulW (ha : EvE X a ds (.int i)) (hb : EvE X b ds (.int j)) (h : CMulW i j) : EvE X (.BinOp a .Mult b pos) ds (.int (i * j)) := ev_op op_mulW ha hb (opd_I h)
theorem ev_fdiv (ha : EvE X a ds (.int i)) (hb : EvE X b ds (.int j)) (h : CDiv i j) : EvE X (.BinOp a .FloorDiv b pos) ds (.int (i / j)) := ev_op op_fdiv ha hb (opd_I h)
theorem ev_fdivW (ha : EvE X a ds (.int i)) (hb : EvE X b ds (.int j)) (h : CDivW i j) : EvE X (.BinOp a .FloorDiv b pos) ds (.int (i / j)) := ev_op op_fdivW ha hb (opd_I h)
theorem ev_mod (ha : EvE X a ds (.int i)) (hb : EvE X b ds (.int j)) (h : 0 < j) : EvE X (.BinOp a .Mod b pos) ds (.int (i % j)) := ev_op op_mod ha hb (opd_I h)
theorem ev_pow (ha : EvE X a ds (.int i)) (hb : EvE X b ds (.int j)) (h : CPow i j) : EvE X (.BinOp a .Pow b pos) ds (.int (i ^ j.toNat)) := ev_op op_pow ha hb (opd_I h)
theorem ev_neg (ha : EvE X a ds (.int i)) : EvE X (.UnaryOp .USub a pos) ds (.int (-i)) := fun F0 H0 F H σ s Q q =>
  toE (pe_un un_neg wpE_pe) (ha F0 H0 F H σ s _ fun v F' H' x r => ⟨i, rp_int.mp r, q _ F' H' x (.int _)⟩)
theorem ev_addS (ha : EvE X a ds (.str x)) (hb : EvE X b ds (.str y)) (h : x.length + y.length ≤ sizeLine) : EvE X (.BinOp a .Add b pos) ds (.str (x ++ y)) :=
  ev_op op_add_str ha hb fun v1 v2 F H Q s r1 r2 q => ⟨x, y, rp_str.mp r1, rp_str.mp r2, h, q _ F H (.refl s) (.str _)⟩
/-! comparisons of ints -/
theorem ev_lt (ha : EvE X a ds (.int i)) (hb : EvE X b ds (.int j)) : EvE X (.Compare a [.Lt] [b] pos) ds (.bool (decide (i < j))) := ev_cmp op_lt ha hb opd_B0 (nomark _)
theorem ev_le (ha : EvE X a ds (.int i)) (hb : EvE X b ds (.int j)) : EvE X (.Compare a [.LtE] [b] pos) ds (.bool (decide (i ≤ j))) := ev_cmp op_le ha hb opd_B0 (nomark _)
theorem ev_gt (ha : EvE X a ds (.int i)) (hb : EvE X b ds (.int j)) : EvE X (.Compare a [.Gt] [b] pos) ds (.bool (decide (j < i))) := ev_cmp op_gt ha hb opd_B0 (nomark _)
theorem ev_ge (ha : EvE X a ds (.int i)) (hb : EvE X b ds (.int j)) : EvE X (.Compare a [.GtE] [b] pos) ds (.bool (decide (j ≤ i))) := ev_cmp op_ge ha hb opd_B0 (nomark _)
theorem evt_lt (ha : EvE X a ds (.int i)) (hb : EvE X b ds (.int j)) : EvT X (.Compare a [.Lt] [b] pos) ds (decide (i < j)) := evt_cmp op_lt ha hb opd_B0 (nomark _)
theorem evt_le (ha : EvE X a ds (.int i)) (hb : EvE X b ds (.int j)) : EvT X (.Compare a [.LtE] [b] pos) ds (decide (i ≤ j)) := evt_cmp op_le ha hb opd_B0 (nomark _)
theorem evt_gt (ha : EvE X a ds (.int i)) (hb : EvE X b ds (.int j)) : EvT X (.Compare a [.Gt] [b] pos) ds (decide (j < i)) := evt_cmp op_gt ha hb opd_B0 (nomark _)
theorem evt_ge (ha : EvE X a ds (.int i)) (hb : EvE X b ds (.int j)) : EvT X (.Compare a [.GtE] [b] pos) ds (decide (j ≤ i)) := evt_cmp op_ge ha hb opd_B0 (nomark _)
theorem opd_eqI : OpD X rEq (.int i) (.int j) (.bool (decide (i = j))) := fun v1 v2 F H Q s r1 r2 q => by
  rw [rp_int.mp r1, rp_int.mp r2]
  refine ⟨rfl, ?_⟩
  rw [dec_int, Bool.beq_eq_decide_eq]
  exact q _ F H (.refl s) (.bl _)
theorem opd_neI : OpD X rNe (.int i) (.int j) (.bool (!decide (i = j))) := fun v1 v2 F H Q s r1 r2 q => by
  rw [rp_int.mp r1, rp_int.mp r2]
  refine ⟨rfl, ?_⟩
  rw [dec_int, Bool.beq_eq_decide_eq]
  exact q _ F H (.refl s) (.bl _)
theorem opd_eqS : OpD X rEq (.str x) (.str y) (.bool (decide (x = y))) := fun v1 v2 F H Q s r1 r2 q => by
  rw [rp_str.mp r1, rp_str.mp r2]
  refine ⟨rfl, ?_⟩
  rw [dec_str, Bool.beq_eq_decide_eq]
  exact q _ F H (.refl s) (.bl _)
theorem opd_neS : OpD X rNe (.str x) (.str y) (.bool (!decide (x = y))) := fun v1 v2 F H Q s r1 r2 q => by
  rw [rp_str.mp r1, rp_str.mp r2]
  refine ⟨rfl, ?_⟩
  rw [dec_str, Bool.beq_eq_decide_eq]
  exact q _ F H (.refl s) (.bl _)
theorem ev_eqI (ha : EvE X a ds (.int i)) (hb : EvE X b ds (.int j)) : EvE X (.Compare a [.Eq] [b] pos) ds (.bool (decide (i = j))) := ev_cmp op_eq ha hb opd_eqI (nomark _)
theorem ev_neI (ha : EvE X a ds (.int i)) (hb : EvE X b ds (.int j)) : EvE X (.Compare a [.NotEq] [b] pos) ds (.bool (!decide (i = j))) := ev_cmp op_ne ha hb opd_neI (nomark _)
theorem ev_eqS (ha : EvE X a ds (.str x)) (hb : EvE X b ds (.str y)) : EvE X (.Compare a [.Eq] [b] pos) ds (.bool (decide (x = y))) := ev_cmp op_eq ha hb opd_eqS (nomark _)
theorem ev_neS (ha : EvE X a ds (.str x)) (hb : EvE X b ds (.str y)) : EvE X (.Compare a [.NotEq] [b] pos) ds (.bool (!decide (x = y))) := ev_cmp op_ne ha hb opd_neS (nomark _)
theorem evt_eqI (ha : EvE X a ds (.int i)) (hb : EvE X b ds (.int j)) : EvT X (.Compare a [.Eq] [b] pos) ds (decide (i = j)) := evt_cmp op_eq ha hb opd_eqI (nomark _)
theorem evt_neI (ha : EvE X a ds (.int i)) (hb : EvE X b ds (.int j)) : EvT X (.Compare a [.NotEq] [b] pos) ds (!decide (i = j)) := evt_cmp op_ne ha hb opd_neI (nomark _)
theorem evt_eqS (ha : EvE X a ds (.str x)) (hb : EvE X b ds (.str y)) : EvT X (.Compare a [.Eq] [b] pos) ds (decide (x = y)) := evt_cmp op_eq ha hb opd_eqS (nomark _)
theorem evt_neS (ha : EvE X a ds (.str x)) (hb : EvE X b ds (.str y)) : EvT X (.Compare a [.NotEq] [b] pos) ds (!decide (x = y)) := evt_cmp op_ne ha hb opd_neS (nomark _)
/-! any data -/
theorem opd_eqD (h1 : nodict d1 = true) (h2 : nodict d2 = true) (s1 : SeqAt.shaped d1 = true) (s2 : SeqAt.shaped d2 = true) : OpD X (rEqD X.K) d1 d2 (.bool (PyData.eqv d1 d2)) := fun v1 v2 F H Q s r1 r2 q =>
  ⟨d1, d2, dp_mono s (rp_dp r1 h1), dp_mono s (rp_dp r2 h2), s1, s2, q _ F H (.refl s) (.bl _)⟩
theorem opd_neD (h1 : nodict d1 = true) (h2 : nodict d2 = true) (s1 : SeqAt.shaped d1 = true) (s2 : SeqAt.shaped d2 = true) : OpD X (rNeD X.K) d1 d2 (.bool (!PyData.eqv d1 d2)) := fun v1 v2 F H Q s r1 r2 q =>
  ⟨d1, d2, dp_mono s (rp_dp r1 h1), dp_mono s (rp_dp r2 h2), s1, s2, q _ F H (.refl s) (.bl _)⟩
theorem Wh.u64 (A : Wh X N sc k) : X.A.units + 64 < cLine := A.room.units
theorem Wh.u1 (A : Wh X N sc k) : X.A.units + 1 < cLine := by have := A.room.units; omega
theorem ev_eqD (A : Wh X N sc k) (ha : EvE X a ds d1) (hb : EvE X b ds d2) (h1 : nodict d1 = true) (h2 : nodict d2 = true) (s1 : SeqAt.shaped d1 = true) (s2 : SeqAt.shaped d2 = true) : EvE X (.Compare a [.Eq] [b] pos) ds (.bool (PyData.eqv d1 d2)) := ev_cmp (op_eqD A.u64) ha hb (opd_eqD h1 h2 s1 s2) (nomark _)
theorem ev_neD (A : Wh X N sc k) (ha : EvE X a ds d1) (hb : EvE X b ds d2) (h1 : nodict d1 = true) (h2 : nodict d2 = true) (s1 : SeqAt.shaped d1 = true) (s2 : SeqAt.shaped d2 = true) : EvE X (.Compare a [.NotEq] [b] pos) ds (.bool (!PyData.eqv d1 d2)) := ev_cmp (op_neD A.u64) ha hb (opd_neD h1 h2 s1 s2) (nomark _)
theorem evt_eqD (A : Wh X N sc k) (ha : EvE X a ds d1) (hb : EvE X b ds d2) (h1 : nodict d1 = true) (h2 : nodict d2 = true) (s1 : SeqAt.shaped d1 = true) (s2 : SeqAt.shaped d2 = true) : EvT X (.Compare a [.Eq] [b] pos) ds (PyData.eqv d1 d2) := evt_cmp (op_eqD A.u64) ha hb (opd_eqD h1 h2 s1 s2) (nomark _)
theorem evt_neD (A : Wh X N sc k) (ha : EvE X a ds d1) (hb : EvE X b ds d2) (h1 : nodict d1 = true) (h2 : nodict d2 = true) (s1 : SeqAt.shaped d1 = true) (s2 : SeqAt.shaped d2 = true) : EvT X (.Compare a [.NotEq] [b] pos) ds (!PyData.eqv d1 d2) := evt_cmp (op_neD A.u64) ha hb (opd_neD h1 h2 s1 s2) (nomark _)
/-! is None -/
def isNone : D → Bool
  | .none => true
  | _ => false
theorem rp_isNone {K : PySem.W.Frag} {H : Hp} {v : V} {d : D} (h : Rp K H v d) : decide (v = .non) = isNone d := by
  cases d with
  | none => rw [rp_non.mp h]; rfl
  | bool b => rw [rp_bl.mp h]; rfl
  | int b => rw [rp_int.mp h]; rfl
  | str b => rw [rp_str.mp h]; rfl
  | list b => obtain ⟨_, _, e, _⟩ := rp_lst.mp h; rw [e]; rfl
  | tuple b => obtain ⟨_, _, e, _⟩ := rp_tup.mp h; rw [e]; rfl
  | dict b => obtain ⟨_, _, _, _, e, _⟩ := h; rw [e]; rfl
theorem ev_isN {j : Nat} {p2 : Pos} (ha : EvE X a ds d1) : EvE X (.Compare a [.Is] [.Constant .none j p2] pos) ds (.bool (isNone d1)) := ev_cmp op_isN ha ev_non (fun v1 v2 F H Q s r1 r2 q => ⟨rp_non.mp r2, by rw [rp_isNone r1]; exact q _ F H (.refl s) (.bl _)⟩) (nomark _)
theorem ev_notN {j : Nat} {p2 : Pos} (ha : EvE X a ds d1) : EvE X (.Compare a [.IsNot] [.Constant .none j p2] pos) ds (.bool (!isNone d1)) := ev_cmp op_notN ha ev_non (fun v1 v2 F H Q s r1 r2 q => ⟨rp_non.mp r2, by rw [rp_isNone r1]; exact q _ F H (.refl s) (.bl _)⟩) (nomark _)
theorem evt_isN {j : Nat} {p2 : Pos} (ha : EvE X a ds d1) : EvT X (.Compare a [.Is] [.Constant .none j p2] pos) ds (isNone d1) := evt_cmp op_isN ha ev_non (fun v1 v2 F H Q s r1 r2 q => ⟨rp_non.mp r2, by rw [rp_isNone r1]; exact q _ F H (.refl s) (.bl _)⟩) (nomark _)
theorem evt_notN {j : Nat} {p2 : Pos} (ha : EvE X a ds d1) : EvT X (.Compare a [.IsNot] [.Constant .none j p2] pos) ds (!isNone d1) := evt_cmp op_notN ha ev_non (fun v1 v2 F H Q s r1 r2 q => ⟨rp_non.mp r2, by rw [rp_isNone r1]; exact q _ F H (.refl s) (.bl _)⟩) (nomark _)

/-! ### tests -/
variable {t1 t2 : Bool} {rest : List Expr}
theorem evt_val (h : EvE X e ds (.bool t1)) (he : ∀ whole, isTrue e X.env whole = (do let v ← whole; standAt e.pos; holding [v] (truthy v)) := by intro _; rfl) : EvT X e ds t1 := fun F0 H0 F H σ s Q q =>
  toT (pt_val wpE_pe he) (h F0 H0 F H σ s _ fun v F' H' x r => ⟨t1, rp_bl.mp r, q F' H' x⟩)
theorem evt_not (h : EvT X e ds t1) : EvT X (.UnaryOp .Not e pos) ds (!t1) := fun F0 H0 F H σ s Q q =>
  toT (pt_not wpT_pt) (h F0 H0 F H σ s _ fun F' H' x => q F' H' x)
theorem evw_and1 (h : EvT X a ds t1) : EvW X (.BoolOp .And [a] pos) ds t1 := fun F0 H0 F H σ s Q q => toW (pw_and1 wpT_pt) (h F0 H0 F H σ s _ q)
theorem evw_or1 (h : EvT X a ds t1) : EvW X (.BoolOp .Or [a] pos) ds t1 := fun F0 H0 F H σ s Q q => toW (pw_or1 wpT_pt) (h F0 H0 F H σ s _ q)
theorem evw_and (h1 : EvT X a ds t1) (h2 : t1 = true → EvW X (.BoolOp .And (b :: rest) pos) ds t2) : EvW X (.BoolOp .And (a :: b :: rest) pos) ds (t1 && t2) := fun F0 H0 F H σ s Q q =>
  toW (pw_and wpT_pt wpW_pw) (h1 F0 H0 F H σ s _ fun F' H' x => by
    cases t1 with
    | true => rw [if_pos rfl]; exact h2 rfl F0 H0 F' H' σ (s.to x) Q fun F2 H2 x2 => q F2 H2 (x.trans x2)
    | false => rw [if_neg (by decide)]; exact q F' H' x)
theorem evw_or (h1 : EvT X a ds t1) (h2 : t1 = false → EvW X (.BoolOp .Or (b :: rest) pos) ds t2) : EvW X (.BoolOp .Or (a :: b :: rest) pos) ds (t1 || t2) := fun F0 H0 F H σ s Q q =>
  toW (pw_or wpT_pt wpW_pw) (h1 F0 H0 F H σ s _ fun F' H' x => by
    cases t1 with
    | true => rw [if_pos rfl]; exact q F' H' x
    | false => rw [if_neg (by decide)]; exact h2 rfl F0 H0 F' H' σ (s.to x) Q fun F2 H2 x2 => q F2 H2 (x.trans x2))
theorem EvW.t (h : EvW X e ds t1) : EvT X e ds t1 := fun F0 H0 F H σ s Q q => toT (wpW_pw.pt) (h F0 H0 F H σ s Q q)
theorem ev_one {op : BoolOp} (h : EvE X a ds d) : EvE X (.BoolOp op [a] pos) ds d := fun F0 H0 F H σ s Q q => toE (pe_one wpE_pe) (h F0 H0 F H σ s Q q)
theorem ev_and (h1 : EvE X a ds (.bool t1)) (h2 : t1 = true → EvE X (.BoolOp .And (b :: rest) pos) ds (.bool t2)) : EvE X (.BoolOp .And (a :: b :: rest) pos) ds (.bool (t1 && t2)) := fun F0 H0 F H σ s Q q =>
  toE (pe_and wpE_pe wpE_pe) (h1 F0 H0 F H σ s _ fun v F' H' x r => ⟨t1, rp_bl.mp r, by
    cases t1 with
    | true => rw [if_pos rfl]; exact h2 rfl F0 H0 F' H' σ (s.to x) Q fun v F2 H2 x2 => q v F2 H2 (x.trans x2)
    | false => rw [if_neg (by decide)]; exact q _ F' H' x (.bl _)⟩)
theorem ev_or (h1 : EvE X a ds (.bool t1)) (h2 : t1 = false → EvE X (.BoolOp .Or (b :: rest) pos) ds (.bool t2)) : EvE X (.BoolOp .Or (a :: b :: rest) pos) ds (.bool (t1 || t2)) := fun F0 H0 F H σ s Q q =>
  toE (pe_or wpE_pe wpE_pe) (h1 F0 H0 F H σ s _ fun v F' H' x r => ⟨t1, rp_bl.mp r, by
    cases t1 with
    | true => rw [if_pos rfl]; exact q _ F' H' x (.bl _)
    | false => rw [if_neg (by decide)]; exact h2 rfl F0 H0 F' H' σ (s.to x) Q fun v F2 H2 x2 => q v F2 H2 (x.trans x2)⟩)
theorem ev_not (h : EvE X a ds (.bool t1)) : EvE X (.UnaryOp .Not a pos) ds (.bool (!t1)) := fun F0 H0 F H σ s Q q =>
  toE (pe_not wpE_pe) (h F0 H0 F H σ s _ fun v F' H' x r => ⟨t1, rp_bl.mp r, q _ F' H' x (.bl _)⟩)
theorem ev_ifT (hc : EvT X c ds t1) (e : t1 = true) (ha : EvE X a ds d) : EvE X (.IfExp c a b pos) ds d := fun F0 H0 F H σ s Q q =>
  toE (pe_ifExp wpT_pt wpE_pe wpE_pe) (hc F0 H0 F H σ s _ fun F' H' x => by
    rw [if_pos e]; exact ha F0 H0 F' H' σ (s.to x) Q fun v F2 H2 x2 => q v F2 H2 (x.trans x2))
theorem ev_ifF (hc : EvT X c ds t1) (e : t1 = false) (hb : EvE X b ds d) : EvE X (.IfExp c a b pos) ds d := fun F0 H0 F H σ s Q q =>
  toE (pe_ifExp wpT_pt wpE_pe wpE_pe) (hc F0 H0 F H σ s _ fun F' H' x => by
    rw [if_neg (by rw [e]; decide)]; exact hb F0 H0 F' H' σ (s.to x) Q fun v F2 H2 x2 => q v F2 H2 (x.trans x2))
/-- lo <= n <= hi -/
theorem evt_chain {op op' : CmpOp} {r r' : R2} (ho : OpR X (compareOp op) r) (ho' : OpR X (compareOp op') r') (ha : EvE X a ds d1) (hb : EvE X b ds d2) (hc : EvE X c ds d3) (h1 : OpD X r d1 d2 (.bool t1)) (h2 : OpD X r' d2 d3 (.bool t2))
    (hm : lastMarks [op, op'] [b, c] = false := by with_unfolding_all rfl) : EvT X (.Compare a [op, op'] [b, c] pos) ds (t1 && t2) := fun F0 H0 F H σ s Q q => by
  refine toT (pt_chain ho ho' wpE_pe wpE_pe wpE_pe hm) ?_
  refine ev2 ha hb s fun v1 v2 F' H' x r1 r2 => h1 v1 v2 F' H' _ x.fh r1 r2 fun v F2 H2 x2 r3 => ⟨t1, rp_bl.mp r3, ?_⟩
  cases t1 with
  | false => rw [if_neg (by decide)]; exact ⟨false, rfl, q F2 H2 (x.trans x2)⟩
  | true =>
    rw [if_pos rfl]
    exact hc F0 H0 F2 H2 σ (s.to (x.trans x2)) _ fun w F3 H3 x3 r4 => h2 v2 w F3 H3 _ x3.fh (rp_mono (x2.f.trans x3.f) r2) r4 fun v' F4 H4 x4 r5 => ⟨t2, rp_bl.mp r5, q F4 H4 (((x.trans x2).trans x3).trans x4)⟩
theorem evt_lele (ha : EvE X a ds (.int i)) {j2 : Int} (hb : EvE X b ds (.int j)) (hc : EvE X c ds (.int j2)) (hm : lastMarks [.LtE, .LtE] [b, c] = false := by with_unfolding_all rfl) : EvT X (.Compare a [.LtE, .LtE] [b, c] pos) ds (decide (i ≤ j) && decide (j ≤ j2)) :=
  evt_chain op_le op_le ha hb hc opd_B0 opd_B0 hm
end
end Vs

namespace Vs
open PySem PySem.Spec L2

section
variable {X : Cx} {N : List Str} {sc : Scope} {k : Nat} {ds : Sls} {d d1 d2 d3 : D} {as : List D} {e a b c o : Expr} {es : List Expr} {pos : Pos} {x : Str}

def GlS (sc : Scope) (x : Str) : Prop := sc.names.lookup x = some .globalImplicit
/-! ### argument lists, displays -/
theorem eva_nil : EvA X [] ds [] := fun F0 H0 F H σ s Q q => toA pa_nil (q [] F H (.refl s.fh) .nil)
theorem eva_cons (h : EvE X e ds d) (hr : EvA X es ds as) (hs : starEach (e :: es) X.env = (false, eval e X.env) :: starEach es X.env := by rfl) : EvA X (e :: es) ds (d :: as) := fun F0 H0 F H σ s Q q =>
  toA (pa_cons wpE_pe wpA_pa hs) (h F0 H0 F H σ s _ fun v F1 H1 x1 r1 => hr F0 H0 F1 H1 σ (s.to x1) _ fun vs F2 H2 x2 r2 => q (v :: vs) F2 H2 (x1.trans x2) (.cons (rp_mono x2.f r1) r2))
theorem ev_tup {n : Nat} (h : EvA X es ds as) (hn : as.all nodict = true) (hl : as.length ≤ sizeLine) : EvE X (.Tuple es n pos) ds (.tuple as) := fun F0 H0 F H σ s Q q =>
  toE (pe_tup wpA_pa) (h F0 H0 F H σ s _ fun vs F1 H1 x1 r1 => by
    have dp := rpAll_dp r1 hn
    refine ⟨by rw [dpAll_len dp]; exact hl, fun p hp => ?_⟩
    have x2 : Ext F1 H1 (upd F1 p (.tup vs)) (upd H1 p (.tup vs)) := .new x1.fh hp
    exact q _ _ _ (x1.trans x2) (rp_tup.mpr ⟨p, vs, rfl, SqT.of upd_same, dpAll_mono x2.f dp⟩))
theorem evn_lst (h : EvA X es ds as) (hn : as.all nodict = true) (hl : as.length ≤ sizeLine) : EvN X (.List es pos) ds as := fun F0 H0 F H σ s Q q =>
  toE (pe_lst wpA_pa) (h F0 H0 F H σ s _ fun vs F1 H1 x1 r1 => by
    have dp := rpAll_dp r1 hn
    refine ⟨by rw [dpAll_len dp]; exact hl, fun p hp => ?_⟩
    exact q p vs F1 _ (x1.trans (.newO x1.fh hp)) (x1.h.free hp) (x1.fh.free hp) upd_same dp)
theorem evm_nil : EvM X (.Dict [] [] pos) ds [] := fun F0 H0 F H σ s Q q =>
  toE pe_dnewK fun p hp => q p [] F _ (.newO s.fh hp) hp (s.fh.free hp) upd_same .nil

/-! ### what is mine, taken as fixed -/
inductive FrS : Sl → Sl → Prop where
  | same (s : Sl) : FrS s s
  | ow (xs : List D) : FrS (.ow xs) (.va (.list xs))
  | od (kv : List (Str × D)) : FrS (.od kv) (.va (mD kv))
abbrev Frz : Sls → Sls → Prop := Paired FrS
theorem frz_get : ∀ {ds ds' : Sls} {i : Nat} {s' : Sl}, Frz ds ds' → ds'[i]? = some s' → ∃ s, ds[i]? = some s ∧ FrS s s'
  | _, _, _, _, .nil, e => by simp at e
  | _, _, 0, _, .cons h _, e => by
    have e := Option.some.inj e
    subst e
    exact ⟨_, rfl, h⟩
  | _, _, i + 1, _, .cons _ r, e => frz_get (i := i) r e
theorem frz_get' : ∀ {ds ds' : Sls} {i : Nat} {s : Sl}, Frz ds ds' → ds[i]? = some s → ∃ s', ds'[i]? = some s' ∧ FrS s s'
  | _, _, _, _, .nil, e => by simp at e
  | _, _, 0, _, .cons h _, e => by
    have e := Option.some.inj e
    subst e
    exact ⟨_, rfl, h⟩
  | _, _, i + 1, _, .cons _ r, e => frz_get' (i := i) r e
theorem frz_len : ∀ {ds ds' : Sls}, Frz ds ds' → ds'.length = ds.length
  | _, _, .nil => rfl
  | _, _, .cons _ r => congrArg (· + 1) (frz_len r)
open Classical in
/-- the fixed part with the frozen slots' objects -/
noncomputable def frzH (F H : Hp) (σ : St) (ds ds' : Sls) : Hp := fun b => if ∃ i, Mine ds i ∧ ¬ Mine ds' i ∧ σ[i]? = some (some (.ref b)) then H b else F b
theorem StR.mine {K : PySem.W.Frag} {F0 H0 F H : Hp} {σ : St} (r : StR K F0 H0 F H σ ds) {i : Nat} {b : Addr} (m : Mine ds i) (e : σ[i]? = some (some (.ref b))) : H0 b = none ∧ F b = none := by
  obtain ⟨s, h1, h2⟩ := m
  have q := r.at_ i s h1
  cases s with
  | no => cases h2
  | rf a => cases h2
  | va d => cases h2
  | ow xs =>
    obtain ⟨a, vs, e1, e2, e3, _⟩ := q
    rw [e] at e1
    cases e1
    exact ⟨e2, e3⟩
  | od xs =>
    obtain ⟨a, vs, e1, e2, e3, _⟩ := q
    rw [e] at e1
    cases e1
    exact ⟨e2, e3⟩
theorem StR.frz {K : PySem.W.Frag} {F0 H0 F H : Hp} {σ : St} {ds' : Sls} (r : StR K F0 H0 F H σ ds) (z : Frz ds ds') : ∃ F1, StR K F0 H0 F1 H σ ds' ∧ Same F F1 := by
  have inF : ∀ {b : Addr} {i : Nat}, Mine ds i → ¬ Mine ds' i → σ[i]? = some (some (.ref b)) → frzH F H σ ds ds' b = H b := fun {b i} h1 h2 h3 => if_pos ⟨i, h1, h2, h3⟩
  have outF : ∀ {b : Addr}, (∀ i, Mine ds i → ¬ Mine ds' i → σ[i]? ≠ some (some (.ref b))) → frzH F H σ ds ds' b = F b := fun {b} h => if_neg fun ⟨i, h1, h2, h3⟩ => h i h1 h2 h3
  have sF : Same F (frzH F H σ ds ds') := fun b o e => by
    rw [outF]
    · exact e
    · intro i h1 _ h3
      rw [(r.mine h1 h3).2] at e
      cases e
  refine ⟨frzH F H σ ds ds', ⟨⟨r.ext.f.trans sF, r.ext.h, fun b o e => ?_, fun b e n => ?_⟩, by rw [r.len, frz_len z], fun i s e => ?_, fun i j a m1 m2 e1 e2 => ?_⟩, sF⟩
  · unfold frzH at e
    split at e
    · exact e
    · exact r.fh b o e
  · rw [outF]
    · exact r.ext.own b e n
    · intro i h1 _ h3
      exact n (r.mine h1 h3).1
  · obtain ⟨s0, e0, f⟩ := frz_get z e
    have q := r.at_ i s0 e0
    have nm : ∀ d, ds'[i]? = some (.va d) → ¬ Mine ds' i := fun d h ⟨t, h1, h2⟩ => by
      rw [h] at h1
      cases h1
      cases h2
    cases f with
    | same =>
      cases s with
      | no => trivial
      | rf a => exact q
      | va d =>
        obtain ⟨v, h1, h2⟩ := q
        exact ⟨v, h1, rp_mono sF h2⟩
      | ow xs =>
        obtain ⟨a, vs, h1, h2, h3, h4, h5⟩ := q
        refine ⟨a, vs, h1, h2, ?_, h4, dpAll_mono sF h5⟩
        rw [outF]
        · exact h3
        · intro j m1 m2 h6
          have e := r.sep j i a m1 ⟨_, e0, rfl⟩ h6 h1
          subst e
          exact m2 ⟨_, e, rfl⟩
      | od xs =>
        obtain ⟨a, vs, h1, h2, h3, h4, h5⟩ := q
        refine ⟨a, vs, h1, h2, ?_, h4, kvR_mono sF h5⟩
        rw [outF]
        · exact h3
        · intro j m1 m2 h6
          have e := r.sep j i a m1 ⟨_, e0, rfl⟩ h6 h1
          subst e
          exact m2 ⟨_, e, rfl⟩
    | ow xs =>
      obtain ⟨a, vs, h1, h2, h3, h4, h5⟩ := q
      refine ⟨.ref a, h1, rp_lst.mpr ⟨a, vs, rfl, SqL.of ?_, dpAll_mono sF h5⟩⟩
      rw [inF ⟨_, e0, rfl⟩ (nm _ e) h1]
      exact h4
    | od xs =>
      obtain ⟨a, vs, h1, h2, h3, h4, h5⟩ := q
      refine ⟨.ref a, h1, rp_dict.mpr ⟨a, vs, rfl, ?_, kvR_mono sF h5⟩⟩
      rw [inF ⟨_, e0, rfl⟩ (nm _ e) h1]
      exact h4
  · have w : ∀ i, Mine ds' i → Mine ds i := fun i ⟨s, h1, h2⟩ => by
      obtain ⟨s0, e0, f⟩ := frz_get z h1
      cases f with
      | same => exact ⟨_, e0, h2⟩
      | ow => cases h2
      | od => cases h2
    exact r.sep i j a (w i m1) (w j m2) e1 e2
def frzAll : Sls → Sls
  | [] => []
  | .ow xs :: r => .va (.list xs) :: frzAll r
  | .od kv :: r => .va (mD kv) :: frzAll r
  | .no :: r => .no :: frzAll r
  | .rf a :: r => .rf a :: frzAll r
  | .va d :: r => .va d :: frzAll r
theorem frzAll_frz : ∀ ds : Sls, Frz ds (frzAll ds)
  | [] => .nil
  | .ow xs :: r => .cons (.ow xs) (frzAll_frz r)
  | .od kv :: r => .cons (.od kv) (frzAll_frz r)
  | .no :: r => .cons (.same _) (frzAll_frz r)
  | .rf a :: r => .cons (.same _) (frzAll_frz r)
  | .va d :: r => .cons (.same _) (frzAll_frz r)
/-- a text, an int, .. may be reckoned with all slots taken as fixed -/
theorem EvE.lift {ds' : Sls} (z : Frz ds ds') (h : EvE X e ds' d) (n : scalar d = true) : EvE X e ds d := fun F0 H0 F H σ s Q q => by
  obtain ⟨F1, s1, sF⟩ := s.frz z
  exact h F0 H0 F1 H σ s1 Q fun v F' H' x r => q v F H' (.grow s.fh x.h) (rp_scalar n r)
theorem EvT.lift {ds' : Sls} {t : Bool} (z : Frz ds ds') (h : EvT X e ds' t) : EvT X e ds t := fun F0 H0 F H σ s Q q => by
  obtain ⟨F1, s1, sF⟩ := s.frz z
  exact h F0 H0 F1 H σ s1 Q fun F' H' x => q F H' (.grow s.fh x.h)

/-! ### calls of built-ins -/
def CaD (X : Cx) (r : List V → Hp → VK → Prop) (as : List D) (d : D) : Prop := ∀ (vs : List V) (F H : Hp) (Q : VK), Same F H → RpAll X.K F vs as → (∀ v F' H', Ext F H F' H' → Rp X.K F' v d → Q v H') → r vs H Q
def CaN (X : Cx) (r : List V → Hp → VK → Prop) (as : List D) (xs : List D) : Prop := ∀ (vs : List V) (F H : Hp) (Q : VK), Same F H → RpAll X.K F vs as →
  (∀ p vs F' H', Ext F H F' H' → H p = none → F' p = none → H' p = some (.lst vs) → DpAll X.K F' vs xs → Q (.ref p) H') → r vs H Q
variable {id T : String} {r : List V → Hp → VK → Prop} {p : Pos} {xs : List D}
theorem ev_callB (A : Wh X N sc k) (hc : CallR X (.builtin id) r) (hg : GlS sc x) (hm : X.mg x = none) (hv : bootBuiltins x = some (.builtin id)) (ha : EvA X (e :: es) ds as) (hr : CaD X r as d) (hn : x ≠ "__name__" := by decide) (hdb : (x == ("__debug__" : Str)) = false := by decide)
    (he : starEach (e :: es) X.env = (false, eval e X.env) :: starEach es X.env := by rfl) (hpl : (backTo pos (starEach es X.env)).any (·.1) = false := by rfl) : EvE X (.Call (.Name x p) (e :: es) [] pos) ds d := fun F0 H0 F H σ s Q q =>
  toE (pe_callB hc (A.gl hg) hm hv wpA_pa hn hdb he hpl) (ha F0 H0 F H σ s _ fun vs F1 H1 x1 r1 => hr vs F1 H1 Q x1.fh r1 fun v F2 H2 x2 r2 => q v F2 H2 (x1.trans x2) r2)
theorem evn_callB (A : Wh X N sc k) (hc : CallR X (.builtin id) r) (hg : GlS sc x) (hm : X.mg x = none) (hv : bootBuiltins x = some (.builtin id)) (ha : EvA X (e :: es) ds as) (hr : CaN X r as xs) (hn : x ≠ "__name__" := by decide) (hdb : (x == ("__debug__" : Str)) = false := by decide)
    (he : starEach (e :: es) X.env = (false, eval e X.env) :: starEach es X.env := by rfl) (hpl : (backTo pos (starEach es X.env)).any (·.1) = false := by rfl) : EvN X (.Call (.Name x p) (e :: es) [] pos) ds xs := fun F0 H0 F H σ s Q q =>
  toE (pe_callB hc (A.gl hg) hm hv wpA_pa hn hdb he hpl) (ha F0 H0 F H σ s _ fun vs F1 H1 x1 r1 => hr vs F1 H1 Q x1.fh r1 fun p vs F2 H2 x2 n1 n2 n3 n4 => q p vs F2 H2 (x1.trans x2) (x1.h.free n1) n2 n3 n4)
theorem ev_callTy (A : Wh X N sc k) (hc : CallR X (.type T) r) (hg : GlS sc x) (hm : X.mg x = none) (hv : bootBuiltins x = some (.type T)) (ha : EvA X (e :: es) ds as) (hr : CaD X r as d) (hn : x ≠ "__name__" := by decide) (hdb : (x == ("__debug__" : Str)) = false := by decide)
    (he : starEach (e :: es) X.env = (false, eval e X.env) :: starEach es X.env := by rfl) (hpl : (backTo pos (starEach es X.env)).any (·.1) = false := by rfl) : EvE X (.Call (.Name x p) (e :: es) [] pos) ds d := fun F0 H0 F H σ s Q q =>
  toE (pe_callTy hc (A.gl hg) hm hv wpA_pa hn hdb he hpl) (ha F0 H0 F H σ s _ fun vs F1 H1 x1 r1 => hr vs F1 H1 Q x1.fh r1 fun v F2 H2 x2 r2 => q v F2 H2 (x1.trans x2) r2)
theorem evn_callTy (A : Wh X N sc k) (hc : CallR X (.type T) r) (hg : GlS sc x) (hm : X.mg x = none) (hv : bootBuiltins x = some (.type T)) (ha : EvA X (e :: es) ds as) (hr : CaN X r as xs) (hn : x ≠ "__name__" := by decide) (hdb : (x == ("__debug__" : Str)) = false := by decide)
    (he : starEach (e :: es) X.env = (false, eval e X.env) :: starEach es X.env := by rfl) (hpl : (backTo pos (starEach es X.env)).any (·.1) = false := by rfl) : EvN X (.Call (.Name x p) (e :: es) [] pos) ds xs := fun F0 H0 F H σ s Q q =>
  toE (pe_callTy hc (A.gl hg) hm hv wpA_pa hn hdb he hpl) (ha F0 H0 F H σ s _ fun vs F1 H1 x1 r1 => hr vs F1 H1 Q x1.fh r1 fun p vs F2 H2 x2 n1 n2 n3 n4 => q p vs F2 H2 (x1.trans x2) (x1.h.free n1) n2 n3 n4)
theorem rpAll1 {K : PySem.W.Frag} {H : Hp} {vs : List V} {d : D} (h : RpAll K H vs [d]) : ∃ v, vs = [v] ∧ Rp K H v d := by
  cases h with
  | cons h r => cases r; exact ⟨_, rfl, h⟩
theorem rpAll2 {K : PySem.W.Frag} {H : Hp} {vs : List V} {d d' : D} (h : RpAll K H vs [d, d']) : ∃ v v', vs = [v, v'] ∧ Rp K H v d ∧ Rp K H v' d' := by
  cases h with
  | cons h r =>
    obtain ⟨v, rfl, h'⟩ := rpAll1 r
    exact ⟨_, _, rfl, h, h'⟩
/-! the built-ins one by one -/
variable {i j n : Int} {z y : Str}
theorem ev_lenL (A : Wh X N sc k) (hg : GlS sc "len") (hm : X.mg "len" = none) (h : EvE X e ds (.list xs)) (he : starEach (e :: []) X.env = (false, eval e X.env) :: starEach [] X.env := by rfl) : EvE X (.Call (.Name "len" p) [e] [] pos) ds (.int xs.length) :=
  ev_callB A call_len_seq hg hm PySem.boot_len (eva_cons h eva_nil he) (fun vs F H Q s r q => by
    obtain ⟨v, rfl, r1⟩ := rpAll1 r
    obtain ⟨a, ws, rfl, h1, h2⟩ := rp_lst.mp r1
    exact ⟨a, ws, rfl, .inl (s.seq h1), by rw [dpAll_len h2]; exact q _ F H (.refl s) (.int _)⟩) (by decide) (by decide) he
theorem ev_lenT (A : Wh X N sc k) (hg : GlS sc "len") (hm : X.mg "len" = none) (h : EvE X e ds (.tuple xs)) (he : starEach (e :: []) X.env = (false, eval e X.env) :: starEach [] X.env := by rfl) : EvE X (.Call (.Name "len" p) [e] [] pos) ds (.int xs.length) :=
  ev_callB A call_len_seq hg hm PySem.boot_len (eva_cons h eva_nil he) (fun vs F H Q s r q => by
    obtain ⟨v, rfl, r1⟩ := rpAll1 r
    obtain ⟨a, ws, rfl, h1, h2⟩ := rp_tup.mp r1
    exact ⟨a, ws, rfl, .inr (sqT_mono s h1), by rw [dpAll_len h2]; exact q _ F H (.refl s) (.int _)⟩) (by decide) (by decide) he
theorem ev_lenS (A : Wh X N sc k) (hg : GlS sc "len") (hm : X.mg "len" = none) (h : EvE X e ds (.str z)) (hz : z.length ≤ sizeLine) (he : starEach (e :: []) X.env = (false, eval e X.env) :: starEach [] X.env := by rfl) : EvE X (.Call (.Name "len" p) [e] [] pos) ds (.int z.length) :=
  ev_callB A call_len_str hg hm PySem.boot_len (eva_cons h eva_nil he) (fun vs F H Q s r q => by
    obtain ⟨v, rfl, r1⟩ := rpAll1 r
    exact ⟨z, by rw [rp_str.mp r1], hz, q _ F H (.refl s) (.int _)⟩) (by decide) (by decide) he
theorem ev_abs (A : Wh X N sc k) (hg : GlS sc "abs") (hm : X.mg "abs" = none) (h : EvE X e ds (.int i)) (he : starEach (e :: []) X.env = (false, eval e X.env) :: starEach [] X.env := by rfl) : EvE X (.Call (.Name "abs" p) [e] [] pos) ds (.int i.natAbs) :=
  ev_callB A call_abs hg hm (by decide +kernel) (eva_cons h eva_nil he) (fun vs F H Q s r q => by
    obtain ⟨v, rfl, r1⟩ := rpAll1 r
    refine ⟨i, by rw [rp_int.mp r1], ?_⟩
    rw [show (if i < 0 then -i else i) = (i.natAbs : Int) by split <;> omega]
    exact q _ F H (.refl s) (.int _)) (by decide) (by decide) he
theorem ev_min2 (A : Wh X N sc k) (hg : GlS sc "min") (hm : X.mg "min" = none) (h : EvE X a ds (.int i)) (h' : EvE X b ds (.int j)) (he : starEach (a :: [b]) X.env = (false, eval a X.env) :: starEach [b] X.env := by rfl) (he2 : starEach (b :: []) X.env = (false, eval b X.env) :: starEach [] X.env := by rfl)
    (hpl : (backTo pos (starEach [b] X.env)).any (·.1) = false := by rfl) : EvE X (.Call (.Name "min" p) [a, b] [] pos) ds (.int (min i j)) :=
  ev_callB A (call_min2 A.calm) hg hm (by decide +kernel) (eva_cons h (eva_cons h' eva_nil he2) he) (fun vs F H Q s r q => by
    obtain ⟨v, v', rfl, r1, r2⟩ := rpAll2 r
    refine ⟨i, j, by rw [rp_int.mp r1, rp_int.mp r2], ?_⟩
    rw [show (if j < i then j else i) = min i j by split <;> omega]
    exact q _ F H (.refl s) (.int _)) (by decide) (by decide) he hpl
theorem ev_sum {ns : List Int} (A : Wh X N sc k) (hg : GlS sc "sum") (hm : X.mg "sum" = none) (h : EvE X e ds (.list (ns.map .int))) (he : starEach (e :: []) X.env = (false, eval e X.env) :: starEach [] X.env := by rfl) : EvE X (.Call (.Name "sum" p) [e] [] pos) ds (.int ns.sum) :=
  ev_callB A (cr_sum A.calm) hg hm (by decide +kernel) (eva_cons h eva_nil he) (fun vs F H Q s r q => by
    obtain ⟨v, rfl, r1⟩ := rpAll1 r
    obtain ⟨a, ws, rfl, h1, h2⟩ := rp_lst.mp r1
    exact ⟨a, ns, rfl, by rw [← dpAll_ints h2]; exact s.seq h1, q _ F H (.refl s) (.int _)⟩) (by decide) (by decide) he
theorem ev_any {ns : List Bool} (A : Wh X N sc k) (hg : GlS sc "any") (hm : X.mg "any" = none) (h : EvE X e ds (.list (ns.map .bool))) (he : starEach (e :: []) X.env = (false, eval e X.env) :: starEach [] X.env := by rfl) : EvE X (.Call (.Name "any" p) [e] [] pos) ds (.bool (ns.any fun t => t)) :=
  ev_callB A (cr_any A.calm) hg hm (by decide +kernel) (eva_cons h eva_nil he) (fun vs F H Q s r q => by
    obtain ⟨v, rfl, r1⟩ := rpAll1 r
    obtain ⟨a, ws, rfl, h1, h2⟩ := rp_lst.mp r1
    exact ⟨a, ns, rfl, by rw [← dpAll_bls h2]; exact s.seq h1, q _ F H (.refl s) (.bl _)⟩) (by decide) (by decide) he
theorem ev_all {ns : List Bool} (A : Wh X N sc k) (hg : GlS sc "all") (hm : X.mg "all" = none) (h : EvE X e ds (.list (ns.map .bool))) (he : starEach (e :: []) X.env = (false, eval e X.env) :: starEach [] X.env := by rfl) : EvE X (.Call (.Name "all" p) [e] [] pos) ds (.bool (ns.all fun t => t)) :=
  ev_callB A (cr_all A.calm) hg hm (by decide +kernel) (eva_cons h eva_nil he) (fun vs F H Q s r q => by
    obtain ⟨v, rfl, r1⟩ := rpAll1 r
    obtain ⟨a, ws, rfl, h1, h2⟩ := rp_lst.mp r1
    exact ⟨a, ns, rfl, by rw [← dpAll_bls h2]; exact s.seq h1, q _ F H (.refl s) (.bl _)⟩) (by decide) (by decide) he
theorem evn_list (A : Wh X N sc k) (hg : GlS sc "list") (hm : X.mg "list" = none) (h : EvE X e ds (.list xs)) (he : starEach (e :: []) X.env = (false, eval e X.env) :: starEach [] X.env := by rfl) : EvN X (.Call (.Name "list" p) [e] [] pos) ds xs :=
  evn_callTy A call_list_of hg hm (by decide +kernel) (eva_cons h eva_nil he) (fun vs F H Q s r q => by
    obtain ⟨v, rfl, r1⟩ := rpAll1 r
    obtain ⟨a, ws, rfl, h1, h2⟩ := rp_lst.mp r1
    exact ⟨a, ws, rfl, .inl (s.seq h1), fun l hl => q l ws F _ (.newO s hl) hl (s.free hl) upd_same h2⟩) (by decide) (by decide) he
theorem kvR_keys {K : PySem.W.Frag} {H : Hp} : ∀ {ks : List (Key × V)} {kv : List (Str × D)}, KvR K H ks kv → DpAll K H (ks.map fun p => kV p.1) (kv.map fun p => .str p.1)
  | _, _, .nil => .nil
  | _, _, .cons (a := a) (b := b) h r => by
    refine .cons ?_ (kvR_keys r)
    show Dp K H (kV a.1) (.str b.1)
    rw [h.1]
    exact Dp.str _
theorem evn_listD {kv : List (Str × D)} (A : Wh X N sc k) (hg : GlS sc "list") (hm : X.mg "list" = none) (h : EvE X e ds (mD kv)) (he : starEach (e :: []) X.env = (false, eval e X.env) :: starEach [] X.env := by rfl) : EvN X (.Call (.Name "list" p) [e] [] pos) ds (kv.map fun p => .str p.1) :=
  evn_callTy A (call_list_dK A.calm) hg hm (by decide +kernel) (eva_cons h eva_nil he) (fun vs F H Q s r q => by
    obtain ⟨v, rfl, r1⟩ := rpAll1 r
    obtain ⟨a, ws, rfl, h1, h2⟩ := rp_dict.mp r1
    exact ⟨a, ws, rfl, s _ _ h1, fun l hl => q l _ F _ (.newO s hl) hl (s.free hl) upd_same (kvR_keys h2)⟩) (by decide) (by decide) he
theorem ev_strI (A : Wh X N sc k) (hg : GlS sc "str") (hm : X.mg "str" = none) (h : EvE X e ds (.int i)) (hb : i.natAbs.log2 < 1920) (he : starEach (e :: []) X.env = (false, eval e X.env) :: starEach [] X.env := by rfl) : EvE X (.Call (.Name "str" p) [e] [] pos) ds (.str (toString i)) :=
  ev_callTy A call_str_int hg hm (by decide +kernel) (eva_cons h eva_nil he) (fun vs F H Q s r q => by
    obtain ⟨v, rfl, r1⟩ := rpAll1 r
    exact ⟨i, by rw [rp_int.mp r1], hb, q _ F H (.refl s) (.str _)⟩) (by decide) (by decide) he
theorem ev_intS (A : Wh X N sc k) (hg : GlS sc "int") (hm : X.mg "int" = none) (h : EvE X e ds (.str z)) (hb : PySem.intText? z = some n) (hl : z.length ≤ 640) (he : starEach (e :: []) X.env = (false, eval e X.env) :: starEach [] X.env := by rfl) : EvE X (.Call (.Name "int" p) [e] [] pos) ds (.int n) :=
  ev_callTy A call_int_str hg hm (by decide +kernel) (eva_cons h eva_nil he) (fun vs F H Q s r q => by
    obtain ⟨v, rfl, r1⟩ := rpAll1 r
    exact ⟨z, n, by rw [rp_str.mp r1], hb, hl, q _ F H (.refl s) (.int _)⟩) (by decide) (by decide) he
theorem ev_intB {t : Bool} (A : Wh X N sc k) (hg : GlS sc "int") (hm : X.mg "int" = none) (h : EvE X e ds (.bool t)) (he : starEach (e :: []) X.env = (false, eval e X.env) :: starEach [] X.env := by rfl) : EvE X (.Call (.Name "int" p) [e] [] pos) ds (.int (if t then 1 else 0)) :=
  ev_callTy A call_int1 hg hm (by decide +kernel) (eva_cons h eva_nil he) (fun vs F H Q s r q => by
    obtain ⟨v, rfl, r1⟩ := rpAll1 r
    exact .inr ⟨t, by rw [rp_bl.mp r1], q _ F H (.refl s) (.int _)⟩) (by decide) (by decide) he

/-! ### isinstance -/
def tyN : D → String
  | .none => "NoneType"
  | .bool _ => "bool"
  | .int _ => "int"
  | .str _ => "str"
  | .list _ => "list"
  | .tuple _ => "tuple"
  | .dict _ => "dict"
theorem tyX_of {K : PySem.W.Frag} {F H : Hp} {v : V} {d : D} (s : Same F H) (r : Rp K F v d) : TyX K H v (.type (tyN d)) := by
  cases d with
  | none => rw [rp_non.mp r]; exact .base .non
  | bool b => rw [rp_bl.mp r]; exact .base (.bl b)
  | int i => rw [rp_int.mp r]; exact .base (.int i)
  | str i => rw [rp_str.mp r]; exact .base (.str i)
  | list i =>
    obtain ⟨a, vs, rfl, h, _⟩ := rp_lst.mp r
    rcases h with (h | ⟨o, h⟩) | ⟨o, its, n, h1, h2, _⟩
    · exact .base (.lst (s _ _ h))
    · exact .base (.frz (s _ _ h))
    · exact .kList h1 h2
  | tuple i =>
    obtain ⟨a, vs, rfl, h, _⟩ := rp_tup.mp r
    rcases h with (h | ⟨o, h⟩) | ⟨o, its, n, h1, h2, _⟩
    · exact .base (.tup (s _ _ h))
    · exact .fTuple (s _ _ h)
    · exact .kTuple h1 h2
  | dict i =>
    obtain ⟨a, ks, kv, _, rfl, h, _⟩ := r
    exact .base (.dK (s _ _ h))
/-- the second argument is a built-in class, by its name -/
theorem ev_isi {t : Bool} {p2 : Pos} (A : Wh X N sc k) (hg : GlS sc "isinstance") (hm : X.mg "isinstance" = none) (h : EvE X e ds d) (T : String) (hgT : GlS sc x) (hmT : X.mg x = none) (hvT : bootBuiltins x = some (.type T)) (hk : kitB (tyN d) T = some t)
    (hn : x ≠ "__name__" := by decide) (hdb : (x == ("__debug__" : Str)) = false := by decide)
    (he : starEach (e :: [.Name x p2]) X.env = (false, eval e X.env) :: starEach [.Name x p2] X.env := by rfl) : EvE X (.Call (.Name "isinstance" p) [e, .Name x p2] [] pos) ds (.bool t) := fun F0 H0 F H σ s Q q => by
  refine toE (pe_callB call_isi (A.gl hg) hm (by decide +kernel) (pa_cons wpE_pe (pa_cons (pe_bltn (v := .ty T) (A.gl hgT) hmT hvT rfl hn hdb) pa_nil (by rfl)) he) (by decide) (by decide) he (by rfl)) ?_
  refine h F0 H0 F H σ s _ fun v F' H' x r => ?_
  exact ⟨v, .ty T, .type (tyN d), .type T, t, rfl, .ty T, tyX_of x.fh r, kit_ty hk, q _ F' H' x (.bl _)⟩

/-! ### subscripts -/
variable {s1 : Expr}
theorem dpAll_atI {K : PySem.W.Frag} {H : Hp} {vs : List V} {ds : List D} {i : Int} {d : D} (h : DpAll K H vs ds) (e : atI ds i = some d) : ∃ v, atI vs i = some v ∧ Dp K H v d := by
  unfold atI at *
  rw [dpAll_len h]
  cases q : ixN ds.length i with
  | none => rw [q] at e; cases e
  | some j =>
    rw [q] at e
    exact dpAll_get h e
theorem ev_ixL (ha : EvE X a ds (.list xs)) (hb : EvE X b ds (.int i)) (h : atI xs i = some d) (hs : PlainIx b := by exact fun _ _ => rfl) : EvE X (.Subscript a b pos) ds d := fun F0 H0 F H σ s Q q =>
  toE (pe_ix ix_list wpE_pe wpE_pe hs) (ev2 ha hb s fun v1 v2 F' H' x r1 r2 => by
    obtain ⟨p, vs, rfl, h1, h2⟩ := rp_lst.mp r1
    obtain ⟨v, e, dp⟩ := dpAll_atI h2 h
    exact ⟨p, vs, i, v, rfl, rp_int.mp r2, x.fh.seq h1, e, q v F' H' x (rp_of dp)⟩)
theorem ev_ixT (ha : EvE X a ds (.tuple xs)) (hb : EvE X b ds (.int i)) (h : atI xs i = some d) (hs : PlainIx b := by exact fun _ _ => rfl) : EvE X (.Subscript a b pos) ds d := fun F0 H0 F H σ s Q q =>
  toE (pe_ix ix_tup wpE_pe wpE_pe hs) (ev2 ha hb s fun v1 v2 F' H' x r1 r2 => by
    obtain ⟨p, vs, rfl, h1, h2⟩ := rp_tup.mp r1
    obtain ⟨v, e, dp⟩ := dpAll_atI h2 h
    exact ⟨p, vs, i, v, rfl, rp_int.mp r2, sqT_mono x.fh h1, e, q v F' H' x (rp_of dp)⟩)
theorem ev_ixS {c : Nat} (ha : EvE X a ds (.str z)) (hb : EvE X b ds (.int i)) (hl : z.length ≤ sizeLine) (h : atI z.cps.toList i = some c) (hs : PlainIx b := by exact fun _ _ => rfl) : EvE X (.Subscript a b pos) ds (.str ⟨#[c]⟩) := fun F0 H0 F H σ s Q q =>
  toE (pe_ix ix_str wpE_pe wpE_pe hs) (ev2 ha hb s fun v1 v2 F' H' x r1 r2 =>
    ⟨z, i, c, rp_str.mp r1, rp_int.mp r2, hl, h, q _ F' H' x (.str _)⟩)
/-- an item of a list of one's own -/
theorem ev_ixO (A : Wh X N sc k) (m : Nat) (hi : N[m]? = some x) (hv : Vis sc x) (h : ds[m]? = some (.ow xs)) (hb : EvE X b ds (.int i)) (hx : atI xs i = some d) (hs : PlainIx b := by exact fun _ _ => rfl) (hd : (x == ("__debug__" : Str)) = false := by decide) (hcd : (x == ("__classdict__" : Str)) = false := by decide) : EvE X (.Subscript (.Name x p) b pos) ds d := by
  intro F0 H0 F H σ r Q q
  obtain ⟨a, vs, e1, e2, e3, e4, e5⟩ := r.at_ m _ h
  refine toE (pe_ix ix_list (pe_var (i := m) (by rw [A.hN]; exact hi) (by rw [A.hsc]; exact hv) hd hcd) wpE_pe hs) ⟨_, e1, ?_⟩
  refine hb F0 H0 F H σ r _ fun v2 F' H' x r2 => ?_
  obtain ⟨v, e, dp⟩ := dpAll_atI (dpAll_mono x.f e5) hx
  exact ⟨a, vs, i, v, rfl, rp_int.mp r2, SqL.of (x.h _ _ e4), e, q v F' H' x (rp_of dp)⟩
/-! slices -/
/-- a bound of a slice -/
def EvO (X : Cx) (e : Option Expr) (ds : Sls) (o : Option Int) : Prop := match e, o with
  | none, none => True
  | some e, some i => EvE X e ds (.int i)
  | _, _ => False
theorem evo_run {lo : Option Expr} {l : Option Int} (h : EvO X lo ds l) : ∃ tl, PO X lo tl ∧ ∀ (F0 H0 F H : Hp) (σ : St), StR X.K F0 H0 F H σ ds → ∀ Q : Option Int → Hp → Prop, (∀ F' H', Ext F H F' H' → Q l H') → tl σ H Q := by
  cases lo with
  | none =>
    cases l with
    | none => exact ⟨_, po_none, fun F0 H0 F H σ s Q q => q F H (.refl s.fh)⟩
    | some i => exact h.elim
  | some e =>
    cases l with
    | none => exact h.elim
    | some i => exact ⟨_, po_some wpE_pe, fun F0 H0 F H σ s Q q => (show EvE X e ds (.int i) from h) F0 H0 F H σ s _ fun v F' H' x r => ⟨i, rp_int.mp r, q F' H' x⟩⟩
variable {lo hi : Option Expr} {l h : Option Int} {p2 : Pos}
def cutD (xs : List D) (lo hi : Option Int) : List D := (xs.drop (HT.sIx xs.length 0 lo)).take (HT.sIx xs.length xs.length hi - HT.sIx xs.length 0 lo)
theorem dpAll_cut {K : PySem.W.Frag} {H : Hp} {vs : List V} {ds : List D} (h : DpAll K H vs ds) (lo hi : Option Int) : DpAll K H (cutV vs lo hi) (cutD ds lo hi) := by
  unfold cutV cutD
  rw [dpAll_len h]
  exact dpAll_take _ (dpAll_drop _ h)
theorem evn_slL (ha : EvE X a ds (.list xs)) (hl : EvO X lo ds l) (hh : EvO X hi ds h) : EvN X (.Subscript a (.Slice lo hi none p2) pos) ds (cutD xs l h) := fun F0 H0 F H σ s Q q => by
  obtain ⟨tl, pl, ql⟩ := evo_run hl
  obtain ⟨th, ph, qh⟩ := evo_run hh
  refine toE (pe_slice sl_list wpE_pe pl ph) (ha F0 H0 F H σ s _ fun v F1 H1 x1 r1 => ql F0 H0 F1 H1 σ (s.to x1) _ fun F2 H2 x2 => qh F0 H0 F2 H2 σ ((s.to x1).to x2) _ fun F3 H3 x3 => ?_)
  obtain ⟨p, vs, rfl, h1, h2⟩ := rp_lst.mp (rp_mono (x2.f.trans x3.f) r1)
  have x := (x1.trans x2).trans x3
  exact ⟨p, vs, rfl, x3.fh.seq h1, fun l hl => q l _ F3 _ (x.trans (.newO x3.fh hl)) (x.h.free hl) (x3.fh.free hl) upd_same (dpAll_cut h2 _ _)⟩
theorem ev_slS (ha : EvE X a ds (.str z)) (hl : EvO X lo ds l) (hh : EvO X hi ds h) (hz : z.length ≤ sizeLine) : EvE X (.Subscript a (.Slice lo hi none p2) pos) ds (.str (cutS z l h)) := fun F0 H0 F H σ s Q q => by
  obtain ⟨tl, pl, ql⟩ := evo_run hl
  obtain ⟨th, ph, qh⟩ := evo_run hh
  refine toE (pe_slice sl_str wpE_pe pl ph) (ha F0 H0 F H σ s _ fun v F1 H1 x1 r1 => ql F0 H0 F1 H1 σ (s.to x1) _ fun F2 H2 x2 => qh F0 H0 F2 H2 σ ((s.to x1).to x2) _ fun F3 H3 x3 => ?_)
  exact ⟨z, rp_str.mp r1, hz, q _ F3 H3 ((x1.trans x2).trans x3) (.str _)⟩
/-! dicts -/
theorem kvR_val {K : PySem.W.Frag} {H : Hp} {kk : Str} : ∀ {ks : List (Key × V)} {kv : List (Str × D)}, KvR K H ks kv → (∀ d, kv.lookup kk = some d → ∃ v, valV ks (Sum.inr kk) = some v ∧ Dp K H v d) ∧ (kv.lookup kk = none → valV ks (Sum.inr kk) = none)
  | _, _, .nil => ⟨fun d e => (nomatch e), fun _ => rfl⟩
  | _, _, .cons (a := a) (b := b) h r => by
    obtain ⟨k1, v1⟩ := a
    obtain ⟨k2, d2⟩ := b
    obtain ⟨e1, dp⟩ := h
    cases (show k1 = Sum.inr k2 from e1)
    obtain ⟨i1, i2⟩ := kvR_val r
    by_cases q : k2 = kk
    · subst q
      have e2 : ∀ r : List (Str × D), List.lookup k2 ((k2, d2) :: r) = some d2 := fun r => by simp [List.lookup]
      rw [e2, valV_pos rfl]
      exact ⟨fun d e => ⟨v1, rfl, by cases e; exact dp⟩, fun e => (nomatch e)⟩
    · have q' : (kk == k2) = false := by simpa using fun z => q z.symm
      have e2 : ∀ r : List (Str × D), List.lookup kk ((k2, d2) :: r) = List.lookup kk r := fun r => by simp [List.lookup, q']
      rw [e2, valV_neg (fun z => q (Sum.inr.inj z))]
      exact ⟨i1, i2⟩
variable {kv : List (Str × D)}
theorem ev_dget (A : Wh X N sc k) (ha : EvE X a ds (mD kv)) (hb : EvE X b ds (.str z)) (h : kv.lookup z = some d) (hs : NoSl b := by exact fun _ _ => rfl) : EvE X (.Subscript a b pos) ds d := fun F0 H0 F H σ s Q q =>
  toE (pe_dget A.u1 wpE_pe wpE_pe hs) (ev2 ha hb s fun v1 v2 F' H' x r1 r2 => by
    obtain ⟨p, ks, rfl, h1, h2⟩ := rp_dict.mp r1
    obtain ⟨v, e, dp⟩ := (kvR_val h2).1 d h
    rw [rp_str.mp r2]
    refine ⟨p, v, rfl, ?_, q v F' H' x (rp_of dp)⟩
    rw [← e]
    exact DGet.k (k := Sum.inr z) (x.fh _ _ h1))
/-- an item of a dict of one's own -/
theorem ev_dgetO (A : Wh X N sc k) (m : Nat) (hi : N[m]? = some x) (hv : Vis sc x) (hm : ds[m]? = some (.od kv)) (hb : EvE X b ds (.str z)) (h : kv.lookup z = some d) (hs : NoSl b := by exact fun _ _ => rfl) (hd : (x == ("__debug__" : Str)) = false := by decide) (hcd : (x == ("__classdict__" : Str)) = false := by decide) : EvE X (.Subscript (.Name x p) b pos) ds d := fun F0 H0 F H σ r Q q => by
  obtain ⟨a, ks, e1, e2, e3, e4, e5⟩ := r.at_ m _ hm
  refine toE (pe_dget A.u1 (pe_var (i := m) (by rw [A.hN]; exact hi) (by rw [A.hsc]; exact hv) hd hcd) wpE_pe hs) ⟨_, e1, ?_⟩
  refine hb F0 H0 F H σ r _ fun v2 F' H' x r2 => ?_
  obtain ⟨v, e, dp⟩ := (kvR_val (kvR_mono x.f e5)).1 d h
  rw [rp_str.mp r2]
  refine ⟨a, v, rfl, ?_, q v F' H' x (rp_of dp)⟩
  rw [← e]
  exact DGet.k (k := Sum.inr z) (x.h _ _ e4)
theorem ev_dgetD {apos : Pos} (A : Wh X N sc k) (ha : EvE X a ds (mD kv)) (hb : EvE X b ds (.str z)) (hc : EvE X c ds d) (hn : nodict d = true) (m : M2 X a "get" apos b c pos) : EvE X (.Call (.Attribute a "get" apos) [b, c] [] pos) ds ((kv.lookup z).getD d) := fun F0 H0 F H σ s Q q =>
  toE (pe_dget2 A.u1 wpE_pe wpE_pe wpE_pe m) (ha F0 H0 F H σ s _ fun v1 F1 H1 x1 r1 => by
    obtain ⟨p, ks, rfl, h1, h2⟩ := rp_dict.mp r1
    refine ⟨p, rfl, .inl ⟨ks, .inl (x1.fh _ _ h1)⟩, ?_⟩
    refine hb F0 H0 F1 H1 σ (s.to x1) _ fun v2 F2 H2 x2 r2 => hc F0 H0 F2 H2 σ ((s.to x1).to x2) _ fun v3 F3 H3 x3 r3 => ?_
    rw [rp_str.mp r2]
    refine ⟨_, DGet.k (k := Sum.inr z) (x3.fh _ _ (x3.f _ _ (x2.f _ _ h1))), ?_⟩
    obtain ⟨i1, i2⟩ := kvR_val (kk := z) (kvR_mono (x2.f.trans x3.f) h2)
    refine q _ F3 H3 ((x1.trans x2).trans x3) ?_
    cases e : kv.lookup z with
    | none => rw [i2 e]; exact r3
    | some d' =>
      obtain ⟨v, e', dp⟩ := i1 d' e
      rw [e']
      exact rp_of dp)

/-! ### methods of built-in types -/
def MtD (X : Cx) (T : String) (r : V → List V → Hp → VK → Prop) (d0 : D) (as : List D) (d : D) : Prop := ∀ (v0 : V) (vs : List V) (F H : Hp) (Q : VK), Same F H → Rp X.K F v0 d0 → RpAll X.K F vs as → (∀ v F' H', Ext F H F' H' → Rp X.K F' v d → Q v H') → r v0 vs H Q
def MtN (X : Cx) (T : String) (r : V → List V → Hp → VK → Prop) (d0 : D) (as : List D) (xs : List D) : Prop := ∀ (v0 : V) (vs : List V) (F H : Hp) (Q : VK), Same F H → Rp X.K F v0 d0 → RpAll X.K F vs as →
  (∀ p vs F' H', Ext F H F' H' → H p = none → F' p = none → H' p = some (.lst vs) → DpAll X.K F' vs xs → Q (.ref p) H') → r v0 vs H Q
def MtT (T : String) (d : D) : Prop := match d with
  | .str _ => T = "str"
  | .int _ => T = "int"
  | .list _ => T = "list"
  | _ => False
theorem tyV_of {K : PySem.W.Frag} {F H : Hp} {v : V} {d : D} {T : String} (s : Same F H) (r : Rp K F v d) (h : MtT T d) : tyV K T v H := by
  cases d with
  | str z => rw [rp_str.mp r]; exact h
  | int z => rw [rp_int.mp r]; exact h
  | list z =>
    obtain ⟨a, vs, rfl, h1, _⟩ := rp_lst.mp r
    exact .inl ⟨h, vs, s.seq h1⟩
  | _ => exact h.elim
variable {name : Str} {apos cpos : Pos} {rm : V → List V → Hp → VK → Prop}
theorem ev_bm (pa : PySem.PlainAttrs T) (slot : PySem.Slot T name id) (hty : typeOf (.builtin id) = pure (.type "method_descriptor")) (hm : MtR X id rm) (ho : EvE X o ds d1) (ht : MtT T d1) (ha : EvA X (e :: es) ds as) (hr : MtD X T rm d1 as d) (hbase : attributeBase o name X.env (eval o X.env) = eval o X.env := by rfl) (hfew : ((backTo cpos (starEach (e :: es) X.env)).all (fun x => !x.1) && (backToKw cpos (keywordEach [] X.env)).all (fun x => x.1.isSome) && decide ((e :: es).length + ([] : List Keyword).length + (if ([] : List Keyword).isEmpty then 0 else 1) < 30)) = true := by rfl) (hline : (apos.endLine == cpos.line) = true := by rfl) (hs : starEach (e :: es) X.env = (false, eval e X.env) :: starEach es X.env := by rfl) (hplain : (backTo cpos (starEach es X.env)).any (·.1) = false := by rfl) :
    EvE X (.Call (.Attribute o name apos) (e :: es) [] cpos) ds d := fun F0 H0 F H σ s Q q =>
  toE (pe_bm pa slot hty hm wpE_pe wpA_pa hbase hfew hline hs hplain) (ho F0 H0 F H σ s _ fun v0 F1 H1 x1 r1 => ⟨tyV_of x1.fh r1 ht, ha F0 H0 F1 H1 σ (s.to x1) _ fun vs F2 H2 x2 r2 =>
    hr v0 vs F2 H2 Q x2.fh (rp_mono x2.f r1) r2 fun v F3 H3 x3 r3 => q v F3 H3 ((x1.trans x2).trans x3) r3⟩)
theorem evn_bm (pa : PySem.PlainAttrs T) (slot : PySem.Slot T name id) (hty : typeOf (.builtin id) = pure (.type "method_descriptor")) (hm : MtR X id rm) (ho : EvE X o ds d1) (ht : MtT T d1) (ha : EvA X (e :: es) ds as) (hr : MtN X T rm d1 as xs) (hbase : attributeBase o name X.env (eval o X.env) = eval o X.env := by rfl) (hfew : ((backTo cpos (starEach (e :: es) X.env)).all (fun x => !x.1) && (backToKw cpos (keywordEach [] X.env)).all (fun x => x.1.isSome) && decide ((e :: es).length + ([] : List Keyword).length + (if ([] : List Keyword).isEmpty then 0 else 1) < 30)) = true := by rfl) (hline : (apos.endLine == cpos.line) = true := by rfl) (hs : starEach (e :: es) X.env = (false, eval e X.env) :: starEach es X.env := by rfl) (hplain : (backTo cpos (starEach es X.env)).any (·.1) = false := by rfl) :
    EvN X (.Call (.Attribute o name apos) (e :: es) [] cpos) ds xs := fun F0 H0 F H σ s Q q =>
  toE (pe_bm pa slot hty hm wpE_pe wpA_pa hbase hfew hline hs hplain) (ho F0 H0 F H σ s _ fun v0 F1 H1 x1 r1 => ⟨tyV_of x1.fh r1 ht, ha F0 H0 F1 H1 σ (s.to x1) _ fun vs F2 H2 x2 r2 =>
    hr v0 vs F2 H2 Q x2.fh (rp_mono x2.f r1) r2 fun p vs F3 H3 x3 n1 n2 n3 n4 => q p vs F3 H3 ((x1.trans x2).trans x3) ((x1.h.trans x2.h).free n1) n2 n3 n4⟩)
end
end Vs

namespace Vs
open PySem PySem.Spec L2

/-! ### what is walked -/
/-- J walks the data xs, wherever F stands -/
structure Wk (K : PySem.W.Frag) (J : It) (F : Hp) (xs : List D) : Prop where
  go : ∀ H i, Same F H → i < xs.length → J.go i H
  yld : ∀ H (i : Nat) v H' d, Same F H → J.yld i H v H' → xs[i]? = some d → H' = H ∧ Dp K F v d
  stop : ∀ H i, Same F H → xs.length ≤ i → J.stop i H
def EvI (X : Cx) (tg iter : Expr) (ds : Sls) (xs : List D) : Prop := ∀ (F0 H0 F H : Hp) (σ : St), StR X.K F0 H0 F H σ ds → ∀ R : It → Hp → Prop, (∀ J F' H', Ext F H F' H' → Wk X.K J F' xs → R J H') → wpI X tg iter σ H R
section
variable {X : Cx} {N : List Str} {sc : Scope} {k : Nat} {ds : Sls} {d d1 d2 d3 : D} {as xs : List D} {e a b c o tg iter : Expr} {es : List Expr} {pos p : Pos} {x : Str} {i j : Int} {z : Str}
theorem evi_list (h : EvE X e ds (.list xs)) : EvI X tg e ds xs := fun F0 H0 F H σ s R q =>
  toI (pi_list wpE_pe) (h F0 H0 F H σ s _ fun v F' H' x r => by
    obtain ⟨a, vs, rfl, h1, h2⟩ := rp_lst.mp r
    refine ⟨a, rfl, ⟨vs, x.fh.seq h1⟩, q _ F' H' x ⟨fun H i s hi => ?_, fun H i v H' d s y e => ?_, fun H i s hi => ?_⟩⟩
    · have hl : i < vs.length := by rw [dpAll_len h2]; exact hi
      exact ⟨vs, vs[i], s.seq h1, List.getElem?_eq_getElem hl⟩
    · obtain ⟨e1, y⟩ := y
      obtain ⟨w, e2, dp⟩ := dpAll_get h2 e
      have e3 := y vs (s.seq h1)
      rw [e2] at e3
      cases e3
      exact ⟨e1, dp⟩
    · exact ⟨vs, s.seq h1, by rw [dpAll_len h2]; exact hi⟩)
abbrev rngD (lo : Int) (n : Nat) : List D := (List.range n).map fun (k : Nat) => .int (lo + (k : Int))
theorem rngD_len (lo : Int) (n : Nat) : (rngD lo n).length = n := by unfold rngD; rw [List.length_map, List.length_range]
theorem rngD_get {lo : Int} {n i : Nat} {d : D} (h : (rngD lo n)[i]? = some d) : d = .int (lo + (i : Int)) := by
  unfold rngD at h
  rw [List.getElem?_map] at h
  have hi : i < n := by
    by_cases q : i < n
    · exact q
    · rw [List.getElem?_eq_none (by rw [List.length_range]; omega)] at h; cases h
  rw [List.getElem?_range hi] at h
  exact (Option.some.inj h).symm
theorem wk_range {K : PySem.W.Frag} {F : Hp} (lo : Int) (n : Nat) : Wk K (Itr lo n) F (rngD lo n) :=
  ⟨fun H i s hi => by rw [rngD_len] at hi; exact hi, fun H i v H' d s y e => by
    obtain ⟨e1, rfl⟩ := y
    rw [rngD_get e]
    exact ⟨e1, .int _⟩, fun H i s hi => by rw [rngD_len] at hi; exact hi⟩
theorem evi_range1 (A : Wh X N sc k) (hg : GlS sc "range") (hm : X.mg "range" = none) (h : EvE X a ds (.int i)) (h1 : -(2 ^ 62) ≤ i) (h2 : i < 2 ^ 62)
    (he : starEach (a :: []) X.env = (false, eval a X.env) :: starEach [] X.env := by rfl) (hs : starEach [a] X.env = [(false, eval a X.env)] := by rfl) : EvI X tg (.Call (.Name "range" p) [a] [] pos) ds (rngD 0 i.toNat) := fun F0 H0 F H σ s R q =>
  toI (pi_range1 (A.gl hg) hm wpA_pa hs) ((eva_cons h eva_nil he) F0 H0 F H σ s _ fun vs F' H' x r => by
    obtain ⟨v, rfl, r1⟩ := rpAll1 r
    exact ⟨i, by rw [rp_int.mp r1], h1, h2, q _ F' H' x (wk_range 0 _)⟩)
theorem evi_rangeN {n : Nat} (A : Wh X N sc k) (hg : GlS sc "range") (hm : X.mg "range" = none) (h : EvE X a ds (.int i)) (hn : i.toNat = n) (h12 : -(2 ^ 62) ≤ i ∧ i < 2 ^ 62)
    (he : starEach (a :: []) X.env = (false, eval a X.env) :: starEach [] X.env := by rfl) (hs : starEach [a] X.env = [(false, eval a X.env)] := by rfl) : EvI X tg (.Call (.Name "range" p) [a] [] pos) ds ((List.range n).map fun (k : Nat) => .int (k : Int)) := by
  have h := evi_range1 (tg := tg) (p := p) (pos := pos) A hg hm h h12.1 h12.2 he hs
  rw [hn] at h
  have e : rngD 0 n = (List.range n).map fun (k : Nat) => PyData.int (k : Int) := List.map_congr_left fun k _ => by rw [Int.zero_add]
  rw [e] at h
  exact h
theorem evi_range2 (A : Wh X N sc k) (hg : GlS sc "range") (hm : X.mg "range" = none) (h : EvE X a ds (.int i)) (h' : EvE X b ds (.int j)) (h1 : -(2 ^ 62) ≤ i ∧ i < 2 ^ 62 ∧ -(2 ^ 62) ≤ j ∧ j < 2 ^ 62)
    (he : starEach (a :: [b]) X.env = (false, eval a X.env) :: starEach [b] X.env := by rfl) (he2 : starEach (b :: []) X.env = (false, eval b X.env) :: starEach [] X.env := by rfl)
    (hs : starEach [a, b] X.env = [(false, eval a X.env), (false, eval b X.env)] := by rfl) (hs2 : starEach [b] X.env = [(false, eval b X.env)] := by rfl) : EvI X tg (.Call (.Name "range" p) [a, b] [] pos) ds (rngD i (j - i).toNat) := fun F0 H0 F H σ s R q =>
  toI (pi_range2 (A.gl hg) hm wpA_pa hs hs2) ((eva_cons h (eva_cons h' eva_nil he2) he) F0 H0 F H σ s _ fun vs F' H' x r => by
    obtain ⟨v, v', rfl, r1, r2⟩ := rpAll2 r
    exact ⟨i, j, by rw [rp_int.mp r1, rp_int.mp r2], h1, q _ F' H' x (wk_range i _)⟩)
theorem evi_str (h : EvE X e ds (.str z)) : EvI X tg e ds (z.cps.toList.map fun c => .str ⟨#[c]⟩) := fun F0 H0 F H σ s R q =>
  toI (pi_str wpE_pe) (h F0 H0 F H σ s _ fun v F' H' x r => by
    refine ⟨z, rp_str.mp r, q _ F' H' x ⟨fun H i s hi => ?_, fun H i v H' d s y e => ?_, fun H i s hi => ?_⟩⟩
    · rw [List.length_map, Array.length_toList] at hi; exact hi
    · obtain ⟨e1, c, e2, rfl⟩ := y
      rw [List.getElem?_map, Array.getElem?_toList, e2] at e
      cases e
      exact ⟨e1, .str _⟩
    · rw [List.length_map, Array.length_toList] at hi; exact hi)

/-! ### comprehensions -/
/-- a comprehension's block of X -/
def BlkOf (X : Cx) (scope : Scope) (X' : Cx) : Prop := ∃ (s : Shared) (H : Hp) (C : Addr) (cl : List (Str × Addr)) (fp : List Addr), X' = X.blk s H scope (compEnvC scope cl C X.env) fp
theorem Wh.blk {X' : Cx} {scope : Scope} (A : Wh X N sc k) (h : BlkOf X scope X') (hk : scope.kind = .function := by rfl) : Wh X' N (relS scope sc) k := by
  obtain ⟨s, H, C, cl, fp, rfl⟩ := h
  refine ⟨⟨A.hN, A.nd, ?_, hk⟩, A.calm, A.room⟩
  rw [← A.hsc]
  rfl
def wipeD (ds : Sls) : List Nat → Sls
  | [] => ds
  | v :: vs => (wipeD ds vs).set v .no
theorem wipeD_len (ds : Sls) : ∀ vs, (wipeD ds vs).length = ds.length
  | [] => rfl
  | v :: vs => by unfold wipeD; rw [List.length_set, wipeD_len ds vs]
theorem wipeD_get {ds : Sls} {i : Nat} {s : Sl} : ∀ {vs : List Nat}, (wipeD ds vs)[i]? = some s → s = .no ∨ (ds[i]? = some s ∧ i ∉ vs)
  | [], h => .inr ⟨h, by simp⟩
  | v :: vs, h => by
    unfold wipeD at h
    by_cases hi : v = i
    · subst hi
      by_cases hl : v < (wipeD ds vs).length
      · rw [List.getElem?_set_self hl] at h
        exact .inl (Option.some.inj h).symm
      · rw [List.getElem?_eq_none (by rw [List.length_set]; omega)] at h; cases h
    · rw [List.getElem?_set_ne hi] at h
      rcases wipeD_get h with z | ⟨z, n⟩
      · exact .inl z
      · exact .inr ⟨z, by simp only [List.mem_cons, not_or]; exact ⟨fun e => hi e.symm, n⟩⟩
theorem StR.wipe {K : PySem.W.Frag} {F0 H0 F H : Hp} {σ : St} (r : StR K F0 H0 F H σ ds) (vs : List Nat) : StR K F0 H0 F H (L2.wipe σ vs) (wipeD ds vs) := by
  have get : ∀ i, i ∉ vs → (L2.wipe σ vs)[i]? = σ[i]? := fun i n => wipe_out n
  refine ⟨r.ext, by rw [wipe_length, wipeD_len, r.len], fun i s e => ?_, fun i j a ⟨s, e1, m1⟩ ⟨t, e2, m2⟩ p q => ?_⟩
  · rcases wipeD_get e with z | ⟨z, n⟩
    · subst z; trivial
    · rw [get i n]; exact r.at_ i s z
  · rcases wipeD_get e1 with z | ⟨z1, n1⟩
    · subst z; cases m1
    rcases wipeD_get e2 with z | ⟨z2, n2⟩
    · subst z; cases m2
    rw [get i n1] at p
    rw [get j n2] at q
    exact r.sep i j a ⟨s, z1, m1⟩ ⟨t, z2, m2⟩ p q
/-- a new list that te makes -/
def TeN (X : Cx) (te : TE) (ds : Sls) (xs : List D) : Prop := ∀ (F0 H0 F H : Hp) (σ : St), StR X.K F0 H0 F H σ ds → ∀ Q : VK,
  (∀ p vs F' H', Ext F H F' H' → H p = none → F' p = none → H' p = some (.lst vs) → DpAll X.K F' vs xs → Q (.ref p) H') → te σ H Q
/-- the comprehension's parts in every block -/
def wpEB (X : Cx) (scope : Scope) (e : Expr) : TE := fun σ H Q => ∀ X', BlkOf X scope X' → wpE X' e σ H Q
def wpTsB (X : Cx) (scope : Scope) (es : List Expr) : TT := fun σ H Q => ∀ X', BlkOf X scope X' → wpTs X' es σ H Q
variable {scope : Scope} {own : List (Str × Nat)} {elt : Expr} {ifs : List Expr} {m : Nat} {α β : Type} {l : List α} {enc : α → D} {enc2 : β → D} {f : α → β} {t : α → Bool}
theorem evts_nil : EvTs X [] ds true := fun F0 H0 F H σ s Q q => toTs pts_nil (q F H (.refl s.fh))
theorem evts_one {b : Bool} (h : EvT X c ds b) : EvTs X [c] ds b := fun F0 H0 F H σ s Q q => toTs (pts_one wpT_pt) (h F0 H0 F H σ s Q q)
theorem lc_te (hi : EvI X (.Name x p) iter ds (l.map enc)) (hx : (x, m) ∈ own) (hown : own = [(x, m)]) (hm : m < ds.length)
    (ht : ∀ a, a ∈ l → ∀ X', BlkOf X scope X' → EvTs X' ifs ((wipeD ds [m]).set m (.va (enc a))) (t a))
    (he : ∀ a, a ∈ l → t a = true → ∀ X', BlkOf X scope X' → EvE X' elt ((wipeD ds [m]).set m (.va (enc a))) (enc2 (f a))) (hf : ∀ b, nodict (enc2 b) = true) (hl : l.length ≤ sizeLine) :
    TeN X (tLc (wpI X (.Name x p) iter) (gName m) (wpTsB X scope ifs) (wpEB X scope elt) (own.map (·.2))) ds (((l.filter t).map f).map enc2) := by
  intro F0 H0 F H σ s Q q
  subst hown
  refine hi F0 H0 F H σ s _ fun J F1 H1 x1 wk D0 hD => ?_
  have s1 := s.to x1
  have len : (l.map enc).length = l.length := List.length_map _
  -- what holds between two turns
  let Pv : Nat → Hp → Prop := fun i H' => ∃ F' vs, Ext F1 H1 F' H' ∧ F' D0 = none ∧ H' D0 = some (.lst vs) ∧ DpAll X.K F' vs ((((l.take i).filter t).map f).map enc2)
  refine ⟨fun i n H' => n = l.length - i ∧ i ≤ l.length ∧ Pv i H', ⟨l.length, by simp, Nat.zero_le _, F1, [], .newO x1.fh hD, x1.fh.free hD, upd_same, by simpa using DpAll.nil⟩, ?_⟩
  rintro i n H' ⟨rfl, hi', F', vs, x2, fD, hD', dp⟩
  by_cases hlt : i < l.length
  · have sF : Same F1 H' := x2.f.trans x2.fh
    refine .inr ⟨wk.go H' i sF (by rw [len]; exact hlt), Pv (i + 1), fun H2 p2 => ⟨l.length - (i + 1), by omega, rfl, hlt, p2⟩, fun v H2 y => ?_⟩
    have el : l[i]? = some l[i] := List.getElem?_eq_getElem hlt
    have ed : (l.map enc)[i]? = some (enc l[i]) := by rw [List.getElem?_map, el]; rfl
    obtain ⟨e2, dv⟩ := wk.yld H' i v H2 _ sF y ed
    subst e2
    have mem : l[i] ∈ l := List.getElem_mem hlt
    have s2 : StR X.K F0 H0 F' H2 ((L2.wipe σ [m]).set m (some v)) ((wipeD ds [m]).set m (.va (enc l[i]))) := ((s1.to x2).wipe [m]).set (rp_of (dp_mono x2.f dv))
    have tk : l.take (i + 1) = l.take i ++ [l[i]] := by rw [List.take_add_one, el]; rfl
    refine ⟨?_, ?_⟩
    · show L2.wipe ((L2.wipe σ [m]).set m (some v)) [m] = L2.wipe σ [m]
      show ((σ.set m none).set m (some v)).set m none = σ.set m none
      rw [List.set_set, List.set_set]
    intro X' hX
    refine ht _ mem X' hX F0 H0 F' H2 _ (by obtain ⟨_, _, _, _, _, rfl⟩ := id hX; exact s2) _ fun F3 H3 x3 => ?_
    have fD3 : F3 D0 = none := x3.own D0 fD (by rw [hD']; exact fun z => nomatch z)
    cases hb : t l[i] with
    | true =>
      rw [if_pos rfl]
      intro X2 hX2
      refine he _ mem hb X2 hX2 F0 H0 F3 H3 _ (by obtain ⟨_, _, _, _, _, rfl⟩ := id hX2; exact s2.to x3) _ fun w F4 H4 x4 r4 => ?_
      have r4' : Rp X.K F4 w (enc2 (f l[i])) := by obtain ⟨_, _, _, _, _, rfl⟩ := id hX2; exact r4
      have fD4 : F4 D0 = none := x4.own D0 fD3 (by rw [x3.h _ _ hD']; exact fun z => nomatch z)
      have hl' : vs.length ≤ i := by
        rw [dpAll_len dp, List.length_map, List.length_map]
        exact Nat.le_trans (List.length_filter_le _ _) (by rw [List.length_take]; exact Nat.min_le_left _ _)
      refine ⟨vs, x4.h _ _ (x3.h _ _ hD'), by omega, F4, vs ++ [w], ?_, fD4, upd_same, ?_⟩
      · have x14 := (x2.trans x3).trans x4
        exact ⟨x14.f, fun b o e => by rw [upd_ne (ne_of_none e hD)]; exact x14.h b o e, fun b o e => by rw [upd_ne (ne_of_none e fD4)]; exact x14.fh b o e, x14.own⟩
      · rw [tk, List.filter_append, List.map_append, List.map_append]
        refine dpAll_append (dpAll_mono (x3.f.trans x4.f) dp) ?_
        rw [List.filter_cons_of_pos (by rw [hb])]
        exact .cons (rp_dp r4' (hf _)) .nil
    | false =>
      rw [if_neg (by decide)]
      refine ⟨F3, vs, x2.trans x3, fD3, x3.h _ _ hD', ?_⟩
      rw [tk, List.filter_append, List.filter_cons_of_neg (by rw [hb]; decide), List.filter_nil, List.append_nil]
      exact dpAll_mono x3.f dp
  · have e : i = l.length := by omega
    subst e
    rw [List.take_length] at dp
    exact .inl ⟨wk.stop H' _ (x2.f.trans x2.fh) (by rw [len]; exact Nat.le_refl _), q D0 vs F' H' (x1.trans x2) (x1.h.free hD) fD hD' dp⟩
/-- what a comprehension asks of its place -/
structure LcOk (N : List Str) (sc scope : Scope) (x : Str) (m n : Nat) : Prop where
  kind : scope.kind = .function
  blk : blkC N sc scope [(x, m)] = true
  at_ : N[m]? = some x
  loc : L2.Loc scope x
  lt : m < n
theorem lc_pe (A : Wh X N sc k) (L : LcOk N sc scope x m ds.length) (hs : ∀ x, foldedSetIterable iter X.env x = pure x := by intro _; rfl) :
    PE X (.ListComp elt [⟨.Name x p, iter, ifs, 0⟩] scope pos) (tLc (wpI X (.Name x p) iter) (gName m) (wpTsB X scope ifs) (wpEB X scope elt) ([(x, m)].map (·.2))) := by
  refine pe_lc A.calm (by rw [A.hN]; exact A.nd) wpI_pi (blkOk_by (by rw [A.hN, A.hsc]; exact L.blk)) (fun s H C cl fp => ?_) (fun s H C cl fp => ⟨fun pins s' σ H' Q I h => h _ ⟨s, H, C, cl, fp, rfl⟩ pins s' I⟩) (fun s H C cl fp => ⟨fun pins s' σ H' Q I h => h _ ⟨s, H, C, cl, fp, rfl⟩ pins s' I⟩) hs
  have B : Wh _ N (relS scope sc) k := A.blk ⟨s, H, C, cl, fp, rfl⟩ L.kind
  have nl : ∀ kd : NameKind, kd ≠ .free → scope.names.lookup x = some kd → (relS scope sc).names.lookup x = some kd := fun kd h1 h2 => lookup_relS_keep h1 h2
  refine pg_name (by rw [B.hN]; exact B.nd) (by rw [B.hN]; exact L.at_) (by rw [B.hsc]; exact L.loc.imp (nl _ (by decide)) (nl _ (by decide))) ?_
  rcases L.loc with h | h
  · exact .inr (by rw [B.hsc]; exact nl _ (by decide) h)
  · exact .inl (by show (scope.names.lookup x == some .cell) = true; rw [h]; rfl)
theorem evn_lc (enc2 : β → D) (m : Nat) (A : Wh X N sc k) (L : LcOk N sc scope x m ds.length) (hi : EvI X (.Name x p) iter ds (l.map enc))
    (ht : ∀ a, a ∈ l → ∀ X', BlkOf X scope X' → EvTs X' ifs ((wipeD ds [m]).set m (.va (enc a))) (t a))
    (he : ∀ a, a ∈ l → t a = true → ∀ X', BlkOf X scope X' → EvE X' elt ((wipeD ds [m]).set m (.va (enc a))) (enc2 (f a))) (hf : ∀ b, nodict (enc2 b) = true) (hl : l.length ≤ sizeLine)
    (hs : ∀ x, foldedSetIterable iter X.env x = pure x := by intro _; rfl) : EvN X (.ListComp elt [⟨.Name x p, iter, ifs, 0⟩] scope pos) ds (((l.filter t).map f).map enc2) := fun F0 H0 F H σ s Q q =>
  toE (lc_pe A L hs) (lc_te hi (List.mem_singleton.mpr rfl) rfl L.lt ht he hf hl F0 H0 F H σ s Q q)
/-- without a test -/
theorem evn_lc0 (enc2 : β → D) (m : Nat) (A : Wh X N sc k) (L : LcOk N sc scope x m ds.length) (hi : EvI X (.Name x p) iter ds (l.map enc))
    (he : ∀ a, a ∈ l → ∀ X', BlkOf X scope X' → EvE X' elt ((wipeD ds [m]).set m (.va (enc a))) (enc2 (f a))) (hf : ∀ b, nodict (enc2 b) = true) (hl : l.length ≤ sizeLine)
    (hs : ∀ x, foldedSetIterable iter X.env x = pure x := by intro _; rfl) : EvN X (.ListComp elt [⟨.Name x p, iter, [], 0⟩] scope pos) ds ((l.map f).map enc2) := by
  have h := evn_lc (t := fun _ => true) (ifs := []) (pos := pos) enc2 m A L hi (fun d _ X' _ => evts_nil) (fun d h _ X' hX => he d h X' hX) hf hl hs
  rw [List.filter_eq_self.mpr (fun _ _ => rfl)] at h
  exact h
end
end Vs

namespace Vs
open PySem PySem.Spec L2

/-! ### outcomes -/
inductive Out where
  /-- on to the next statement -/
  | nx (ds : Sls)
  /-- a datum is returned; a new list; a new dict -/
  | rt (d : D)
  | rn (xs : List D)
  | rm (kv : List (Str × D))
  | bk (ds : Sls)
  | ct (ds : Sls)
  /-- an exception of that class -/
  | ex (c : Value)
  /-- something is returned -/
  | dn
def Post (K : PySem.W.Frag) (W : WX) (F0 H0 F1 : Hp) (E : Ends) : Out → Prop
  | .nx ds => ∀ σ F H, StR K F0 H0 F H σ ds → Same F1 F → E.nx σ H
  | .bk ds => ∀ σ F H, StR K F0 H0 F H σ ds → Same F1 F → E.bk σ H
  | .ct ds => ∀ σ F H, StR K F0 H0 F H σ ds → Same F1 F → E.ct σ H
  | .rt d => ∀ v F H, Ext F0 H0 F H → Rp K F v d → E.rt v H
  | .rn xs => ∀ p vs F H, Ext F0 H0 F H → H0 p = none → F p = none → H p = some (.lst vs) → DpAll K F vs xs → E.rt (.ref p) H
  | .rm kv => ∀ p ks F H, Ext F0 H0 F H → H0 p = none → F p = none → H p = some (.dK ks) → KvR K F ks kv → E.rt (.ref p) H
  | .ex c => ∀ σ F H, StR K F0 H0 F H σ (List.replicate σ.length .no) → Same F1 F → W c none σ H
  | .dn => ∀ v F H, Ext F0 H0 F H → E.rt v H
def Run (X : Cx) (W : WX) (st : Stmt) (ds : Sls) (o : Out) : Prop := ∀ (F0 H0 F H : Hp) (σ : St) (E : Ends), StR X.K F0 H0 F H σ ds → Post X.K W F0 H0 F E o → wpS X st E σ H
def RunB (X : Cx) (W : WX) (st : List Stmt) (ds : Sls) (o : Out) : Prop := ∀ (F0 H0 F H : Hp) (σ : St) (E : Ends), StR X.K F0 H0 F H σ ds → Post X.K W F0 H0 F E o → wpB X st E σ H
/-- no way on -/
def Out.leaves : Out → Bool
  | .nx _ => false
  | _ => true
section
variable {X : Cx} {W : WX} {N : List Str} {sc : Scope} {k : Nat} {ds ds' : Sls} {d d1 d2 d3 : D} {as xs : List D} {e a b c o tg iter : Expr} {es : List Expr} {pos p : Pos} {x : Str} {i j : Int} {z : Str} {st : Stmt} {rest body : List Stmt} {u u' : Out} {m : Nat} {t : Bool} {kv : List (Str × D)}
theorem Run.cast (h : Run X W st ds u) (e : u = u') : Run X W st ds u' := e ▸ h
theorem RunB.cast (h : RunB X W body ds u) (e : u = u') : RunB X W body ds u' := e ▸ h
theorem post_mono {K : PySem.W.Frag} {F0 H0 F F' : Hp} {E : Ends} (h : Same F F') (q : Post K W F0 H0 F E u) : Post K W F0 H0 F' E u := by
  cases u <;> first | exact q | exact fun σ F H s sf => q σ F H s (h.trans sf)
theorem runB_nil : RunB X W [] ds (.nx ds) := fun F0 H0 F H σ E s q => toB pss_nil (q σ F H s (Same.refl _))
theorem runB_cons (h1 : Run X W st ds (.nx ds')) (h2 : RunB X W rest ds' u) : RunB X W (st :: rest) ds u := fun F0 H0 F H σ E s q =>
  toB (pss_cons wpS_ps wpB_pss) (h1 F0 H0 F H σ _ s fun σ1 F1 H1 s1 sf => h2 F0 H0 F1 H1 σ1 E s1 (post_mono sf q))
theorem post_nx {K : PySem.W.Frag} {F0 H0 F : Hp} {E : Ends} {nx : St → Hp → Prop} (h : u.leaves = true) (q : Post K W F0 H0 F E u) : Post K W F0 H0 F { E with nx := nx } u := by
  cases u <;> first | exact q | cases h
theorem runB_stop (h1 : Run X W st ds u) (hl : u.leaves = true) : RunB X W (st :: rest) ds u := fun F0 H0 F H σ E s q =>
  toB (pss_cons wpS_ps wpB_pss) (h1 F0 H0 F H σ _ s (post_nx hl q))
theorem runB_one (h1 : Run X W st ds u) : RunB X W [st] ds u := fun F0 H0 F H σ E s q =>
  toB (pss_one wpS_ps) (h1 F0 H0 F H σ E s q)
theorem StR.frzO {K : PySem.W.Frag} {F0 H0 F H : Hp} {σ : St} (s : StR K F0 H0 F H σ ds) (z : Frz ds ds') : ∃ F1, StR K F0 H0 F1 H σ ds' ∧ Same F F1 := s.frz z
/-- from here on some of what was mine is fixed -/
theorem RunB.frz (h : RunB X W rest ds' u) (z : Frz ds ds') : RunB X W rest ds u := fun F0 H0 F H σ E s q => by
  obtain ⟨F1, s1, sf⟩ := s.frzO z
  exact h F0 H0 F1 H σ E s1 (post_mono sf q)
theorem Run.frz (h : Run X W st ds' u) (z : Frz ds ds') : Run X W st ds u := fun F0 H0 F H σ E s q => by
  obtain ⟨F1, s1, sf⟩ := s.frzO z
  exact h F0 H0 F1 H σ E s1 (post_mono sf q)
/-- what is known of slots is forgotten -/
inductive FgS : Sl → Sl → Prop where
  | same (s : Sl) : FgS s s
  | no (s : Sl) : FgS s .no
theorem fg_get : ∀ {ds ds' : Sls} {i : Nat} {s' : Sl}, Paired FgS ds ds' → ds'[i]? = some s' → s' = .no ∨ ds[i]? = some s'
  | _, _, _, _, .nil, e => by simp at e
  | _, _, 0, _, .cons h _, e => by
    have e := Option.some.inj e
    subst e
    cases h with
    | same => exact .inr rfl
    | no => exact .inl rfl
  | _, _, i + 1, _, .cons _ r, e => fg_get (i := i) r e
theorem paired_len {α β : Type} {R : α → β → Prop} : ∀ {l : List α} {l' : List β}, Paired R l l' → l'.length = l.length
  | _, _, .nil => rfl
  | _, _, .cons _ r => congrArg (· + 1) (paired_len r)
theorem RunB.forget (h : RunB X W rest ds' u) (z : Paired FgS ds ds') : RunB X W rest ds u := fun F0 H0 F H σ E s q =>
  h F0 H0 F H σ E (s.forget (paired_len z) fun i t e => fg_get z e) q

/-! ### small statements -/
theorem run_set (A : WhS X N sc k) (m : Nat) (hi : N[m]? = some x) (hx : L2.Loc sc x) (h : EvE X e ds d) (hs : swapsWith e (some (.Name x p)) pos.line X.env = pure false := by rfl) : Run X W (.Assign [.Name x p] e pos) ds (.nx (ds.set m (.va d))) := fun F0 H0 F H σ E s q =>
  toS (ps_set (i := m) (by rw [A.hN]; exact A.nd) (by rw [A.hN]; exact hi) (by rw [A.hsc]; exact hx) wpE_pe hs (.inl (A.fn x))) (h F0 H0 F H σ s _ fun v F' H' x r => q _ F' H' ((s.to x).set r) x.f)
theorem StR.setO {K : PySem.W.Frag} {F0 H0 F H : Hp} {σ : St} {a : Addr} {vs : List V} (r : StR K F0 H0 F H σ ds) (h0 : H0 a = none) (hf : F a = none) (hh : H a = some (.lst vs)) (dp : DpAll K F vs xs) (hn : ∀ j, Mine ds j → σ[j]? ≠ some (some (.ref a))) :
    StR K F0 H0 F H (σ.set m (some (.ref a))) (ds.set m (.ow xs)) := by
  have ls : (σ.set m (some (.ref a))).length = (ds.set m (Sl.ow xs)).length := by rw [List.length_set, List.length_set, r.len]
  have at' : ∀ (i : Nat) (s : Sl), (ds.set m (.ow xs))[i]? = some s → (m = i ∧ s = .ow xs ∧ (σ.set m (some (V.ref a)))[i]? = some (some (.ref a))) ∨ (m ≠ i ∧ ds[i]? = some s ∧ (σ.set m (some (V.ref a)))[i]? = σ[i]?) := fun i s e => by
    by_cases q : m = i
    · subst q
      have hl : m < ds.length := by
        have z := (List.getElem?_eq_some_iff.mp e).1
        rwa [List.length_set] at z
      rw [List.getElem?_set_self hl] at e
      exact .inl ⟨rfl, (Option.some.inj e).symm, List.getElem?_set_self (by rw [r.len]; exact hl)⟩
    · rw [List.getElem?_set_ne q] at e
      exact .inr ⟨q, e, List.getElem?_set_ne q⟩
  refine ⟨r.ext, ls, fun i s e => ?_, fun i j b ⟨s1, e1, m1⟩ ⟨s2, e2, m2⟩ p1 p2 => ?_⟩
  · rcases at' i s e with ⟨_, rfl, e3⟩ | ⟨_, e2, e3⟩
    · exact ⟨a, vs, e3, h0, hf, hh, dp⟩
    · rw [e3]; exact r.at_ i s e2
  · rcases at' i s1 e1 with ⟨z1, _, q1⟩ | ⟨z1, e1', q1⟩ <;> rcases at' j s2 e2 with ⟨z2, _, q2⟩ | ⟨z2, e2', q2⟩
    · rw [← z1, ← z2]
    · rw [q1] at p1
      cases p1
      rw [q2] at p2
      exact absurd p2 (hn j ⟨s2, e2', m2⟩)
    · rw [q2] at p2
      cases p2
      rw [q1] at p1
      exact absurd p1 (hn i ⟨s1, e1', m1⟩)
    · rw [q1] at p1
      rw [q2] at p2
      exact r.sep i j b ⟨s1, e1', m1⟩ ⟨s2, e2', m2⟩ p1 p2
theorem StR.setM {K : PySem.W.Frag} {F0 H0 F H : Hp} {σ : St} {a : Addr} {vs : List (Key × V)} (r : StR K F0 H0 F H σ ds) (h0 : H0 a = none) (hf : F a = none) (hh : H a = some (.dK vs)) (dp : KvR K F vs kv) (hn : ∀ j, Mine ds j → σ[j]? ≠ some (some (.ref a))) :
    StR K F0 H0 F H (σ.set m (some (.ref a))) (ds.set m (.od kv)) := by
  have ls : (σ.set m (some (.ref a))).length = (ds.set m (Sl.od kv)).length := by rw [List.length_set, List.length_set, r.len]
  have at' : ∀ (i : Nat) (s : Sl), (ds.set m (.od kv))[i]? = some s → (m = i ∧ s = .od kv ∧ (σ.set m (some (V.ref a)))[i]? = some (some (.ref a))) ∨ (m ≠ i ∧ ds[i]? = some s ∧ (σ.set m (some (V.ref a)))[i]? = σ[i]?) := fun i s e => by
    by_cases q : m = i
    · subst q
      have hl : m < ds.length := by
        have z := (List.getElem?_eq_some_iff.mp e).1
        rwa [List.length_set] at z
      rw [List.getElem?_set_self hl] at e
      exact .inl ⟨rfl, (Option.some.inj e).symm, List.getElem?_set_self (by rw [r.len]; exact hl)⟩
    · rw [List.getElem?_set_ne q] at e
      exact .inr ⟨q, e, List.getElem?_set_ne q⟩
  refine ⟨r.ext, ls, fun i s e => ?_, fun i j b ⟨s1, e1, m1⟩ ⟨s2, e2, m2⟩ p1 p2 => ?_⟩
  · rcases at' i s e with ⟨_, rfl, e3⟩ | ⟨_, e2, e3⟩
    · exact ⟨a, vs, e3, h0, hf, hh, dp⟩
    · rw [e3]; exact r.at_ i s e2
  · rcases at' i s1 e1 with ⟨z1, _, q1⟩ | ⟨z1, e1', q1⟩ <;> rcases at' j s2 e2 with ⟨z2, _, q2⟩ | ⟨z2, e2', q2⟩
    · rw [← z1, ← z2]
    · rw [q1] at p1
      cases p1
      rw [q2] at p2
      exact absurd p2 (hn j ⟨s2, e2', m2⟩)
    · rw [q2] at p2
      cases p2
      rw [q1] at p1
      exact absurd p1 (hn i ⟨s1, e1', m1⟩)
    · rw [q1] at p1
      rw [q2] at p2
      exact r.sep i j b ⟨s1, e1', m1⟩ ⟨s2, e2', m2⟩ p1 p2
/-- a new object stands apart from what is mine -/
theorem StR.apart {K : PySem.W.Frag} {F0 H0 F H : Hp} {σ : St} {a : Addr} (r : StR K F0 H0 F H σ ds) (h : H a = none) : ∀ j, Mine ds j → σ[j]? ≠ some (some (.ref a)) := fun j ⟨s, e, m⟩ q => by
  have z := r.at_ j s e
  cases s with
  | no => cases m
  | rf a => cases m
  | va d => cases m
  | ow xs =>
    obtain ⟨b, vs, e1, _, _, e4, _⟩ := z
    rw [q] at e1
    cases e1
    rw [h] at e4
    cases e4
  | od xs =>
    obtain ⟨b, vs, e1, _, _, e4, _⟩ := z
    rw [q] at e1
    cases e1
    rw [h] at e4
    cases e4
/-- a list of one's own -/
theorem run_setN (A : WhS X N sc k) (m : Nat) (hi : N[m]? = some x) (hx : L2.Loc sc x) (h : EvN X e ds xs) (hs : swapsWith e (some (.Name x p)) pos.line X.env = pure false := by rfl) : Run X W (.Assign [.Name x p] e pos) ds (.nx (ds.set m (.ow xs))) := fun F0 H0 F H σ E s q =>
  toS (ps_set (i := m) (by rw [A.hN]; exact A.nd) (by rw [A.hN]; exact hi) (by rw [A.hsc]; exact hx) wpE_pe hs (.inl (A.fn x))) (h F0 H0 F H σ s _ fun p vs F' H' x n1 n2 n3 n4 => q _ F' H' ((s.to x).setO (s.ext.h.free n1) n2 n3 n4 (s.apart n1)) x.f)
theorem run_setM (A : WhS X N sc k) (m : Nat) (hi : N[m]? = some x) (hx : L2.Loc sc x) (h : EvM X e ds kv) (hs : swapsWith e (some (.Name x p)) pos.line X.env = pure false := by rfl) : Run X W (.Assign [.Name x p] e pos) ds (.nx (ds.set m (.od kv))) := fun F0 H0 F H σ E s q =>
  toS (ps_set (i := m) (by rw [A.hN]; exact A.nd) (by rw [A.hN]; exact hi) (by rw [A.hsc]; exact hx) wpE_pe hs (.inl (A.fn x))) (h F0 H0 F H σ s _ fun p vs F' H' x n1 n2 n3 n4 => q _ F' H' ((s.to x).setM (s.ext.h.free n1) n2 n3 n4 (s.apart n1)) x.f)
/-- x = [elt for ..] -/
theorem run_setLc {scope : Scope} {elt : Expr} {ifs : List Expr} {y : Str} {py : Pos} {α β : Type} {l : List α} {enc : α → D} {f : α → β} {t : α → Bool} (enc2 : β → D) (n : Nat) (A : WhS X N sc k) (m : Nat) (hi : N[m]? = some y) (hy : sc.names.lookup y = some .local) (L : LcOk N sc scope x n ds.length) (hI : EvI X (.Name x p) iter ds (l.map enc))
    (ht : ∀ a, a ∈ l → ∀ X', BlkOf X scope X' → EvTs X' ifs ((wipeD ds [n]).set n (.va (enc a))) (t a))
    (he : ∀ a, a ∈ l → t a = true → ∀ X', BlkOf X scope X' → EvE X' elt ((wipeD ds [n]).set n (.va (enc a))) (enc2 (f a))) (hf : ∀ b, nodict (enc2 b) = true) (hl : l.length ≤ sizeLine)
    {lpos : Pos} (hline : (py.line == lpos.line) = true := by rfl) (hla : (scope.names.any fun (n, k) => n == y && (k == .local || k == .cell)) = false := by decide +kernel)
    (hs : ∀ x, foldedSetIterable iter X.env x = pure x := by intro _; rfl) : Run X W (.Assign [.Name y py] (.ListComp elt [⟨.Name x p, iter, ifs, 0⟩] scope lpos) pos) ds (.nx (ds.set m (.ow (((l.filter t).map f).map enc2)))) := fun F0 H0 F H σ E s q => by
  have hB : ∀ (s : Shared) (H : Hp) (C : Addr) (cl : List (Str × Addr)) (fp : List Addr), PG (X.blk s H scope (compEnvC scope cl C X.env) fp) (.Name x p) (gName n) := fun s H C cl fp => by
    have B : Wh _ N (relS scope sc) k := A.toWh.blk ⟨s, H, C, cl, fp, rfl⟩ L.kind
    have nl : ∀ kd : NameKind, kd ≠ .free → scope.names.lookup x = some kd → (relS scope sc).names.lookup x = some kd := fun kd h1 h2 => lookup_relS_keep h1 h2
    refine pg_name (by rw [B.hN]; exact B.nd) (by rw [B.hN]; exact L.at_) (by rw [B.hsc]; exact L.loc.imp (nl _ (by decide)) (nl _ (by decide))) ?_
    rcases L.loc with h | h
    · exact .inr (by rw [B.hsc]; exact nl _ (by decide) h)
    · exact .inl (by show (scope.names.lookup x == some .cell) = true; rw [h]; rfl)
  refine toS (ps_setLc (i := m) (own := [(x, n)]) (g := gName n) (tt := wpTsB X scope ifs) (te := wpEB X scope elt) A.calm (by rw [A.hN]; exact A.nd) (by rw [A.hN]; exact hi) (by rw [A.hsc]; exact hy) ?_ wpI_pi (blkOk_by (by rw [A.hN, A.hsc]; exact L.blk)) hB
    (fun s H C cl fp => ⟨fun pins s' σ H' Q I h => h _ ⟨s, H, C, cl, fp, rfl⟩ pins s' I⟩) (fun s H C cl fp => ⟨fun pins s' σ H' Q I h => h _ ⟨s, H, C, cl, fp, rfl⟩ pins s' I⟩) hs) ?_
  · exact sw_true (by rw [A.hsc]; exact A.kind) (by rw [A.hsc]; exact hy) hline hla
  · exact lc_te hI (List.mem_singleton.mpr rfl) rfl L.lt ht he hf hl F0 H0 F H σ s _ fun p vs F' H' x n1 n2 n3 n4 => q _ F' H' ((s.to x).setO (s.ext.h.free n1) n2 n3 n4 (s.apart n1)) x.f
theorem run_setLc0 {scope : Scope} {elt : Expr} {y : Str} {py : Pos} {α β : Type} {l : List α} {enc : α → D} {f : α → β} (enc2 : β → D) (n : Nat) (A : WhS X N sc k) (m : Nat) (hi : N[m]? = some y) (hy : sc.names.lookup y = some .local) (L : LcOk N sc scope x n ds.length) (hI : EvI X (.Name x p) iter ds (l.map enc))
    (he : ∀ a, a ∈ l → ∀ X', BlkOf X scope X' → EvE X' elt ((wipeD ds [n]).set n (.va (enc a))) (enc2 (f a))) (hf : ∀ b, nodict (enc2 b) = true) (hl : l.length ≤ sizeLine)
    {lpos : Pos} (hline : (py.line == lpos.line) = true := by rfl) (hla : (scope.names.any fun (n, k) => n == y && (k == .local || k == .cell)) = false := by decide +kernel)
    (hs : ∀ x, foldedSetIterable iter X.env x = pure x := by intro _; rfl) : Run X W (.Assign [.Name y py] (.ListComp elt [⟨.Name x p, iter, [], 0⟩] scope lpos) pos) ds (.nx (ds.set m (.ow ((l.map f).map enc2)))) := by
  have h := run_setLc (W := W) (t := fun _ => true) (ifs := []) (pos := pos) enc2 n A m hi hy L hI (fun d _ X' _ => evts_nil) (fun d h _ X' hX => he d h X' hX) hf hl hline hla hs
  rw [List.filter_eq_self.mpr (fun _ _ => rfl)] at h
  exact h
theorem run_ret (h : EvE X e ds d) : Run X W (.Return (some e) pos) ds (.rt d) := fun F0 H0 F H σ E s q =>
  toS (ps_ret wpE_pe) (h F0 H0 F H σ s _ fun v F' H' x r => q v F' H' (s.ext.trans x) r)
theorem run_retN (h : EvN X e ds xs) : Run X W (.Return (some e) pos) ds (.rn xs) := fun F0 H0 F H σ E s q =>
  toS (ps_ret wpE_pe) (h F0 H0 F H σ s _ fun p vs F' H' x n1 n2 n3 n4 => q p vs F' H' (s.ext.trans x) (s.ext.h.free n1) n2 n3 n4)
theorem run_retM (h : EvM X e ds kv) : Run X W (.Return (some e) pos) ds (.rm kv) := fun F0 H0 F H σ E s q =>
  toS (ps_ret wpE_pe) (h F0 H0 F H σ s _ fun p vs F' H' x n1 n2 n3 n4 => q p vs F' H' (s.ext.trans x) (s.ext.h.free n1) n2 n3 n4)
/-- what is mine is given out -/
theorem run_retO (A : WhS X N sc k) (m : Nat) (hi : N[m]? = some x) (hv : Vis sc x) (h : ds[m]? = some (.ow xs)) (hd : (x == ("__debug__" : Str)) = false := by decide) (hcd : (x == ("__classdict__" : Str)) = false := by decide) : Run X W (.Return (some (.Name x p)) pos) ds (.rn xs) := fun F0 H0 F H σ E s q => by
  obtain ⟨a, vs, e1, e2, e3, e4, e5⟩ := s.at_ m _ h
  exact toS (ps_ret (pe_var (i := m) (by rw [A.hN]; exact hi) (by rw [A.hsc]; exact hv) hd hcd)) ⟨_, e1, q a vs F H s.ext e2 e3 e4 e5⟩
theorem run_retOd (A : WhS X N sc k) (m : Nat) (hi : N[m]? = some x) (hv : Vis sc x) (h : ds[m]? = some (.od kv)) (hd : (x == ("__debug__" : Str)) = false := by decide) (hcd : (x == ("__classdict__" : Str)) = false := by decide) : Run X W (.Return (some (.Name x p)) pos) ds (.rm kv) := fun F0 H0 F H σ E s q => by
  obtain ⟨a, vs, e1, e2, e3, e4, e5⟩ := s.at_ m _ h
  exact toS (ps_ret (pe_var (i := m) (by rw [A.hN]; exact hi) (by rw [A.hsc]; exact hv) hd hcd)) ⟨_, e1, q a vs F H s.ext e2 e3 e4 e5⟩
theorem run_expr (h : EvE X e ds d) (hs : swapsWith e none pos.line X.env = pure false := by rfl) : Run X W (.Expr e pos) ds (.nx ds) := fun F0 H0 F H σ E s q =>
  toS (ps_expr wpE_pe hs) (h F0 H0 F H σ s _ fun v F' H' x r => q σ F' H' (s.to x) x.f)
theorem run_ifT (hc : EvT X c ds t) (ht : t = true) (h : RunB X W body ds u) : Run X W (.If c body rest pos) ds u := fun F0 H0 F H σ E s q =>
  toS (ps_if wpT_pt wpB_pss wpB_pss) (hc F0 H0 F H σ s _ fun F' H' x => by rw [if_pos ht]; exact h F0 H0 F' H' σ E (s.to x) (post_mono x.f q))
theorem run_ifF (hc : EvT X c ds t) (ht : t = false) (h : RunB X W rest ds u) : Run X W (.If c body rest pos) ds u := fun F0 H0 F H σ E s q =>
  toS (ps_if wpT_pt wpB_pss wpB_pss) (hc F0 H0 F H σ s _ fun F' H' x => by rw [if_neg (by rw [ht]; decide)]; exact h F0 H0 F' H' σ E (s.to x) (post_mono x.f q))
theorem run_if (hc : EvT X c ds t) (h1 : t = true → RunB X W body ds u) (h2 : t = false → RunB X W rest ds u) : Run X W (.If c body rest pos) ds u := by
  cases t with
  | true => exact run_ifT hc rfl (h1 rfl)
  | false => exact run_ifF hc rfl (h2 rfl)

/-! ### what is mine changes -/
theorem StR.wrO {K : PySem.W.Frag} {F0 H0 F H : Hp} {σ : St} {a : Addr} {vs : List V} {ys : List D} (r : StR K F0 H0 F H σ ds) (h : ds[m]? = some (.ow xs)) (e : σ[m]? = some (some (.ref a))) (dp : DpAll K F vs ys) : StR K F0 H0 F (upd H a (.lst vs)) σ (ds.set m (.ow ys)) := by
  obtain ⟨z1, z2⟩ := r.mine ⟨_, h, rfl⟩ e
  have hl : m < ds.length := (List.getElem?_eq_some_iff.mp h).1
  have other : ∀ (j : Nat) (b : Addr), m ≠ j → Mine ds j → σ[j]? = some (some (.ref b)) → b ≠ a := fun j b n mj ej q => by
    subst q
    exact n (r.sep m j b ⟨_, h, rfl⟩ mj e ej)
  refine ⟨⟨r.ext.f, fun b o eb => ?_, fun b o eb => ?_, r.ext.own⟩, by rw [List.length_set, r.len], fun i s es => ?_, fun i j b m1 m2 e1 e2 => ?_⟩
  · rw [upd_ne (fun q => by rw [q, z1] at eb; cases eb)]; exact r.ext.h b o eb
  · rw [upd_ne (fun q => by rw [q, z2] at eb; cases eb)]; exact r.fh b o eb
  · by_cases q : m = i
    · subst q
      rw [List.getElem?_set_self hl] at es
      cases es
      exact ⟨a, vs, e, z1, z2, upd_same, dp⟩
    · rw [List.getElem?_set_ne q] at es
      have w := r.at_ i s es
      cases s with
      | no => trivial
      | rf a => exact w
      | va d => exact w
      | ow xs =>
        obtain ⟨b, ws, h1, h2, h3, h4, h5⟩ := w
        exact ⟨b, ws, h1, h2, h3, by rw [upd_ne (other i b q ⟨_, es, rfl⟩ h1)]; exact h4, h5⟩
      | od xs =>
        obtain ⟨b, ws, h1, h2, h3, h4, h5⟩ := w
        exact ⟨b, ws, h1, h2, h3, by rw [upd_ne (other i b q ⟨_, es, rfl⟩ h1)]; exact h4, h5⟩
  · have w : ∀ i, Mine (ds.set m (.ow ys)) i → Mine ds i := fun i ⟨s, h1, h2⟩ => by
      by_cases q : m = i
      · subst q; exact ⟨_, h, rfl⟩
      · rw [List.getElem?_set_ne q] at h1; exact ⟨s, h1, h2⟩
    exact r.sep i j b (w i m1) (w j m2) e1 e2
theorem StR.wrM {K : PySem.W.Frag} {F0 H0 F H : Hp} {σ : St} {a : Addr} {vs : List (Key × V)} {ys : List (Str × D)} (r : StR K F0 H0 F H σ ds) (h : ds[m]? = some (.od kv)) (e : σ[m]? = some (some (.ref a))) (dp : KvR K F vs ys) : StR K F0 H0 F (upd H a (.dK vs)) σ (ds.set m (.od ys)) := by
  obtain ⟨z1, z2⟩ := r.mine ⟨_, h, rfl⟩ e
  have hl : m < ds.length := (List.getElem?_eq_some_iff.mp h).1
  have other : ∀ (j : Nat) (b : Addr), m ≠ j → Mine ds j → σ[j]? = some (some (.ref b)) → b ≠ a := fun j b n mj ej q => by
    subst q
    exact n (r.sep m j b ⟨_, h, rfl⟩ mj e ej)
  refine ⟨⟨r.ext.f, fun b o eb => ?_, fun b o eb => ?_, r.ext.own⟩, by rw [List.length_set, r.len], fun i s es => ?_, fun i j b m1 m2 e1 e2 => ?_⟩
  · rw [upd_ne (fun q => by rw [q, z1] at eb; cases eb)]; exact r.ext.h b o eb
  · rw [upd_ne (fun q => by rw [q, z2] at eb; cases eb)]; exact r.fh b o eb
  · by_cases q : m = i
    · subst q
      rw [List.getElem?_set_self hl] at es
      cases es
      exact ⟨a, vs, e, z1, z2, upd_same, dp⟩
    · rw [List.getElem?_set_ne q] at es
      have w := r.at_ i s es
      cases s with
      | no => trivial
      | rf a => exact w
      | va d => exact w
      | ow xs =>
        obtain ⟨b, ws, h1, h2, h3, h4, h5⟩ := w
        exact ⟨b, ws, h1, h2, h3, by rw [upd_ne (other i b q ⟨_, es, rfl⟩ h1)]; exact h4, h5⟩
      | od xs =>
        obtain ⟨b, ws, h1, h2, h3, h4, h5⟩ := w
        exact ⟨b, ws, h1, h2, h3, by rw [upd_ne (other i b q ⟨_, es, rfl⟩ h1)]; exact h4, h5⟩
  · have w : ∀ i, Mine (ds.set m (.od ys)) i → Mine ds i := fun i ⟨s, h1, h2⟩ => by
      by_cases q : m = i
      · subst q; exact ⟨_, h, rfl⟩
      · rw [List.getElem?_set_ne q] at h1; exact ⟨s, h1, h2⟩
    exact r.sep i j b (w i m1) (w j m2) e1 e2
variable {apos cpos : Pos}
theorem run_append (A : WhS X N sc k) (m : Nat) (hi : N[m]? = some x) (hv : Vis sc x) (h : ds[m]? = some (.ow xs)) (he : EvE X e ds d) (hn : nodict d = true) (hl : xs.length < sizeLine) (hd : (x == ("__debug__" : Str)) = false := by decide) (hcd : (x == ("__classdict__" : Str)) = false := by decide) (hbase : attributeBase (.Name x p) "append" X.env (eval (.Name x p) X.env) = eval (.Name x p) X.env := by rfl) (hfew : ((backTo cpos (starEach (e :: []) X.env)).all (fun x => !x.1) && (backToKw cpos (keywordEach [] X.env)).all (fun x => x.1.isSome) && decide ((e :: []).length + ([] : List Keyword).length + (if ([] : List Keyword).isEmpty then 0 else 1) < 30)) = true := by rfl) (hline : (apos.endLine == cpos.line) = true := by rfl) (hs : starEach (e :: []) X.env = (false, eval e X.env) :: starEach [] X.env := by rfl) (hplain : (backTo cpos (starEach [] X.env)).any (·.1) = false := by rfl)
    (hsw : swapsWith (.Call (.Attribute (.Name x p) "append" apos) [e] [] cpos) none pos.line X.env = pure false := by rfl) :
    Run X W (.Expr (.Call (.Attribute (.Name x p) "append" apos) [e] [] cpos) pos) ds (.nx (ds.set m (.ow (xs ++ [d])))) := fun F0 H0 F H σ E s q => by
  obtain ⟨a, vs, e1, e2, e3, e4, e5⟩ := s.at_ m _ h
  refine toS (ps_expr (pe_bm PySem.F.plainAttrs_list PySem.F.slot_list_append PySem.F.type_list_append mt_append (pe_var (i := m) (by rw [A.hN]; exact hi) (by rw [A.hsc]; exact hv) hd hcd) (pa_cons wpE_pe pa_nil hs) hbase hfew hline hs hplain) hsw) ?_
  refine ⟨_, e1, .inl ⟨rfl, vs, SqL.of e4⟩, ?_⟩
  refine he F0 H0 F H σ s _ fun v F' H' x r => ?_
  refine ⟨a, vs, v, rfl, rfl, x.h _ _ e4, by rw [dpAll_len e5]; exact hl, ?_⟩
  exact q σ F' _ ((s.to x).wrO h e1 (dpAll_append (dpAll_mono x.f e5) (.cons (rp_dp r hn) .nil))) x.f
/-- d[z] = e, d of one's own -/
def putD (kv : List (Str × D)) (z : Str) (d : D) : List (Str × D) := if kv.any (fun p => decide (p.1 = z)) then kv.map (fun p => if p.1 = z then (p.1, d) else p) else kv ++ [(z, d)]
theorem kvR_put {K : PySem.W.Frag} {H : Hp} {v : V} {d : D} {z : Str} (h : Dp K H v d) : ∀ {ks : List (Key × V)} {kv : List (Str × D)}, KvR K H ks kv → KvR K H (putK ks (Sum.inr z) v) (putD kv z d) := by
  have anyE : ∀ {ks : List (Key × V)} {kv : List (Str × D)}, KvR K H ks kv → (ks.any fun p => decide (p.1 = Sum.inr z)) = kv.any fun p => decide (p.1 = z) := by
    intro ks kv r
    induction r with
    | nil => rfl
    | cons h r ih =>
      rw [List.any_cons, List.any_cons, ih, h.1]
      congr 1
      exact decide_eq_decide.mpr ⟨fun e => Sum.inr.inj e, fun e => by rw [e]⟩
  have mapE : ∀ {ks : List (Key × V)} {kv : List (Str × D)}, KvR K H ks kv → KvR K H (ks.map fun p => if p.1 = Sum.inr z then (p.1, v) else p) (kv.map fun p => if p.1 = z then (p.1, d) else p) := by
    intro ks kv r
    induction r with
    | nil => exact .nil
    | @cons a b _ _ h1 r ih =>
      refine .cons ?_ ih
      show (if a.1 = Sum.inr z then (a.1, v) else a).1 = Sum.inr (if b.1 = z then (b.1, d) else b).1 ∧ Dp K H (if a.1 = Sum.inr z then (a.1, v) else a).2 (if b.1 = z then (b.1, d) else b).2
      by_cases q : b.1 = z
      · rw [if_pos (by rw [h1.1, q]), if_pos q]; exact ⟨h1.1, h⟩
      · rw [if_neg (by rw [h1.1]; exact fun e => q (Sum.inr.inj e)), if_neg q]; exact h1
  have app : ∀ {ks : List (Key × V)} {kv : List (Str × D)}, KvR K H ks kv → KvR K H (ks ++ [(Sum.inr z, v)]) (kv ++ [(z, d)]) := by
    intro ks kv r
    induction r with
    | nil => exact .cons ⟨rfl, h⟩ .nil
    | cons h1 r ih => exact .cons h1 ih
  intro ks kv r
  unfold putK putD
  rw [anyE r]
  split
  · exact mapE r
  · exact app r
theorem kvR_len {K : PySem.W.Frag} {H : Hp} {ks : List (Key × V)} {kv : List (Str × D)} (r : KvR K H ks kv) : ks.length = kv.length := (paired_len r).symm
theorem run_dput {i : Expr} (A : WhS X N sc k) (m : Nat) (hi : N[m]? = some x) (hv : Vis sc x) (h : ds[m]? = some (.od kv)) (hk : EvE X i ds (.str z)) (he : EvE X e ds d) (hn : nodict d = true) (hl : kv.length < sizeLine) (hd : (x == ("__debug__" : Str)) = false := by decide) (hcd : (x == ("__classdict__" : Str)) = false := by decide)
    {spos : Pos} (hsw : swapsWith e (some (.Subscript (.Name x p) i spos)) pos.line X.env = pure false := by rfl) : Run X W (.Assign [.Subscript (.Name x p) i spos] e pos) ds (.nx (ds.set m (.od (putD kv z d)))) := fun F0 H0 F H σ E s q => by
  obtain ⟨a, ks, e1, e2, e3, e4, e5⟩ := s.at_ m _ h
  refine toS (ps_dput A.u1 (pe_var (i := m) (by rw [A.hN]; exact hi) (by rw [A.hsc]; exact hv) hd hcd) wpE_pe wpE_pe hsw) ?_
  refine he F0 H0 F H σ s _ fun v F1 H1 x1 r1 => ⟨_, e1, ?_⟩
  refine hk F0 H0 F1 H1 σ (s.to x1) _ fun v2 F2 H2 x2 r2 => ?_
  rw [rp_str.mp r2]
  refine ⟨a, _, rfl, DPut.k (k := Sum.inr z) (x2.h _ _ (x1.h _ _ e4)) (by rw [kvR_len e5]; exact hl), ?_⟩
  exact q σ F2 _ (((s.to x1).to x2).wrM h e1 (kvR_put (rp_dp (rp_mono x2.f r1) hn) (kvR_mono (x1.f.trans x2.f) e5))) (x1.f.trans x2.f)
/-- xs[i] = e, xs of one's own -/
theorem run_setIx {i : Int} {ie : Expr} {j : Nat} (A : WhS X N sc k) (m : Nat) (hi : N[m]? = some x) (hv : Vis sc x) (h : ds[m]? = some (.ow xs)) (hk : EvE X ie ds (.int i)) (he : EvE X e ds d) (hn : nodict d = true) (hj : ixN xs.length i = some j) (hd : (x == ("__debug__" : Str)) = false := by decide) (hcd : (x == ("__classdict__" : Str)) = false := by decide)
    {spos : Pos} (ha : ∀ v, assign (.Subscript (.Name x p) ie spos) X.env v = (do
      let ov ← holding [v] (eval (.Name x p) X.env)
      let iv ← holding [v, ov] (eval ie X.env)
      standAt spos
      holding [v, ov, iv] (setItem ov iv v)
      release [v, ov, iv] []) := by intro _; rfl)
    (hs : swapsWithSole [.Subscript (.Name x p) ie spos] e pos.line X.env = pure false := by rfl) (hw : swappedStores [.Subscript (.Name x p) ie spos] e X.env = pure none := by rfl)
    (h1 : (assignEach [.Subscript (.Name x p) ie spos] X.env).map (·.2) = [assign (.Subscript (.Name x p) ie spos) X.env] := by rfl) : Run X W (.Assign [.Subscript (.Name x p) ie spos] e pos) ds (.nx (ds.set m (.ow (xs.set j d)))) := fun F0 H0 F H σ E s q => by
  obtain ⟨a, vs, e1, e2, e3, e4, e5⟩ := s.at_ m _ h
  refine toS (ps_asg wpE_pe (pg_sub (pe_var (i := m) (by rw [A.hN]; exact hi) (by rw [A.hsc]; exact hv) hd hcd) wpE_pe set_list ha) hs hw h1) ?_
  refine he F0 H0 F H σ s _ fun v F1 H1 x1 r1 => ⟨_, e1, ?_⟩
  refine hk F0 H0 F1 H1 σ (s.to x1) _ fun v2 F2 H2 x2 r2 => ?_
  refine ⟨a, vs, i, j, rfl, rp_int.mp r2, x2.h _ _ (x1.h _ _ e4), by rw [dpAll_len e5]; exact hj, ?_⟩
  exact q σ F2 _ (((s.to x1).to x2).wrO h e1 (dpAll_set j (dpAll_mono (x1.f.trans x2.f) e5) (rp_dp (rp_mono x2.f r1) hn))) (x1.f.trans x2.f)
end
end Vs

namespace Vs
open PySem PySem.Spec L2

/-! ### loops -/
/-- gone from the def -/
def Out.gone : Out → Bool
  | .rt _ => true
  | .rn _ => true
  | .rm _ => true
  | .ex _ => true
  | .dn => true
  | _ => false
section
variable {X : Cx} {W : WX} {N : List Str} {sc : Scope} {k : Nat} {ds ds' : Sls} {d d1 d2 d3 : D} {as xs : List D} {e a b c o tg iter : Expr} {es : List Expr} {pos p : Pos} {x : Str} {i j : Int} {z : Str} {st : Stmt} {rest body : List Stmt} {u u' : Out} {m : Nat} {t : Bool} {kv : List (Str × D)}
inductive ForR (X : Cx) (W : WX) (m : Nat) (body : List Stmt) : List D → Sls → Out → Prop where
  | nil {ds : Sls} : ForR X W m body [] ds (.nx ds)
  | nx {d : D} {xs : List D} {ds ds' : Sls} {u : Out} : RunB X W body (ds.set m (.va d)) (.nx ds') → ForR X W m body xs ds' u → ForR X W m body (d :: xs) ds u
  | ct {d : D} {xs : List D} {ds ds' : Sls} {u : Out} : RunB X W body (ds.set m (.va d)) (.ct ds') → ForR X W m body xs ds' u → ForR X W m body (d :: xs) ds u
  | bk {d : D} {xs : List D} {ds ds' : Sls} : RunB X W body (ds.set m (.va d)) (.bk ds') → ForR X W m body (d :: xs) ds (.nx ds')
  | rt {d : D} {xs : List D} {ds : Sls} {u : Out} : RunB X W body (ds.set m (.va d)) u → u.gone = true → ForR X W m body (d :: xs) ds u
theorem post_gone {K : PySem.W.Frag} {F0 H0 F F' : Hp} {nx bk ct nx' bk' ct' : St → Hp → Prop} {rt : VK} (h : u.gone = true) (sf : Same F F') (q : Post K W F0 H0 F ⟨nx, rt, bk, ct⟩ u) : Post K W F0 H0 F' ⟨nx', rt, bk', ct'⟩ u := by
  cases u with
  | rt d => exact q
  | rn d => exact q
  | rm d => exact q
  | ex c => exact fun σ F H s s2 => q σ F H s (sf.trans s2)
  | dn => exact q
  | _ => cases h
theorem run_for (A : WhS X N sc k) (m : Nat) (hi : N[m]? = some x) (hx : L2.Loc sc x) (hI : EvI X (.Name x p) iter ds xs) (h : ForR X W m body xs ds u) (hs : ∀ x, foldedSetIterable iter X.env x = pure x := by intro _; rfl) : Run X W (.For (.Name x p) iter body [] pos) ds u := fun F0 H0 F H σ E s q => by
  refine toS (ps_for A.hp A.calm wpI_pi (pg_name (i := m) (by rw [A.hN]; exact A.nd) (by rw [A.hN]; exact hi) (by rw [A.hsc]; exact hx) (.inl (A.fn x))) wpB_pss hs) ?_
  refine hI F0 H0 F H σ s _ fun J F1 H1 x1 wk => ?_
  let Pv : Nat → St → Hp → Prop := fun i σ H => ∃ F' ds', Same F1 F' ∧ StR X.K F0 H0 F' H σ ds' ∧ ForR X W m body (xs.drop i) ds' u
  refine ⟨fun i n σ H => n = xs.length - i ∧ i ≤ xs.length ∧ Pv i σ H, ⟨xs.length, by simp, Nat.zero_le _, F1, ds, Same.refl _, s.to x1, h⟩, ?_⟩
  rintro i n σ2 H2 ⟨rfl, hi', F2, ds2, sF, s2, r⟩
  have sH : Same F1 H2 := sF.trans s2.fh
  by_cases hlt : i < xs.length
  · refine .inr ⟨wk.go H2 i sH hlt, Pv (i + 1), fun σ' H' p2 => ⟨xs.length - (i + 1), by omega, rfl, hlt, p2⟩, fun v H3 y => ?_⟩
    have ed : xs[i]? = some xs[i] := List.getElem?_eq_getElem hlt
    obtain ⟨e3, dv⟩ := wk.yld H2 i v H3 _ sH y ed
    subst e3
    have s3 : StR X.K F0 H0 F2 H3 (σ2.set m (some v)) (ds2.set m (.va xs[i])) := s2.set (rp_of (dp_mono sF dv))
    rw [List.drop_eq_getElem_cons hlt] at r
    show wpB X body _ (σ2.set m (some v)) H3
    cases r with
    | nx r1 r2 => exact r1 F0 H0 F2 H3 _ _ s3 fun σ' F' H' s' sf => ⟨F', _, sF.trans sf, s', r2⟩
    | ct r1 r2 => exact r1 F0 H0 F2 H3 _ _ s3 fun σ' F' H' s' sf => ⟨F', _, sF.trans sf, s', r2⟩
    | bk r1 => exact r1 F0 H0 F2 H3 _ _ s3 fun σ' F' H' s' sf => q σ' F' H' s' ((x1.f.trans sF).trans sf)
    | rt r1 hg => exact r1 F0 H0 F2 H3 _ _ s3 (post_gone hg (x1.f.trans sF) q)
  · have e : i = xs.length := by omega
    subst e
    rw [List.drop_length] at r
    cases r with
    | nil => exact .inl ⟨wk.stop H2 _ sH (Nat.le_refl _), q σ2 F2 H2 s2 (x1.f.trans sF)⟩
inductive WhR (X : Cx) (W : WX) (c : Expr) (body : List Stmt) : Nat → Sls → Out → Prop where
  | done {ds : Sls} : EvT X c ds false → WhR X W c body 0 ds (.nx ds)
  | nx {n : Nat} {ds ds' : Sls} {u : Out} : EvT X c ds true → RunB X W body ds (.nx ds') → WhR X W c body n ds' u → WhR X W c body (n + 1) ds u
  | ct {n : Nat} {ds ds' : Sls} {u : Out} : EvT X c ds true → RunB X W body ds (.ct ds') → WhR X W c body n ds' u → WhR X W c body (n + 1) ds u
  | bk {ds ds' : Sls} : EvT X c ds true → RunB X W body ds (.bk ds') → WhR X W c body 0 ds (.nx ds')
  | rt {ds : Sls} {u : Out} : EvT X c ds true → RunB X W body ds u → u.gone = true → WhR X W c body 0 ds u
theorem run_while {n : Nat} (A : WhS X N sc k) (h : WhR X W c body n ds u) : Run X W (.While c body [] pos) ds u := fun F0 H0 F H σ E s q => by
  refine toS (ps_while A.hp wpT_pt wpB_pss) ?_
  let Pv : Nat → St → Hp → Prop := fun n σ H => ∃ F' ds', Same F F' ∧ StR X.K F0 H0 F' H σ ds' ∧ WhR X W c body n ds' u
  refine ⟨Pv, ⟨n, F, ds, Same.refl _, s, h⟩, ?_⟩
  rintro n σ2 H2 ⟨F2, ds2, sF, s2, r⟩
  cases r with
  | done hc =>
    refine hc F0 H0 F2 H2 σ2 s2 _ fun F3 H3 x3 => ?_
    rw [if_neg (by decide)]
    exact q σ2 F3 H3 (s2.to x3) (sF.trans x3.f)
  | nx hc r1 r2 =>
    refine hc F0 H0 F2 H2 σ2 s2 _ fun F3 H3 x3 => ?_
    rw [if_pos rfl]
    refine ⟨Pv _, fun σ' H' p2 => ⟨_, Nat.lt_succ_self _, p2⟩, ?_⟩
    exact r1 F0 H0 F3 H3 _ _ (s2.to x3) fun σ' F' H' s' sf => ⟨F', _, (sF.trans x3.f).trans sf, s', r2⟩
  | ct hc r1 r2 =>
    refine hc F0 H0 F2 H2 σ2 s2 _ fun F3 H3 x3 => ?_
    rw [if_pos rfl]
    refine ⟨Pv _, fun σ' H' p2 => ⟨_, Nat.lt_succ_self _, p2⟩, ?_⟩
    exact r1 F0 H0 F3 H3 _ _ (s2.to x3) fun σ' F' H' s' sf => ⟨F', _, (sF.trans x3.f).trans sf, s', r2⟩
  | bk hc r1 =>
    refine hc F0 H0 F2 H2 σ2 s2 _ fun F3 H3 x3 => ?_
    rw [if_pos rfl]
    refine ⟨fun _ _ => False, fun σ' H' p2 => p2.elim, ?_⟩
    exact r1 F0 H0 F3 H3 _ _ (s2.to x3) fun σ' F' H' s' sf => q σ' F' H' s' ((sF.trans x3.f).trans sf)
  | rt hc r1 hg =>
    refine hc F0 H0 F2 H2 σ2 s2 _ fun F3 H3 x3 => ?_
    rw [if_pos rfl]
    refine ⟨fun _ _ => False, fun σ' H' p2 => p2.elim, ?_⟩
    exact r1 F0 H0 F3 H3 _ _ (s2.to x3) (post_gone hg (sF.trans x3.f) q)

/-! ### several targets -/
/-- a, b = e1, e2 -/
theorem run_par {y1 y2 : Str} {p1 p2 pt pt2 : Pos} {kt k2 : Nat} {m1 m2 : Nat} (A : WhS X N sc k) (h1 : N[m1]? = some y1) (h2 : N[m2]? = some y2) (hne : m1 ≠ m2) (l1 : sc.names.lookup y1 = some .local) (l2 : sc.names.lookup y2 = some .local) (ha : EvA X [a, b] ds [d1, d2])
    (hw : swappedStores [.Tuple [.Name y1 p1, .Name y2 p2] kt pt] (.Tuple [a, b] k2 pt2) X.env = pure (some [y1, y2]))
    (hs : swapsWithSole [.Tuple [.Name y1 p1, .Name y2 p2] kt pt] (.Tuple [a, b] k2 pt2) pos.line X.env = pure false := by rfl) :
    Run X W (.Assign [.Tuple [.Name y1 p1, .Name y2 p2] kt pt] (.Tuple [a, b] k2 pt2) pos) ds (.nx ((ds.set m1 (.va d1)).set m2 (.va d2))) := fun F0 H0 F H σ E s q => by
  refine toS (ps_par A.calm (by rw [A.hN]; exact A.nd) (by rw [A.hN]; exact h1) (by rw [A.hN]; exact h2) hne (by rw [A.hsc]; exact l1) (by rw [A.hsc]; exact l2) wpA_pa hw hs) ?_
  refine ha F0 H0 F H σ s _ fun vs F' H' x r => ?_
  obtain ⟨v, w, rfl, r1, r2⟩ := rpAll2 r
  exact ⟨v, w, rfl, q _ F' H' (((s.to x).set r1).set r2) x.f⟩
/-- a, b = e, e a tuple -/
theorem run_unp {y1 y2 : Str} {p1 p2 pt : Pos} {kt : Nat} {m1 m2 : Nat} (A : WhS X N sc k) (h1 : N[m1]? = some y1) (h2 : N[m2]? = some y2) (l1 : L2.Loc sc y1) (l2 : L2.Loc sc y2) (he : EvE X e ds (.tuple [d1, d2]))
    (hs : swapsWithSole [.Tuple [.Name y1 p1, .Name y2 p2] kt pt] e pos.line X.env = pure false := by rfl) (hw : swappedStores [.Tuple [.Name y1 p1, .Name y2 p2] kt pt] e X.env = pure none := by rfl)
    (hh1 : (assignEach [.Tuple [.Name y1 p1, .Name y2 p2] kt pt] X.env).map (·.2) = [assign (.Tuple [.Name y1 p1, .Name y2 p2] kt pt) X.env] := by rfl) 
    (hn : (assignEach [.Name y1 p1, .Name y2 p2] X.env).length = 2 := by rfl) (hst : (assignEach [.Name y1 p1, .Name y2 p2] X.env).findIdx? (·.1) = none := by rfl)
    (hq1 : (assignEach (.Name y1 p1 :: [.Name y2 p2]) X.env).map (·.2) = assign (.Name y1 p1) X.env :: (assignEach [.Name y2 p2] X.env).map (·.2) := by rfl) (hq2 : (assignEach (.Name y2 p2 :: []) X.env).map (·.2) = assign (.Name y2 p2) X.env :: (assignEach [] X.env).map (·.2) := by rfl) :
    Run X W (.Assign [.Tuple [.Name y1 p1, .Name y2 p2] kt pt] e pos) ds (.nx ((ds.set m1 (.va d1)).set m2 (.va d2))) := fun F0 H0 F H σ E s q => by
  have g : ∀ {y : Str} {p : Pos} {m : Nat}, N[m]? = some y → L2.Loc sc y → PG X (.Name y p) (gName m) := fun {y p m} h l => pg_name (by rw [A.hN]; exact A.nd) (by rw [A.hN]; exact h) (by rw [A.hsc]; exact l) (.inl (A.fn y))
  refine toS (ps_asg wpE_pe (pg_tup A.calm (pgs_cons (g h1 l1) (pgs_cons (g h2 l2) pgs_nil hq2) hq1) hn hst) hs hw hh1) ?_
  refine he F0 H0 F H σ s _ fun v F' H' x r => ?_
  obtain ⟨a, vs, rfl, h3, h4⟩ := rp_tup.mp r
  cases h4 with
  | cons r1 h4 =>
    cases h4 with
    | cons r2 h4 =>
      cases h4
      refine ⟨a, _, rfl, sqT_mono x.fh h3, rfl, _, _, rfl, _, _, rfl, rfl, ?_⟩
      exact q _ F' H' (((s.to x).set (rp_of r1)).set (rp_of r2)) x.f

/-! ### what a def promises -/
def PostC (K : PySem.W.Frag) (F H : Hp) (Q : VK) (E : XK) : Out → Prop
  | .rt d => ∀ v F' H', Ext F H F' H' → Rp K F' v d → Q v H'
  | .rn xs => ∀ p vs F' H', Ext F H F' H' → H p = none → F' p = none → H' p = some (.lst vs) → DpAll K F' vs xs → Q (.ref p) H'
  | .rm kv => ∀ p ks F' H', Ext F H F' H' → H p = none → F' p = none → H' p = some (.dK ks) → KvR K F' ks kv → Q (.ref p) H'
  | .ex c => ∀ F' H', Ext F H F' H' → E c none H'
  | .dn => ∀ v F' H', Ext F H F' H' → Q v H'
  | _ => False
/-- a def, by data: S tells what comes of the arguments -/
def spD (K : PySem.W.Frag) (S : List D → Out → Prop) : Sp := fun vs H Q E => ∃ F ds r, Same F H ∧ RpAll K F vs ds ∧ S ds r ∧ PostC K F H Q E r
/-- the end of a body -/
def Fin (u r : Out) : Prop := u = r ∨ ∃ ds, u = .nx ds ∧ r = .rt .none
def startD (N : List Str) (ds : List D) : Sls := ds.map Sl.va ++ List.replicate (N.length - ds.length) .no
theorem rpAll_len {K : PySem.W.Frag} {H : Hp} {vs : List V} {ds : List D} (r : RpAll K H vs ds) : ds.length = vs.length := paired_len r
theorem rpAll_get {K : PySem.W.Frag} {H : Hp} : ∀ {vs : List V} {ds : List D} {i : Nat} {d : D}, RpAll K H vs ds → ds[i]? = some d → ∃ v, vs[i]? = some v ∧ Rp K H v d
  | _, _, _, _, .nil, e => by simp at e
  | _, _, 0, _, .cons h _, e => by
    have e := Option.some.inj e
    subst e
    exact ⟨_, rfl, h⟩
  | _, _, i + 1, _, .cons _ r, e => rpAll_get (i := i) r e
theorem str_start {K : PySem.W.Frag} {F H : Hp} {N : List Str} {vs : List V} {ds : List D} (s : Same F H) (r : RpAll K F vs ds) : StR K F H F H (L2.start N vs) (startD N ds) := by
  have hl := rpAll_len r
  have get : ∀ (i : Nat) (t : Sl), (startD N ds)[i]? = some t → (t = .no) ∨ ∃ d v, t = .va d ∧ (L2.start N vs)[i]? = some (some v) ∧ Rp K F v d := fun i t e => by
    unfold startD at e
    by_cases q : i < ds.length
    · rw [List.getElem?_append_left (by rw [List.length_map]; exact q), List.getElem?_map] at e
      rw [List.getElem?_eq_getElem q] at e
      obtain ⟨v, e2, r2⟩ := rpAll_get r (List.getElem?_eq_getElem q)
      refine .inr ⟨_, v, (Option.some.inj e).symm, ?_, r2⟩
      unfold L2.start
      rw [List.getElem?_append_left (by rw [List.length_map]; omega), List.getElem?_map, e2]
      rfl
    · rw [List.getElem?_append_right (by rw [List.length_map]; omega), List.getElem?_replicate] at e
      split at e
      · exact .inl (Option.some.inj e).symm
      · cases e
  refine ⟨.refl s, ?_, fun i t e => ?_, fun i j a ⟨t, e, mt⟩ _ _ _ => ?_⟩
  · unfold L2.start startD
    rw [List.length_append, List.length_map, List.length_replicate, List.length_append, List.length_map, List.length_replicate, hl]
  · rcases get i t e with rfl | ⟨d, v, rfl, e2, r2⟩
    · trivial
    · exact ⟨v, e2, r2⟩
  · rcases get i t e with rfl | ⟨d, v, rfl, _⟩
    · cases mt
    · cases mt
end
/-- the text's def x stands there -/
def DfG (K : PySem.W.Frag) (mg : Str → Option Value) (x : Str) (st : Stmt) (ps : List Str) : Prop := ∃ f fd, Fun K x x st f fd ∧ mg x = some (.ref f) ∧ Binds K fd ps []
/-- .. and keeps its promise -/
def FnG (P : Program) (w : World) (K : PySem.W.Frag) (mg : Str → Option Value) (base : Heap) (k : Nat) (x : Str) (ps : List Str) (S : List D → Out → Prop) : Prop :=
  ∃ f fd, FnOk P w K mg base (L2.CX P w) k f fd ps (spD K S) ∧ mg x = some (.ref f) ∧ PySem.W.keepIn K (.ref f) = true ∧ Binds K fd ps []
abbrev FnX (X : Cx) := FnG X.prog X.w X.K X.mg X.base
section
variable {P : Program} {w : World} {K : PySem.W.Frag} {mg : Str → Option Value} {base : Heap} {x : Str} {st : Stmt} {N ps : List Str} {k : Nat} {S : List D → Out → Prop}
theorem fn_body {f : Addr} {fd : FuncData} (Fu : Fun K x x st f fd) (Sc : FnScope N ps (defScope st)) (len : ∀ ds r, S ds r → ds.length = ps.length)
    (body : ∀ (X : Cx) (W : WX), X.prog = P → X.w = w → X.K = K → X.mg = mg → X.base = base → WhS X N (defScope st) k → Takes X W → ∀ ds r, S ds r → ∃ u, Fin u r ∧ RunB X W (defBody st) (startD N ds) u) :
    FnOk P w K mg base (L2.CX P w) (k + 1) f fd ps (spD K S) := by
  refine Fu.okX Sc (fun vs H Q E h => ?_) fun cdv A outer s H vs Q E hr h => ?_
  · obtain ⟨F, ds, r, _, h1, h2, _⟩ := h
    rw [← rpAll_len h1]; exact len _ _ h2
  · obtain ⟨F, ds, r, sf, h1, h2, q⟩ := h
    refine ⟨_, wpB_pss, ?_⟩
    obtain ⟨u, fin, run⟩ := body (cxOf (L2.CX P w) P w K mg base N x (defScope st) f cdv A outer s H E) (fun cls d σ H => E cls d H) rfl rfl rfl rfl rfl ⟨⟨⟨rfl, Sc.nd, rfl, Sc.kind⟩, rfl, hr⟩, passes_of rfl, fun _ => rfl, rfl, rfl⟩ (takes_of rfl rfl rfl rfl) ds r h2
    refine run F H F H _ _ (str_start sf h1) ?_
    rcases fin with rfl | ⟨ds', rfl, rfl⟩
    · cases u with
      | rt d => exact q
      | rn d => exact q
      | rm d => exact q
      | ex c => exact fun σ F' H' s' _ => q F' H' s'.ext
      | dn => exact q
      | _ => exact q.elim
    · exact fun σ F' H' s' _ => q _ F' H' s'.ext .non
theorem fn_D (Df : DfG K mg x st ps) (Sc : FnScope N ps (defScope st)) (len : ∀ ds r, S ds r → ds.length = ps.length)
    (body : ∀ (X : Cx) (W : WX), X.prog = P → X.w = w → X.K = K → X.mg = mg → X.base = base → WhS X N (defScope st) k → Takes X W → ∀ ds r, S ds r → ∃ u, Fin u r ∧ RunB X W (defBody st) (startD N ds) u) :
    FnG P w K mg base (k + 1) x ps S := by
  obtain ⟨f, fd, h1, h2, h3⟩ := Df
  exact ⟨f, fd, fn_body h1 Sc len body, h2, h1.kp, h3⟩
theorem FnG.mono {j : Nat} (G : FnG P w K mg base j x ps S) (h : j ≤ k) : FnG P w K mg base k x ps S := by
  obtain ⟨f, fd, h1, h2, h3, h4⟩ := G
  exact ⟨f, fd, h1.mono h, h2, h3, h4⟩
end
section
variable {X : Cx} {W : WX} {N ps : List Str} {sc : Scope} {k kf : Nat} {ds : Sls} {d : D} {as xs : List D} {e : Expr} {es : List Expr} {pos p : Pos} {x : Str} {S : List D → Out → Prop} {kv : List (Str × D)}
/-- a block's callees are its def's -/
theorem FnG.blk {X' : Cx} {scope : Scope} (G : FnX X kf x ps S) (h : BlkOf X scope X') : FnX X' kf x ps S := by
  obtain ⟨s, H, C, cl, fp, rfl⟩ := h
  exact G
theorem call_run (A : Wh X N sc k) (G : FnX X kf x ps S) (hk : kf ≤ k) (hg : GlS sc x) (ha : EvA X (e :: es) ds as) {r : Out} (hs : S as r) (hdb : (x == ("__debug__" : Str)) = false := by decide) (he : starEach (e :: es) X.env = (false, eval e X.env) :: starEach es X.env := by rfl) (hpl : (backTo pos (starEach es X.env)).any (·.1) = false := by rfl)
    {F0 H0 F H : Hp} {σ : St} (s : StR X.K F0 H0 F H σ ds) {Q : VK} (q : ∀ F' H', Ext F H F' H' → PostC X.K F' H' Q E0 r) : wpE X (.Call (.Name x p) (e :: es) [] pos) σ H Q := by
  obtain ⟨f, fd, h1, h2, h3, h4⟩ := G
  refine toE (pe_call h1 (A.room.mono hk) (A.gl hg) h2 h3 h4 .nil passL wpA_pa hdb he hpl) ?_
  refine ha F0 H0 F H σ s _ fun vs F' H' x r1 => ?_
  rw [List.append_nil]
  exact ⟨F', as, r, x.fh, r1, hs, q F' H' x⟩
theorem ev_call (A : Wh X N sc k) (G : FnX X kf x ps S) (hk : kf ≤ k) (hg : GlS sc x) (ha : EvA X (e :: es) ds as) (hs : S as (.rt d)) (hdb : (x == ("__debug__" : Str)) = false := by decide) (he : starEach (e :: es) X.env = (false, eval e X.env) :: starEach es X.env := by rfl) (hpl : (backTo pos (starEach es X.env)).any (·.1) = false := by rfl) :
    EvE X (.Call (.Name x p) (e :: es) [] pos) ds d := fun F0 H0 F H σ s Q q => call_run A G hk hg ha hs hdb he hpl s fun F' H' x v F2 H2 x2 r => q v F2 H2 (x.trans x2) r
theorem evn_call (A : Wh X N sc k) (G : FnX X kf x ps S) (hk : kf ≤ k) (hg : GlS sc x) (ha : EvA X (e :: es) ds as) (hs : S as (.rn xs)) (hdb : (x == ("__debug__" : Str)) = false := by decide) (he : starEach (e :: es) X.env = (false, eval e X.env) :: starEach es X.env := by rfl) (hpl : (backTo pos (starEach es X.env)).any (·.1) = false := by rfl) :
    EvN X (.Call (.Name x p) (e :: es) [] pos) ds xs := fun F0 H0 F H σ s Q q => call_run A G hk hg ha hs hdb he hpl s fun F' H' x p vs F2 H2 x2 n1 n2 n3 n4 => q p vs F2 H2 (x.trans x2) (x.h.free n1) n2 n3 n4
theorem evm_call (A : Wh X N sc k) (G : FnX X kf x ps S) (hk : kf ≤ k) (hg : GlS sc x) (ha : EvA X (e :: es) ds as) (hs : S as (.rm kv)) (hdb : (x == ("__debug__" : Str)) = false := by decide) (he : starEach (e :: es) X.env = (false, eval e X.env) :: starEach es X.env := by rfl) (hpl : (backTo pos (starEach es X.env)).any (·.1) = false := by rfl) :
    EvM X (.Call (.Name x p) (e :: es) [] pos) ds kv := fun F0 H0 F H σ s Q q => call_run A G hk hg ha hs hdb he hpl s fun F' H' x p vs F2 H2 x2 n1 n2 n3 n4 => q p vs F2 H2 (x.trans x2) (x.h.free n1) n2 n3 n4
/-- what was never reached -/
theorem run_never {st : Stmt} {u : Out} (h : False) : Run X W st ds u := h.elim
end
end Vs

namespace Vs
open PySem PySem.Spec L2

/-! ### texts as lists of codes -/
abbrev S (l : List Nat) : Str := ⟨l.toArray⟩
abbrev sD (l : List Nat) : D := .str (S l)
abbrev iD (i : Int) : D := .int i
abbrev bD (b : Bool) : D := .bool b
abbrev txts (ls : List (List Nat)) : D := .list (ls.map sD)
abbrev nums (ns : List Int) : D := .list (ns.map iD)
theorem S_len (l : List Nat) : (S l).length = l.length := rfl
theorem S_inj {a b : List Nat} : S a = S b ↔ a = b := ⟨fun h => by
  have h1 := congrArg (fun s : Str => s.cps.toList) h
  simpa using h1, fun h => by rw [h]⟩
theorem S_app (a b : List Nat) : S a ++ S b = S (a ++ b) := by
  show (⟨a.toArray ++ b.toArray⟩ : Str) = _
  simp
theorem S_mk (x : Str) : S x.cps.toList = x := rfl
def cutL {α : Type} (l : List α) (lo hi : Option Int) : List α := (l.drop (HT.sIx l.length 0 lo)).take (HT.sIx l.length l.length hi - HT.sIx l.length 0 lo)
theorem cutS_S (l : List Nat) (lo hi : Option Int) : cutS (S l) lo hi = S (cutL l lo hi) := rfl
theorem cutD_map {α : Type} (enc : α → D) (l : List α) (lo hi : Option Int) : cutD (l.map enc) lo hi = (cutL l lo hi).map enc := by
  unfold cutD cutL
  rw [List.length_map, List.map_take, List.map_drop]
theorem sIx_n (n d k : Nat) : HT.sIx n d (some (k : Int)) = min k n := HT.sIx_nat n d k
theorem cutL_from {α : Type} (l : List α) (k : Nat) : cutL l (some (k : Int)) none = l.drop k := by
  unfold cutL
  rw [sIx_n, HT.sIx_none]
  by_cases h : k ≤ l.length
  · rw [Nat.min_eq_left h]
    exact List.take_of_length_le (by rw [List.length_drop]; omega)
  · rw [Nat.min_eq_right (by omega), Nat.sub_self, List.take_zero, List.drop_of_length_le (by omega)]
theorem cutL_to {α : Type} (l : List α) (k : Nat) : cutL l none (some (k : Int)) = l.take k := by
  unfold cutL
  rw [sIx_n, HT.sIx_none, List.drop_zero, Nat.sub_zero]
  by_cases h : k ≤ l.length
  · rw [Nat.min_eq_left h]
  · rw [Nat.min_eq_right (by omega), List.take_of_length_le (Nat.le_refl _), List.take_of_length_le (by omega)]
theorem cutL_all {α : Type} (l : List α) : cutL l none none = l := by
  unfold cutL
  rw [HT.sIx_none, HT.sIx_none, List.drop_zero, Nat.sub_zero, List.take_length]
theorem cutL_mid {α : Type} (l : List α) (i j : Nat) : cutL l (some (i : Int)) (some (j : Int)) = (l.take j).drop i := by
  unfold cutL
  rw [sIx_n, sIx_n, List.drop_take]
  by_cases h : i ≤ l.length
  · rw [Nat.min_eq_left h]
    by_cases h2 : j ≤ l.length
    · rw [Nat.min_eq_left h2]
    · rw [Nat.min_eq_right (show l.length ≤ j by omega), List.take_of_length_le (by rw [List.length_drop]; omega), List.take_of_length_le (by rw [List.length_drop]; omega)]
  · rw [Nat.min_eq_right (show l.length ≤ i by omega), List.drop_of_length_le (Nat.le_refl _), List.drop_of_length_le (show l.length ≤ i by omega), List.take_nil, List.take_nil]
theorem cutL_last {α : Type} (l : List α) : cutL l none (some (-1)) = l.dropLast := by
  unfold cutL
  rw [HT.sIx_none, List.drop_zero, Nat.sub_zero, List.dropLast_eq_take]
  congr 1
  show (if (-1 : Int) < 0 then (-1 + (l.length : Int)).toNat else min (-1 : Int).toNat l.length) = l.length - 1
  rw [if_pos (by decide)]
  omega
theorem cutL_len {α : Type} (l : List α) (lo hi : Option Int) : (cutL l lo hi).length ≤ l.length := by
  unfold cutL
  rw [List.length_take, List.length_drop]
  omega
theorem cutL_sub {α : Type} {l : List α} {lo hi : Option Int} {x : α} (h : x ∈ cutL l lo hi) : x ∈ l := List.mem_of_mem_drop (List.mem_of_mem_take h)
theorem atI_n {α : Type} {l : List α} {k : Nat} {x : α} (h : l[k]? = some x) : atI l (k : Int) = some x := atI_nat h
/-! what the library reckons of texts, over lists -/
theorem sub_iff (a b : List Nat) (i : Nat) : (i + (S b).length ≤ (S a).length ∧ Builtin.Str.subAt (S a) (S b) i = true) ↔ i ≤ a.length ∧ b <+: a.drop i := by
  rw [PySem.StrLaws.subAt_eq, beq_iff_eq]
  show (i + b.length ≤ a.length ∧ (a.drop i).take b.length = b) ↔ _
  constructor
  · rintro ⟨h1, h2⟩
    exact ⟨by omega, h2 ▸ List.take_prefix _ _⟩
  · rintro ⟨h0, h⟩
    have h1 := h.length_le
    rw [List.length_drop] at h1
    exact ⟨by omega, (List.prefix_iff_eq_take.mp h).symm⟩
theorem in_txt (a b : List Nat) : (!(Builtin.Str.occurrences (S a) (S b) 0 (S a).length 1).isEmpty) = decide (b <:+: a) := by
  rw [Bool.eq_iff_iff, PySem.StrLaws.found_iff, decide_eq_true_eq]
  constructor
  · rintro ⟨i, h⟩
    obtain ⟨h1, h2⟩ := (sub_iff a b i).mp h
    exact h2.isInfix.trans (List.drop_suffix i a).isInfix
  · rintro ⟨s, t, rfl⟩
    refine ⟨s.length, (sub_iff _ b s.length).mpr ⟨by simp, ?_⟩⟩
    rw [List.append_assoc, List.drop_left]
    exact ⟨t, rfl⟩
theorem starts_txt (a b : List Nat) : PySem.Txt.startswith (S a) (S b) = decide (b <+: a) := by
  have h := sub_iff a b 0
  rw [List.drop_zero] at h
  rw [Bool.eq_iff_iff, decide_eq_true_eq]
  unfold PySem.Txt.startswith
  rw [Bool.and_eq_true, decide_eq_true_eq, h]
  exact ⟨fun h => h.2, fun h => ⟨Nat.zero_le _, h⟩⟩
theorem ends_txt (a b : List Nat) : PySem.Txt.endswith (S a) (S b) = decide (b <:+ a) := by
  rw [Bool.eq_iff_iff, decide_eq_true_eq]
  unfold PySem.Txt.endswith
  rw [Bool.and_eq_true, decide_eq_true_eq]
  show (0 + b.length ≤ a.length ∧ Builtin.Str.subAt (S a) (S b) (a.length - b.length) = true) ↔ _
  constructor
  · rintro ⟨h1, h2⟩
    have h3 := ((sub_iff a b (a.length - b.length)).mp ⟨by rw [S_len, S_len]; omega, h2⟩).2
    have h4 : a.drop (a.length - b.length) = b := by
      have := h3.eq_of_length (by rw [List.length_drop]; omega)
      exact this.symm
    exact h4 ▸ List.drop_suffix _ a
  · rintro ⟨s, rfl⟩
    refine ⟨by rw [List.length_append]; omega, ?_⟩
    refine ((sub_iff (s ++ b) b _).mpr ⟨by omega, ?_⟩).2
    rw [List.length_append, Nat.add_sub_cancel, List.drop_left]
    exact List.prefix_refl _
theorem idxOf_le : ∀ {a : List Nat} {i c : Nat}, a[i]? = some c → a.idxOf c ≤ i
  | [], _, _, h => by simp at h
  | b :: a, 0, c, h => by
    have e : b = c := Option.some.inj h
    rw [List.idxOf_cons, e]
    simp
  | b :: a, i + 1, c, h => by
    have ih := idxOf_le (a := a) (i := i) (c := c) h
    rw [List.idxOf_cons]
    cases (b == c) with
    | true => exact Nat.zero_le _
    | false => exact Nat.succ_le_succ ih
theorem index_txt (a : List Nat) (c : Nat) (h : c ∈ a) : ∃ rest, Builtin.Str.occurrences (S a) (S [c]) 0 (S a).length 1 = a.idxOf c :: rest := by
  have at_ : ∀ i, (i + (S [c]).length ≤ (S a).length ∧ Builtin.Str.subAt (S a) (S [c]) i = true) ↔ a[i]? = some c := fun i => PySem.StrLaws.subAt_one (S a) c i
  have hx : a[a.idxOf c]? = some c := by
    rw [List.getElem?_eq_getElem (List.idxOf_lt_length_iff.mpr h)]
    exact congrArg some (List.getElem_idxOf _)
  rcases PySem.StrLaws.occ_head (S a) (S [c]) 1 (Nat.le_refl _) with ⟨_, hn⟩ | ⟨i, r, e, h1, h2⟩
  · exact absurd ((at_ _).mpr hx) (hn _)
  · have e1 := (at_ i).mp h1
    have h3 : ¬ a.idxOf c < i := fun q => h2 _ q ((at_ _).mpr hx)
    have h4 : a.idxOf c ≤ i := idxOf_le e1
    have : i = a.idxOf c := by omega
    exact ⟨r, by rw [e, this]⟩

section
variable {X : Cx} {W : WX} {N : List Str} {sc : Scope} {k : Nat} {ds : Sls} {d d1 d2 d3 : D} {as xs ys : List D} {e a b c o tg iter : Expr} {es : List Expr} {pos p : Pos} {x : Str} {i j : Int} {l l1 l2 : List Nat} {ls : List (List Nat)}
theorem ev_strC (l : List Nat) {j : Nat} (h : x = S l) : EvE X (.Constant (.str x) j pos) ds (sD l) := by
  subst h
  exact ev_str
theorem ev_addT (ha : EvE X a ds (sD l1)) (hb : EvE X b ds (sD l2)) (h : l1.length + l2.length ≤ sizeLine) : EvE X (.BinOp a .Add b pos) ds (sD (l1 ++ l2)) := (ev_addS ha hb h).cast (by rw [S_app])
theorem ev_eqT (ha : EvE X a ds (sD l1)) (hb : EvE X b ds (sD l2)) : EvE X (.Compare a [.Eq] [b] pos) ds (bD (decide (l1 = l2))) := (ev_eqS ha hb).cast (congrArg PyData.bool (decide_eq_decide.mpr S_inj))
theorem ev_neT (ha : EvE X a ds (sD l1)) (hb : EvE X b ds (sD l2)) : EvE X (.Compare a [.NotEq] [b] pos) ds (bD (!decide (l1 = l2))) := (ev_neS ha hb).cast (congrArg (fun b => PyData.bool (!b)) (decide_eq_decide.mpr S_inj))
theorem evt_eqT (ha : EvE X a ds (sD l1)) (hb : EvE X b ds (sD l2)) : EvT X (.Compare a [.Eq] [b] pos) ds (decide (l1 = l2)) := (evt_eqS ha hb).cast (decide_eq_decide.mpr S_inj)
theorem evt_neT (ha : EvE X a ds (sD l1)) (hb : EvE X b ds (sD l2)) : EvT X (.Compare a [.NotEq] [b] pos) ds (!decide (l1 = l2)) := (evt_neS ha hb).cast (congrArg (fun b => !b) (decide_eq_decide.mpr S_inj))
theorem ev_lenT' (A : Wh X N sc k) (hg : GlS sc "len") (hm : X.mg "len" = none) (h : EvE X e ds (sD l)) (hz : l.length ≤ sizeLine) (he : starEach (e :: []) X.env = (false, eval e X.env) :: starEach [] X.env := by rfl) : EvE X (.Call (.Name "len" p) [e] [] pos) ds (iD l.length) := ev_lenS A hg hm h hz he
/-- a sign of a text -/
theorem ev_ixTx {c : Nat} (ha : EvE X a ds (sD l)) (hb : EvE X b ds (.int i)) (h : atI l i = some c) (hl : l.length ≤ sizeLine) (hs : PlainIx b := by exact fun _ _ => rfl) : EvE X (.Subscript a b pos) ds (sD [c]) := ev_ixS ha hb hl h hs
variable {lo hi : Option Expr} {u v : Option Int} {p2 : Pos}
theorem ev_slT (ha : EvE X a ds (sD l)) (hl : EvO X lo ds u) (hh : EvO X hi ds v) (hz : l.length ≤ sizeLine) : EvE X (.Subscript a (.Slice lo hi none p2) pos) ds (sD (cutL l u v)) := ev_slS ha hl hh hz
theorem evn_slM {α : Type} {enc : α → D} {ts : List α} (ha : EvE X a ds (.list (ts.map enc))) (hl : EvO X lo ds u) (hh : EvO X hi ds v) : EvN X (.Subscript a (.Slice lo hi none p2) pos) ds ((cutL ts u v).map enc) := (evn_slL ha hl hh).cast (cutD_map enc ts u v)
theorem evi_strT (h : EvE X e ds (sD l)) : EvI X tg e ds (l.map fun c => sD [c]) := by
  have := evi_str (tg := tg) h
  exact this
/-! in -/
theorem opd_inT : OpD X (fun x y H Q => ∃ i j, x = .str i ∧ y = .str j ∧ Q (.bl (!(Builtin.Str.occurrences j i 0 j.length 1).isEmpty)) H) (sD l1) (sD l2) (bD (decide (l1 <:+: l2))) := fun v1 v2 F H Q s r1 r2 q =>
  ⟨S l1, S l2, rp_str.mp r1, rp_str.mp r2, by rw [in_txt]; exact q _ F H (.refl s) (.bl _)⟩
theorem opd_ninT : OpD X (fun x y H Q => ∃ i j, x = .str i ∧ y = .str j ∧ Q (.bl (!(!(Builtin.Str.occurrences j i 0 j.length 1).isEmpty))) H) (sD l1) (sD l2) (bD (!decide (l1 <:+: l2))) := fun v1 v2 F H Q s r1 r2 q =>
  ⟨S l1, S l2, rp_str.mp r1, rp_str.mp r2, by rw [in_txt]; exact q _ F H (.refl s) (.bl _)⟩
theorem ev_inT (ha : EvE X a ds (sD l1)) (hb : EvE X b ds (sD l2)) (hm : behindInMarks .In b = false := by rfl) : EvE X (.Compare a [.In] [b] pos) ds (bD (decide (l1 <:+: l2))) := ev_cmp op_in_str ha hb opd_inT hm
theorem evt_inT (ha : EvE X a ds (sD l1)) (hb : EvE X b ds (sD l2)) (hm : behindInMarks .In b = false := by rfl) : EvT X (.Compare a [.In] [b] pos) ds (decide (l1 <:+: l2)) := evt_cmp op_in_str ha hb opd_inT hm
theorem ev_ninT (ha : EvE X a ds (sD l1)) (hb : EvE X b ds (sD l2)) (hm : behindInMarks .NotIn b = false := by rfl) : EvE X (.Compare a [.NotIn] [b] pos) ds (bD (!decide (l1 <:+: l2))) := ev_cmp op_notin_str ha hb opd_ninT hm
theorem evt_ninT (ha : EvE X a ds (sD l1)) (hb : EvE X b ds (sD l2)) (hm : behindInMarks .NotIn b = false := by rfl) : EvT X (.Compare a [.NotIn] [b] pos) ds (!decide (l1 <:+: l2)) := evt_cmp op_notin_str ha hb opd_ninT hm
theorem inV_strs (l : List Nat) : ∀ ls : List (List Nat), inV (.str (S l)) (ls.map fun l => V.str (S l)) = decide (l ∈ ls)
  | [] => by simp [inV]
  | m :: ls => by
    have ih := inV_strs l ls
    unfold inV at ih ⊢
    rw [List.map_cons, List.any_cons, ih]
    have e : eqV (.str (S m)) (.str (S l)) = decide (l = m) := by
      show (S m == S l) = decide (l = m)
      rw [Bool.eq_iff_iff, beq_iff_eq, decide_eq_true_eq, S_inj]
      exact eq_comm
    rw [e]
    by_cases q : l = m
    · rw [decide_eq_true q, Bool.true_or, decide_eq_true (by rw [q]; exact List.mem_cons_self)]
    · rw [decide_eq_false q, Bool.false_or]
      exact decide_eq_decide.mpr ⟨fun h => List.mem_cons_of_mem _ h, fun h => (List.mem_cons.mp h).resolve_left q⟩
theorem flat_strs : ∀ ls : List (List Nat), (ls.map fun l => V.str (S l)).all flatV = true
  | [] => rfl
  | _ :: ls => by rw [List.map_cons, List.all_cons, flat_strs ls]; rfl
theorem dpAll_S {K : PySem.W.Frag} {H : Hp} : ∀ {ls : List (List Nat)} {vs : List V}, DpAll K H vs (ls.map sD) → vs = ls.map fun l => V.str (S l)
  | [], _, h => by cases h; rfl
  | n :: ns, _, h => by
    cases h with
    | cons h r => cases h; rw [dpAll_S r]; rfl
theorem opd_inL : OpD X (rIn X.K false) (sD l) (txts ls) (bD (decide (l ∈ ls))) := fun v1 v2 F H Q s r1 r2 q => by
  obtain ⟨a, vs, rfl, h1, h2⟩ := rp_lst.mp r2
  have := dpAll_S h2
  subst this
  rw [rp_str.mp r1]
  refine ⟨a, _, rfl, .inl (s.seq h1), rfl, flat_strs ls, ?_⟩
  rw [inV_strs]
  exact q _ F H (.refl s) (.bl _)
theorem opd_ninL : OpD X (rIn X.K true) (sD l) (txts ls) (bD (!decide (l ∈ ls))) := fun v1 v2 F H Q s r1 r2 q => by
  obtain ⟨a, vs, rfl, h1, h2⟩ := rp_lst.mp r2
  have := dpAll_S h2
  subst this
  rw [rp_str.mp r1]
  refine ⟨a, _, rfl, .inl (s.seq h1), rfl, flat_strs ls, ?_⟩
  rw [inV_strs]
  exact q _ F H (.refl s) (.bl _)
theorem ev_inL (ha : EvE X a ds (sD l)) (hb : EvE X b ds (txts ls)) (hm : behindInMarks .In b = false := by rfl) : EvE X (.Compare a [.In] [b] pos) ds (bD (decide (l ∈ ls))) := ev_cmp op_in_seq ha hb opd_inL hm
theorem evt_inL (ha : EvE X a ds (sD l)) (hb : EvE X b ds (txts ls)) (hm : behindInMarks .In b = false := by rfl) : EvT X (.Compare a [.In] [b] pos) ds (decide (l ∈ ls)) := evt_cmp op_in_seq ha hb opd_inL hm
theorem ev_ninL (ha : EvE X a ds (sD l)) (hb : EvE X b ds (txts ls)) (hm : behindInMarks .NotIn b = false := by rfl) : EvE X (.Compare a [.NotIn] [b] pos) ds (bD (!decide (l ∈ ls))) := ev_cmp op_notIn_seq ha hb opd_ninL hm
theorem evt_ninL (ha : EvE X a ds (sD l)) (hb : EvE X b ds (txts ls)) (hm : behindInMarks .NotIn b = false := by rfl) : EvT X (.Compare a [.NotIn] [b] pos) ds (!decide (l ∈ ls)) := evt_cmp op_notIn_seq ha hb opd_ninL hm
/-! methods -/
variable {apos cpos : Pos}
theorem ev_starts (ho : EvE X o ds (sD l1)) (ha : EvE X a ds (sD l2)) (hbase : attributeBase o "startswith" X.env (eval o X.env) = eval o X.env := by rfl) (hfew : ((backTo cpos (starEach (a :: []) X.env)).all (fun x => !x.1) && (backToKw cpos (keywordEach [] X.env)).all (fun x => x.1.isSome) && decide ((a :: []).length + ([] : List Keyword).length + (if ([] : List Keyword).isEmpty then 0 else 1) < 30)) = true := by rfl) (hline : (apos.endLine == cpos.line) = true := by rfl) (hs : starEach (a :: []) X.env = (false, eval a X.env) :: starEach [] X.env := by rfl) (hplain : (backTo cpos (starEach [] X.env)).any (·.1) = false := by rfl) :
    EvE X (.Call (.Attribute o "startswith" apos) [a] [] cpos) ds (bD (decide (l2 <+: l1))) :=
  ev_bm PySem.F.plainAttrs_str PySem.F.slot_str_startswith PySem.F.type_str_startswith mt_startswith ho rfl (eva_cons ha eva_nil hs) (fun v0 vs F H Q s r0 r q => by
    obtain ⟨v, rfl, r1⟩ := rpAll1 r
    exact ⟨S l1, S l2, rp_str.mp r0, by rw [rp_str.mp r1], by rw [starts_txt]; exact q _ F H (.refl s) (.bl _)⟩) hbase hfew hline hs hplain
theorem ev_ends (ho : EvE X o ds (sD l1)) (ha : EvE X a ds (sD l2)) (hbase : attributeBase o "endswith" X.env (eval o X.env) = eval o X.env := by rfl) (hfew : ((backTo cpos (starEach (a :: []) X.env)).all (fun x => !x.1) && (backToKw cpos (keywordEach [] X.env)).all (fun x => x.1.isSome) && decide ((a :: []).length + ([] : List Keyword).length + (if ([] : List Keyword).isEmpty then 0 else 1) < 30)) = true := by rfl) (hline : (apos.endLine == cpos.line) = true := by rfl) (hs : starEach (a :: []) X.env = (false, eval a X.env) :: starEach [] X.env := by rfl) (hplain : (backTo cpos (starEach [] X.env)).any (·.1) = false := by rfl) :
    EvE X (.Call (.Attribute o "endswith" apos) [a] [] cpos) ds (bD (decide (l2 <:+ l1))) :=
  ev_bm PySem.F.plainAttrs_str PySem.F.slot_str_endswith PySem.F.type_str_endswith mt_endswith ho rfl (eva_cons ha eva_nil hs) (fun v0 vs F H Q s r0 r q => by
    obtain ⟨v, rfl, r1⟩ := rpAll1 r
    exact ⟨S l1, S l2, rp_str.mp r0, by rw [rp_str.mp r1], by rw [ends_txt]; exact q _ F H (.refl s) (.bl _)⟩) hbase hfew hline hs hplain
theorem ev_sindex {c : Nat} (ho : EvE X o ds (sD l)) (ha : EvE X a ds (sD [c])) (hc : c ∈ l) (hbase : attributeBase o "index" X.env (eval o X.env) = eval o X.env := by rfl) (hfew : ((backTo cpos (starEach (a :: []) X.env)).all (fun x => !x.1) && (backToKw cpos (keywordEach [] X.env)).all (fun x => x.1.isSome) && decide ((a :: []).length + ([] : List Keyword).length + (if ([] : List Keyword).isEmpty then 0 else 1) < 30)) = true := by rfl) (hline : (apos.endLine == cpos.line) = true := by rfl) (hs : starEach (a :: []) X.env = (false, eval a X.env) :: starEach [] X.env := by rfl) (hplain : (backTo cpos (starEach [] X.env)).any (·.1) = false := by rfl) :
    EvE X (.Call (.Attribute o "index" apos) [a] [] cpos) ds (iD (l.idxOf c)) :=
  ev_bm PySem.F.plainAttrs_str PySem.F.slot_str_index PySem.F.type_str_index mt_sindex ho rfl (eva_cons ha eva_nil hs) (fun v0 vs F H Q s r0 r q => by
    obtain ⟨v, rfl, r1⟩ := rpAll1 r
    obtain ⟨rest, e⟩ := index_txt l c hc
    exact ⟨S l, S [c], _, rest, rp_str.mp r0, by rw [rp_str.mp r1], e, q _ F H (.refl s) (.int _)⟩) hbase hfew hline hs hplain
/-! text * number -/
def rMulS : R2 := fun x y H Q => ∃ z n, x = .str z ∧ y = .int n ∧ 1 ≤ n ∧ n ≤ 1000 ∧ z.length ≤ 1000 ∧ Q (.str (S (List.replicate n.toNat z.cps.toList).flatten)) H
theorem fold_app : ∀ (n : Nat) (z acc : Array Nat), ((List.replicate n z).foldl (· ++ ·) acc).toList = acc.toList ++ (List.replicate n z.toList).flatten
  | 0, z, acc => by simp
  | n + 1, z, acc => by
    rw [List.replicate_succ, List.foldl_cons, fold_app n z (acc ++ z), List.replicate_succ, List.flatten_cons, Array.toList_append, List.append_assoc]
theorem op_mulS : OpR X (binaryOp .Mult) rMulS := by
  intro pins s σ H x y v u Q I rx ry h
  obtain ⟨z, n, rfl, rfl, h1, h2, h3, q⟩ := h
  obtain ⟨t, rfl⟩ := rx
  obtain ⟨t', rfl⟩ := ry
  have fl : S (List.replicate n.toNat z.cps.toList).flatten = ⟨(List.replicate n.toNat z.cps).foldl (· ++ ·) #[]⟩ := by
    congr 1
    rw [fold_app]
    simp
  have len : ((List.replicate n.toNat z.cps).foldl (· ++ ·) #[]).size = n.toNat * z.length := by
    rw [← Array.length_toList, fold_app]
    simp [Str.length]
  have big : n.toNat * z.length ≤ 1000 * 1000 := Nat.mul_le_mul (by omega) h3
  refine PySem.P.mul_str (by
      rw [decide_eq_false (show ¬ n < -(2 ^ 63 : Int) by omega), decide_eq_false (show ¬ n ≥ 2 ^ 63 by omega)]; rfl) (fun _ _ w => ?_) (fun _ _ => ?_) ?_
  · have h8 : (1000 : Int) ≤ ((2 : Int) ^ 63 - 1) / n := Int.le_ediv_of_mul_le (by omega) (by
      have : 1000 * n ≤ 1000 * 1000 := by omega
      omega)
    omega
  · show decide _ = false
    refine decide_eq_false ?_
    rw [Nat.mul_comm, sizeLine_eq]
    omega
  · rw [if_neg (by omega)]
    split
    · rename_i hc
      rw [Bool.or_eq_true, beq_iff_eq, beq_iff_eq] at hc
      have e : S (List.replicate n.toNat z.cps.toList).flatten = z := by
        rcases hc with rfl | hc
        · show S (List.replicate 1 z.cps.toList).flatten = z
          rw [List.replicate_succ, List.replicate_zero, List.flatten_cons, List.flatten_nil, List.append_nil]
        · have : z.cps.toList = [] := List.eq_nil_of_length_eq_zero (by rw [Array.length_toList]; exact hc)
          rw [this]
          have e2 : (List.replicate n.toNat ([] : List Nat)).flatten = [] := by simp
          rw [e2]
          rw [← S_mk z, this]
      rw [e] at q
      exact ⟨.str z, H, I, ⟨t, rfl⟩, q⟩
    · rw [fl] at q
      refine ⟨?_, .str _, H, I.tok _, ⟨_, rfl⟩, q⟩
      show ((List.replicate n.toNat z.cps).foldl (· ++ ·) #[]).size ≤ sizeLine
      rw [len, sizeLine_eq]
      omega
theorem ev_mulT (ha : EvE X a ds (sD l)) (hb : EvE X b ds (.int i)) (h1 : 1 ≤ i) (h2 : i ≤ 1000) (h3 : l.length ≤ 1000) : EvE X (.BinOp a .Mult b pos) ds (sD (List.replicate i.toNat l).flatten) :=
  ev_op op_mulS ha hb fun v1 v2 F H Q s r1 r2 q => ⟨S l, i, rp_str.mp r1, rp_int.mp r2, h1, h2, h3, q _ F H (.refl s) (.str _)⟩
/-! lists put together -/
/-- a list that may be put together with another -/
def EvC (X : Cx) (e : Expr) (ds : Sls) (xs : List D) : Prop := ∀ (F0 H0 F H : Hp) (σ : St), StR X.K F0 H0 F H σ ds → ∀ Q : VK,
  (∀ p vs F' H', Ext F H F' H' → H' p = some (.lst vs) → DpAll X.K F' vs xs → Q (.ref p) H') → wpE X e σ H Q
theorem EvN.toC (h : EvN X e ds xs) : EvC X e ds xs := fun F0 H0 F H σ s Q q => h F0 H0 F H σ s Q fun p vs F' H' x _ _ n3 n4 => q p vs F' H' x n3 n4
theorem EvC.cast {xs' : List D} (h : EvC X e ds xs) (q : xs = xs') : EvC X e ds xs' := q ▸ h
theorem evc_own (A : Wh X N sc k) (m : Nat) (hi : N[m]? = some x) (hv : Vis sc x) (h : ds[m]? = some (.ow xs)) (hd : (x == ("__debug__" : Str)) = false := by decide) (hcd : (x == ("__classdict__" : Str)) = false := by decide) : EvC X (.Name x pos) ds xs := fun F0 H0 F H σ r Q q => by
  obtain ⟨a, vs, e1, e2, e3, e4, e5⟩ := r.at_ m _ h
  exact toE (pe_var (i := m) (by rw [A.hN]; exact hi) (by rw [A.hsc]; exact hv) hd hcd) ⟨_, e1, q a vs F H (.refl r.fh) e4 e5⟩
theorem evn_cat (ha : EvC X a ds xs) (hb : EvC X b ds ys) (hl : xs.length + ys.length ≤ sizeLine) : EvN X (.BinOp a .Add b pos) ds (xs ++ ys) := fun F0 H0 F H σ s Q q =>
  toE (pe_op op_cat wpE_pe wpE_pe) (ha F0 H0 F H σ s _ fun p vs F1 H1 x1 n3 n4 => hb F0 H0 F1 H1 σ (s.to x1) _ fun p' ws F2 H2 x2 m3 m4 =>
    ⟨p, p', vs, ws, rfl, rfl, x2.h _ _ n3, m3, by rw [dpAll_len n4, dpAll_len m4]; exact hl, fun l hl => q l _ F2 _ ((x1.trans x2).trans (.newO x2.fh hl)) ((x1.h.trans x2.h).free hl) (x2.fh.free hl) upd_same (dpAll_append (dpAll_mono x2.f n4) m4)⟩)
/-- what is mine goes to another name -/
theorem run_move {y : Str} {py : Pos} {m n : Nat} (A : WhS X N sc k) (hi : N[m]? = some x) (hx : L2.Loc sc x) (hj : N[n]? = some y) (hv : Vis sc y) (hmn : m ≠ n) (h : ds[n]? = some (.ow xs)) (hd : (y == ("__debug__" : Str)) = false := by decide) (hcd : (y == ("__classdict__" : Str)) = false := by decide) (hs : swapsWith (.Name y py) (some (.Name x p)) pos.line X.env = pure false := by rfl) :
    Run X W (.Assign [.Name x p] (.Name y py) pos) ds (.nx ((ds.set n .no).set m (.ow xs))) := fun F0 H0 F H σ E s q => by
  obtain ⟨a, vs, e1, e2, e3, e4, e5⟩ := s.at_ n _ h
  refine toS (ps_set (i := m) (by rw [A.hN]; exact A.nd) (by rw [A.hN]; exact hi) (by rw [A.hsc]; exact hx) (pe_var (i := n) (by rw [A.hN]; exact hj) (by rw [A.hsc]; exact hv) hd hcd) hs (.inl (A.fn x))) ⟨_, e1, ?_⟩
  have s1 : StR X.K F0 H0 F H σ (ds.set n .no) := s.forget (List.length_set ..) fun i t e => by
    by_cases z : n = i
    · subst z
      rw [List.getElem?_set_self (List.getElem?_eq_some_iff.mp h).1] at e
      exact .inl (Option.some.inj e).symm
    · rw [List.getElem?_set_ne z] at e
      exact .inr e
  refine q _ F H (s1.setO e2 e3 e4 e5 fun j ⟨t, ej, mj⟩ z => ?_) (Same.refl _)
  by_cases w : n = j
  · subst w
    rw [List.getElem?_set_self (List.getElem?_eq_some_iff.mp h).1] at ej
    cases ej
    cases mj
  · rw [List.getElem?_set_ne w] at ej
    exact w (s.sep n j a ⟨_, h, rfl⟩ ⟨t, ej, mj⟩ e1 z)
end
end Vs

namespace Vs
open PySem PySem.Spec L2

/-! ### data of a kind -/
abbrev pD (p : Int × Int) : D := .tuple [iD p.1, iD p.2]
abbrev psD (ps : List (Int × Int)) : D := .list (ps.map pD)
abbrev lnD (ls : List (List (Int × Int))) : D := .list (ls.map psD)
/-- the built-ins' names are free -/
structure Bts (mg : Str → Option Value) : Prop where
  len : mg "len" = none
  abs : mg "abs" = none
  min : mg "min" = none
  sum : mg "sum" = none
  range : mg "range" = none
  sorted : mg "sorted" = none
  list : mg "list" = none
  int : mg "int" = none
  str : mg "str" = none
  tuple : mg "tuple" = none
  bool : mg "bool" = none
  isinstance : mg "isinstance" = none
  any : mg "any" = none
  all : mg "all" = none
def GlG (K : PySem.W.Frag) (mg : Str → Option Value) (x : Str) (d : D) : Prop := ∃ u v, mg x = some u ∧ RelV v u ∧ ∀ H, Rp K H v d
theorem atI_getD {α : Type} {l : List α} {i : Int} (z : α) (h0 : 0 ≤ i) (h1 : i < l.length) : atI l i = some (l.getD i.toNat z) := by
  obtain ⟨k, rfl⟩ := Int.eq_ofNat_of_zero_le h0
  have hk : k < l.length := by omega
  rw [Int.toNat_natCast, List.getD_eq_getElem?_getD, List.getElem?_eq_getElem hk]
  exact atI_n (List.getElem?_eq_getElem hk)
theorem atI_map {α β : Type} {l : List α} {i : Int} {x : α} (f : α → β) (h : atI l i = some x) : atI (l.map f) i = some (f x) := by
  unfold atI at *
  rw [List.length_map]
  cases q : ixN l.length i with
  | none => rw [q] at h; cases h
  | some j =>
    rw [q] at h
    have h : l[j]? = some x := h
    show (l.map f)[j]? = some (f x)
    rw [List.getElem?_map, h]; rfl
theorem atI_last {α : Type} {l : List α} (z : α) (h : 0 < l.length) : atI l (-1) = some (l.getLastD z) := by
  have e : ixN l.length (-1) = some (l.length - 1) := by
    unfold ixN
    rw [if_neg (by decide), if_pos (by omega)]
    congr 1
    omega
  unfold atI
  rw [e]
  show l[l.length - 1]? = _
  rw [List.getLastD_eq_getLast?, List.getLast?_eq_getElem?]
  rw [List.getElem?_eq_getElem (by omega)]
  rfl
section
variable {X : Cx} {W : WX} {N : List Str} {sc : Scope} {k : Nat} {ds ds' : Sls} {d d1 d2 d3 : D} {as xs ys : List D} {e a b c o tg iter : Expr} {es : List Expr} {pos p : Pos} {x : Str} {i j : Int} {l l1 l2 : List Nat} {ls : List (List Nat)} {α : Type} {enc : α → D} {ts : List α}
theorem BlkOf.mg {X' : Cx} {scope : Scope} (h : BlkOf X scope X') : X'.mg = X.mg ∧ X'.K = X.K := by
  obtain ⟨s, H, C, cl, fp, rfl⟩ := h
  exact ⟨rfl, rfl⟩
theorem Bts.blk {X' : Cx} {scope : Scope} (B : Bts X.mg) (h : BlkOf X scope X') : Bts X'.mg := by rw [h.mg.1]; exact B
theorem GlG.blk {X' : Cx} {scope : Scope} (g : GlG X.K X.mg x d) (h : BlkOf X scope X') : GlG X'.K X'.mg x d := by rw [h.mg.1, h.mg.2]; exact g
theorem ev_gl (A : Wh X N sc k) (g : GlG X.K X.mg x d) (hg : GlS sc x) (hd : (x == ("__debug__" : Str)) = false := by decide) : EvE X (.Name x pos) ds d := ev_glob A g hg hd
theorem ev_ixG (z : α) (ha : EvE X a ds (.list (ts.map enc))) (hb : EvE X b ds (.int i)) (h0 : 0 ≤ i) (h1 : i < ts.length) (hs : PlainIx b := by exact fun _ _ => rfl) : EvE X (.Subscript a b pos) ds (enc (ts.getD i.toNat z)) := ev_ixL ha hb (atI_map enc (atI_getD z h0 h1)) hs
theorem ev_ixGO (z : α) (A : Wh X N sc k) (m : Nat) (hi : N[m]? = some x) (hv : Vis sc x) (h : ds[m]? = some (.ow (ts.map enc))) (hb : EvE X b ds (.int i)) (h0 : 0 ≤ i) (h1 : i < ts.length) (hs : PlainIx b := by exact fun _ _ => rfl) (hd : (x == ("__debug__" : Str)) = false := by decide) (hcd : (x == ("__classdict__" : Str)) = false := by decide) : EvE X (.Subscript (.Name x p) b pos) ds (enc (ts.getD i.toNat z)) := ev_ixO A m hi hv h hb (atI_map enc (atI_getD z h0 h1)) hs hd hcd
theorem ev_ixTG (ha : EvE X a ds (sD l)) (hb : EvE X b ds (.int i)) (h0 : 0 ≤ i) (h1 : i < l.length) (hl : l.length ≤ sizeLine) (hs : PlainIx b := by exact fun _ _ => rfl) : EvE X (.Subscript a b pos) ds (sD [l.getD i.toNat 0]) := ev_ixTx ha hb (atI_getD 0 h0 h1) hl hs
theorem ev_ixLast (z : α) (ha : EvE X a ds (.list (ts.map enc))) (hb : EvE X b ds (.int (-1))) (h1 : 0 < ts.length) (hs : PlainIx b := by exact fun _ _ => rfl) : EvE X (.Subscript a b pos) ds (enc (ts.getLastD z)) := ev_ixL ha hb (atI_map enc (atI_last z h1)) hs
theorem ev_fst {q : Int × Int} (ha : EvE X a ds (pD q)) (hb : EvE X b ds (.int 0)) (hs : PlainIx b := by exact fun _ _ => rfl) : EvE X (.Subscript a b pos) ds (iD q.1) := ev_ixT ha hb (atI_n (k := 0) rfl) hs
theorem ev_snd {q : Int × Int} (ha : EvE X a ds (pD q)) (hb : EvE X b ds (.int 1)) (hs : PlainIx b := by exact fun _ _ => rfl) : EvE X (.Subscript a b pos) ds (iD q.2) := ev_ixT ha hb (atI_n (k := 1) rfl) hs
theorem ev_pair {n : Nat} (ha : EvE X a ds (.int i)) (hb : EvE X b ds (.int j)) (he : starEach (a :: [b]) X.env = (false, eval a X.env) :: starEach [b] X.env := by rfl) (he2 : starEach (b :: []) X.env = (false, eval b X.env) :: starEach [] X.env := by rfl) : EvE X (.Tuple [a, b] n pos) ds (pD (i, j)) :=
  ev_tup (eva_cons ha (eva_cons hb eva_nil he2) he) rfl (by show 2 ≤ sizeLine; rw [sizeLine_eq]; decide)
theorem eva_nilM : EvA X [] ds (([] : List α).map enc) := eva_nil
theorem eva_consM (t : α) (h : EvE X e ds (enc t)) (hr : EvA X es ds (ts.map enc)) (hs : starEach (e :: es) X.env = (false, eval e X.env) :: starEach es X.env := by rfl) : EvA X (e :: es) ds ((t :: ts).map enc) := eva_cons h hr hs
theorem all_nodict (hn : ∀ b, nodict (enc b) = true) : (ts.map enc).all nodict = true := by
  rw [List.all_eq_true]
  intro d hd
  obtain ⟨t, _, rfl⟩ := List.mem_map.mp hd
  exact hn t
theorem evn_lstM (ts : List α) (h : EvA X es ds (ts.map enc)) (hn : ∀ b, nodict (enc b) = true) (hl : ts.length ≤ sizeLine) : EvN X (.List es pos) ds (ts.map enc) := evn_lst h (all_nodict hn) (by rw [List.length_map]; exact hl)
/-! dicts -/
abbrev dkv (enc : α → D) (kv : List (List Nat × α)) : List (Str × D) := kv.map fun p => (S p.1, enc p.2)
abbrev dD (enc : α → D) (kv : List (List Nat × α)) : D := mD (dkv enc kv)
def putL (kv : List (List Nat × α)) (z : List Nat) (d : α) : List (List Nat × α) := if kv.any (fun p => decide (p.1 = z)) then kv.map (fun p => if p.1 = z then (p.1, d) else p) else kv ++ [(z, d)]
theorem dD_any (kv : List (List Nat × α)) (z : List Nat) : ((dkv enc kv).any fun p => decide (p.1 = S z)) = kv.any fun p => decide (p.1 = z) := by
  induction kv with
  | nil => rfl
  | cons h r ih =>
    unfold dkv at ih ⊢
    rw [List.map_cons, List.any_cons, List.any_cons, ih]
    congr 1
    exact decide_eq_decide.mpr S_inj
theorem dD_put (kv : List (List Nat × α)) (z : List Nat) (v : α) : putD (dkv enc kv) (S z) (enc v) = dkv enc (putL kv z v) := by
  unfold putD putL
  rw [dD_any]
  split
  · unfold dkv
    rw [List.map_map, List.map_map]
    refine List.map_congr_left fun p _ => ?_
    show (if S p.1 = S z then (S p.1, enc v) else (S p.1, enc p.2)) = (fun q : List Nat × α => (S q.1, enc q.2)) (if p.1 = z then (p.1, v) else p)
    by_cases q : p.1 = z
    · rw [if_pos (by rw [q]), if_pos q]
    · rw [if_neg (fun h => q (S_inj.mp h)), if_neg q]
  · unfold dkv
    rw [List.map_append]
    rfl
theorem dD_lookup (kv : List (List Nat × α)) (z : List Nat) : (dkv enc kv).lookup (S z) = (kv.lookup z).map enc := by
  induction kv with
  | nil => rfl
  | cons h r ih =>
    obtain ⟨k1, v1⟩ := h
    unfold dkv at ih ⊢
    rw [List.map_cons, List.lookup_cons, List.lookup_cons, ih]
    have e : (S z == S k1) = (z == k1) := by
      rw [Bool.eq_iff_iff, beq_iff_eq, beq_iff_eq, S_inj]
    show (match S z == S k1 with | true => some (enc v1) | false => _) = _
    rw [e]
    cases (z == k1) <;> rfl
variable {kv : List (List Nat × α)} {v : α}
theorem ev_dgetM (A : Wh X N sc k) (ha : EvE X a ds (dD enc kv)) (hb : EvE X b ds (sD l)) (h : kv.lookup l = some v) (hs : NoSl b := by exact fun _ _ => rfl) : EvE X (.Subscript a b pos) ds (enc v) := ev_dget A ha hb (by rw [dD_lookup, h]; rfl) hs
theorem ev_dgetMO (A : Wh X N sc k) (m : Nat) (hi : N[m]? = some x) (hv : Vis sc x) (hm : ds[m]? = some (.od (dkv enc kv))) (hb : EvE X b ds (sD l)) (h : kv.lookup l = some v) (hs : NoSl b := by exact fun _ _ => rfl) (hd : (x == ("__debug__" : Str)) = false := by decide) (hcd : (x == ("__classdict__" : Str)) = false := by decide) : EvE X (.Subscript (.Name x p) b pos) ds (enc v) := ev_dgetO A m hi hv hm hb (by rw [dD_lookup, h]; rfl) hs hd hcd
theorem ev_dgetDM {apos : Pos} (v : α) (A : Wh X N sc k) (ha : EvE X a ds (dD enc kv)) (hb : EvE X b ds (sD l)) (hc : EvE X c ds (enc v)) (hn : nodict (enc v) = true) (m : M2 X a "get" apos b c pos) : EvE X (.Call (.Attribute a "get" apos) [b, c] [] pos) ds (enc ((kv.lookup l).getD v)) := (ev_dgetD A ha hb hc hn m).cast (by
  rw [dD_lookup]
  cases kv.lookup l <;> rfl)
theorem run_dputM {i : Expr} (A : WhS X N sc k) (m : Nat) (hi : N[m]? = some x) (hv : Vis sc x) (h : ds[m]? = some (.od (dkv enc kv))) (hk : EvE X i ds (sD l)) (he : EvE X e ds (enc v)) (hn : nodict (enc v) = true) (hl : kv.length < sizeLine) (hd : (x == ("__debug__" : Str)) = false := by decide) (hcd : (x == ("__classdict__" : Str)) = false := by decide)
    {spos : Pos} (hsw : swapsWith e (some (.Subscript (.Name x p) i spos)) pos.line X.env = pure false := by rfl) : Run X W (.Assign [.Subscript (.Name x p) i spos] e pos) ds (.nx (ds.set m (.od (dkv enc (putL kv l v))))) := (run_dput A m hi hv h hk he hn (by rw [List.length_map]; exact hl) hd hcd hsw).cast (by rw [dD_put])
theorem evn_listM (A : Wh X N sc k) (hg : GlS sc "list") (hm : X.mg "list" = none) (h : EvE X e ds (dD enc kv)) (he : starEach (e :: []) X.env = (false, eval e X.env) :: starEach [] X.env := by rfl) : EvN X (.Call (.Name "list" p) [e] [] pos) ds ((kv.map (·.1)).map sD) := (evn_listD A hg hm h he).cast (by
  rw [List.map_map, List.map_map]; rfl)
/-! lists of one's own -/
variable {apos cpos : Pos}
theorem run_appendM {t : α} (A : WhS X N sc k) (m : Nat) (ts : List α) (hi : N[m]? = some x) (hv : Vis sc x) (h : ds[m]? = some (.ow (ts.map enc))) (he : EvE X e ds (enc t)) (hn : nodict (enc t) = true) (hl : ts.length < sizeLine) (hd : (x == ("__debug__" : Str)) = false := by decide) (hcd : (x == ("__classdict__" : Str)) = false := by decide) (hbase : attributeBase (.Name x p) "append" X.env (eval (.Name x p) X.env) = eval (.Name x p) X.env := by rfl) (hfew : ((backTo cpos (starEach (e :: []) X.env)).all (fun x => !x.1) && (backToKw cpos (keywordEach [] X.env)).all (fun x => x.1.isSome) && decide ((e :: []).length + ([] : List Keyword).length + (if ([] : List Keyword).isEmpty then 0 else 1) < 30)) = true := by rfl) (hline : (apos.endLine == cpos.line) = true := by rfl) (hs : starEach (e :: []) X.env = (false, eval e X.env) :: starEach [] X.env := by rfl) (hplain : (backTo cpos (starEach [] X.env)).any (·.1) = false := by rfl)
    (hsw : swapsWith (.Call (.Attribute (.Name x p) "append" apos) [e] [] cpos) none pos.line X.env = pure false := by rfl) :
    Run X W (.Expr (.Call (.Attribute (.Name x p) "append" apos) [e] [] cpos) pos) ds (.nx (ds.set m (.ow ((ts ++ [t]).map enc)))) :=
  (run_append A m hi hv h he hn (by rw [List.length_map]; exact hl) hd hcd hbase hfew hline hs hplain hsw).cast (by rw [List.map_append]; rfl)
theorem evo_none : EvO X none ds none := trivial
theorem evo_some (h : EvE X e ds (.int i)) : EvO X (some e) ds (some i) := h
theorem ev_lenM (A : Wh X N sc k) (hg : GlS sc "len") (hm : X.mg "len" = none) (h : EvE X e ds (.list (ts.map enc))) (he : starEach (e :: []) X.env = (false, eval e X.env) :: starEach [] X.env := by rfl) : EvE X (.Call (.Name "len" p) [e] [] pos) ds (.int ts.length) := (ev_lenL A hg hm h he).cast (by rw [List.length_map])
theorem evn_catM {t2 : List α} (ha : EvC X a ds (ts.map enc)) (hb : EvC X b ds (t2.map enc)) (hl : ts.length + t2.length ≤ sizeLine) : EvN X (.BinOp a .Add b pos) ds ((ts ++ t2).map enc) := (evn_cat ha hb (by rw [List.length_map, List.length_map]; exact hl)).cast (by rw [List.map_append])
theorem run_setIxM {i : Int} {ie : Expr} {v : α} (A : WhS X N sc k) (m : Nat) (ts : List α) (hi : N[m]? = some x) (hv : Vis sc x) (h : ds[m]? = some (.ow (ts.map enc))) (hk : EvE X ie ds (.int i)) (he : EvE X e ds (enc v)) (hn : nodict (enc v) = true) (h0 : 0 ≤ i) (h1 : i < ts.length) (hd : (x == ("__debug__" : Str)) = false := by decide) (hcd : (x == ("__classdict__" : Str)) = false := by decide)
    {spos : Pos} (ha : ∀ v, assign (.Subscript (.Name x p) ie spos) X.env v = (do
      let ov ← holding [v] (eval (.Name x p) X.env)
      let iv ← holding [v, ov] (eval ie X.env)
      standAt spos
      holding [v, ov, iv] (setItem ov iv v)
      release [v, ov, iv] []) := by intro _; rfl)
    (hs : swapsWithSole [.Subscript (.Name x p) ie spos] e pos.line X.env = pure false := by rfl) (hw : swappedStores [.Subscript (.Name x p) ie spos] e X.env = pure none := by rfl)
    (h1' : (assignEach [.Subscript (.Name x p) ie spos] X.env).map (·.2) = [assign (.Subscript (.Name x p) ie spos) X.env] := by rfl) : Run X W (.Assign [.Subscript (.Name x p) ie spos] e pos) ds (.nx (ds.set m (.ow ((ts.set i.toNat v).map enc)))) :=
  (run_setIx (j := i.toNat) A m hi hv h hk he hn (by
    obtain ⟨n, rfl⟩ := Int.eq_ofNat_of_zero_le h0
    rw [Int.toNat_natCast, List.length_map]
    unfold ixN
    rw [if_pos (by omega), if_pos (by omega)]; rfl) hd hcd ha hs hw h1').cast (by rw [List.map_set])
/-! what is of a class -/
theorem k_int_int : kitB "int" "int" = some true := by decide +kernel
theorem k_int_bool : kitB "int" "bool" = some false := by decide +kernel
theorem k_bool_bool : kitB "bool" "bool" = some true := by decide +kernel
theorem k_list_list : kitB "list" "list" = some true := by decide +kernel
theorem k_str_str : kitB "str" "str" = some true := by decide +kernel
theorem k_tuple_tuple : kitB "tuple" "tuple" = some true := by decide +kernel
theorem k_NoneType_tuple : kitB "NoneType" "tuple" = some false := by decide +kernel
/-! a slot forgotten -/
theorem fg_set (ds : Sls) (m : Nat) : Paired FgS ds (ds.set m .no) := by
  induction ds generalizing m with
  | nil => exact .nil
  | cons s r ih =>
    cases m with
    | zero => exact .cons (.no s) ((List.rec .nil (fun s r ih => .cons (.same s) ih) r : Paired FgS r r))
    | succ m => exact .cons (.same s) (ih m)
theorem RunB.clr (m : Nat) {st : List Stmt} {u : Out} (h : RunB X W st (ds.set m .no) u) : RunB X W st ds u := h.forget (fg_set ds m)
theorem Run.clr (m : Nat) {st : Stmt} {u : Out} (h : Run X W st (ds.set m .no) u) : Run X W st ds u := fun F0 H0 F H σ E s q =>
  h F0 H0 F H σ E (s.forget (paired_len (fg_set ds m)) fun i t e => fg_get (fg_set ds m) e) q
/-- on to the slots ds' -/
theorem runB_to (ds' : Sls) {st : Stmt} {rest : List Stmt} {u : Out} (h1 : Run X W st ds (.nx ds')) (h2 : RunB X W rest ds' u) : RunB X W (st :: rest) ds u := runB_cons h1 h2
/-- .. behind -/
theorem RunB.clrO (m : Nat) {st : List Stmt} {ds1 : Sls} (h : RunB X W st ds (.nx ds1)) : RunB X W st ds (.nx (ds1.set m .no)) := fun F0 H0 F H σ E s q =>
  h F0 H0 F H σ E s fun σ' F' H' s' sf => q σ' F' H' (s'.forget (paired_len (fg_set ds1 m)) fun i t e => fg_get (fg_set ds1 m) e) sf
theorem Run.clrO (m : Nat) {st : Stmt} {ds1 : Sls} (h : Run X W st ds (.nx ds1)) : Run X W st ds (.nx (ds1.set m .no)) := fun F0 H0 F H σ E s q =>
  h F0 H0 F H σ E s fun σ' F' H' s' sf => q σ' F' H' (s'.forget (paired_len (fg_set ds1 m)) fun i t e => fg_get (fg_set ds1 m) e) sf
end
/-! data of a kind, told apart and laid out -/
structure Dk {α : Type} [DecidableEq α] (enc : α → D) (n : Nat) (P : α → Prop) : Prop where
  lay : ∀ x, P x → (enc x).canLay0 = true
  dep : ∀ x, (enc x).depth ≤ n
  eqv : ∀ x y, PyData.eqv (enc x) (enc y) = decide (x = y)
def low (l : List Nat) : Prop := ∀ c ∈ l, c < 1114112
theorem dk_int : Dk iD 0 fun _ => True := ⟨fun x _ => by simp [PyData.canLay0], fun x => by simp [PyData.depth], fun x y => by
  simp only [PyData.eqv]
  exact Bool.beq_eq_decide_eq x y⟩
theorem dk_str : Dk sD 0 low := ⟨fun x h => by
  simp only [PyData.canLay0]
  show PyData.strOk (S x) = true
  unfold PyData.strOk
  simp only [Array.all_eq_true_iff_forall_mem, List.mem_toArray]
  intro c hc
  have := h c hc
  simpa using this, fun x => by simp [PyData.depth], fun x y => by
  simp only [PyData.eqv]
  rw [Bool.beq_eq_decide_eq]
  exact decide_eq_decide.mpr S_inj⟩
theorem dk_pair : Dk pD 1 fun _ => True := ⟨fun x _ => by simp [PyData.canLay0, PyData.canLayAll0], fun x => by simp [PyData.depth, PyData.depthAll], fun x y => by
  simp only [PyData.eqv, PyData.eqvAll, Bool.and_true]
  rw [Bool.beq_eq_decide_eq, Bool.beq_eq_decide_eq, ← Bool.decide_and]
  exact decide_eq_decide.mpr (Prod.ext_iff.symm)⟩
theorem dk_lays {α : Type} [DecidableEq α] {enc : α → D} {n : Nat} {P : α → Prop} (h : Dk enc n P) : ∀ xs : List α, (∀ x ∈ xs, P x) → PyData.canLayAll0 (xs.map enc) = true
  | [], _ => rfl
  | x :: xs, q => by
    rw [List.map_cons, PyData.canLayAll0, h.lay x (q x List.mem_cons_self), dk_lays h xs fun y m => q y (List.mem_cons_of_mem _ m)]; rfl
theorem dk_deps {α : Type} [DecidableEq α] {enc : α → D} {n : Nat} {P : α → Prop} (h : Dk enc n P) : ∀ xs : List α, PyData.depthAll (xs.map enc) ≤ n
  | [] => Nat.zero_le _
  | x :: xs => by
    rw [List.map_cons, PyData.depthAll]
    exact Nat.max_le.mpr ⟨h.dep x, dk_deps h xs⟩
theorem dk_eqvs {α : Type} [DecidableEq α] {enc : α → D} {n : Nat} {P : α → Prop} (h : Dk enc n P) : ∀ xs ys : List α, PyData.eqvAll (xs.map enc) (ys.map enc) = decide (xs = ys)
  | [], [] => by simp only [List.map_nil, PyData.eqvAll, decide_true]
  | [], _ :: _ => by simp [PyData.eqvAll]
  | _ :: _, [] => by simp [PyData.eqvAll]
  | x :: xs, y :: ys => by
    rw [List.map_cons, List.map_cons, PyData.eqvAll, h.eqv x y, dk_eqvs h xs ys, ← Bool.decide_and]
    exact decide_eq_decide.mpr (by rw [List.cons.injEq])
theorem dk_list {α : Type} [DecidableEq α] {enc : α → D} {n : Nat} {P : α → Prop} (h : Dk enc n P) : Dk (fun xs : List α => PyData.list (xs.map enc)) (n + 1) fun xs => ∀ x ∈ xs, P x :=
  ⟨fun xs q => by rw [PyData.canLay0]; exact dk_lays h xs q, fun xs => by rw [PyData.depth]; have := dk_deps h xs; omega, fun xs ys => by rw [PyData.eqv]; exact dk_eqvs h xs ys⟩
theorem Dk.shp {α : Type} [DecidableEq α] {enc : α → D} {n : Nat} {P : α → Prop} (h : Dk enc n P) (hn : n ≤ 64) {x : α} (p : P x) : SeqAt.shaped (enc x) = true := by
  unfold SeqAt.shaped
  rw [h.lay x p, decide_eq_true (Nat.le_trans (h.dep x) hn)]; rfl
theorem shp_nums (ns : List Int) : SeqAt.shaped (nums ns) = true := (dk_list dk_int).shp (by decide) (fun _ _ => trivial)
theorem shp_txts {ls : List (List Nat)} (h : ∀ l ∈ ls, low l) : SeqAt.shaped (txts ls) = true := (dk_list dk_str).shp (by decide) h
theorem shp_pair (p : Int × Int) : SeqAt.shaped (pD p) = true := dk_pair.shp (by decide) trivial
theorem shp_pairs (p : List (Int × Int)) : SeqAt.shaped (psD p) = true := (dk_list dk_pair).shp (by decide) (fun _ _ => trivial)
theorem eqv_nums (a b : List Int) : PyData.eqv (nums a) (nums b) = decide (a = b) := (dk_list dk_int).eqv a b
theorem eqv_txts (a b : List (List Nat)) : PyData.eqv (txts a) (txts b) = decide (a = b) := (dk_list dk_str).eqv a b
theorem eqv_pair (a b : Int × Int) : PyData.eqv (pD a) (pD b) = decide (a = b) := dk_pair.eqv a b
theorem eqv_pairs (a b : List (Int × Int)) : PyData.eqv (psD a) (psD b) = decide (a = b) := (dk_list dk_pair).eqv a b
/-- a race: a die and words -/
abbrev raceD (a : List Int) (ws : List (List Nat)) : D := .list [nums a, txts ws]
theorem shp_race {a : List Int} {ws : List (List Nat)} (h : ∀ l ∈ ws, low l) : SeqAt.shaped (raceD a ws) = true := by
  unfold SeqAt.shaped
  have h1 := (dk_list dk_int).lay a fun _ _ => trivial
  have h2 := (dk_list dk_str).lay ws h
  have d1 := (dk_list dk_int).dep a
  have d2 := (dk_list dk_str).dep ws
  rw [Bool.and_eq_true, decide_eq_true_eq]
  refine ⟨?_, ?_⟩
  · simp only [PyData.canLay0, PyData.canLayAll0] at h1 h2 ⊢
    rw [h1, h2]; rfl
  · simp only [PyData.depth, PyData.depthAll] at d1 d2 ⊢
    omega
theorem eqv_race (a b : List Int) (ws vs : List (List Nat)) : PyData.eqv (raceD a ws) (raceD b vs) = (decide (a = b) && decide (ws = vs)) := by
  rw [PyData.eqv, PyData.eqvAll, PyData.eqvAll, PyData.eqvAll, eqv_nums, eqv_txts, Bool.and_true]
/-- nothing, or a pair -/
abbrev optD : Option (Int × Int) → D
  | none => .none
  | some p => pD p
/-! a def's parts -/
def bodyOf : Stmt → List Stmt
  | .If _ b _ _ => b
  | .While _ b _ _ => b
  | .For _ _ b _ _ => b
  | _ => []
def elseOf : Stmt → List Stmt
  | .If _ _ b _ => b
  | _ => []
def testOf : Stmt → Expr
  | .If c _ _ _ => c
  | .While c _ _ _ => c
  | _ => .Constant .none 0 ⟨0, 0, 0, 0⟩
def stAt (b : List Stmt) (i : Nat) : Stmt := b.getD i (.Pass ⟨0, 0, 0, 0⟩)
end Vs

namespace Vs
open PySem PySem.Spec L2

theorem idxOf_leG {α : Type} [BEq α] [LawfulBEq α] : ∀ {a : List α} {i : Nat} {c : α}, a[i]? = some c → a.idxOf c ≤ i
  | [], _, _, h => by simp at h
  | b :: a, 0, c, h => by
    have e : b = c := Option.some.inj h
    rw [List.idxOf_cons, e]
    simp
  | b :: a, i + 1, c, h => by
    have ih := idxOf_leG (a := a) (i := i) (c := c) h
    rw [List.idxOf_cons]
    cases (b == c) with
    | true => exact Nat.zero_le _
    | false => exact Nat.succ_le_succ ih
theorem sw_par {y1 y2 : Str} {p1 p2 pt pt2 : Pos} {kt k2 : Nat} {a b : Expr} {env : Env} (hk : env.scope.kind = .function) (h1 : env.scope.names.lookup y1 = some .local) (h2 : env.scope.names.lookup y2 = some .local)
    (hst : ([a, b].any fun | .Starred .. => true | _ => false) = false := by rfl) (hln : (p2.line == p1.line) = true := by rfl) (hne : (y1 == y2) = false := by decide +kernel) (hf : [a, b].all (foldedForSure 8) = false := by rfl) (hca : [a, b].all (constantsAlone 8) = false := by rfl) :
    swappedStores [.Tuple [.Name y1 p1, .Name y2 p2] kt pt] (.Tuple [a, b] k2 pt2) env = pure (some [y1, y2]) := by
  have hb : env.blockKind = .function := by unfold Env.blockKind; rw [hk]; rfl
  have k1 : env.kindOf y1 = some .local := h1
  have k2' : env.kindOf y2 = some .local := h2
  have hl1 : (p1.line == p1.line) = true := by simp
  have hd : [y1, y2].eraseDups = [y1, y2] := by
    have : (y2 == y1) = false := by
      rw [Bool.eq_false_iff] at hne ⊢
      intro h
      exact hne (by rw [beq_iff_eq] at h ⊢; exact h.symm)
    simp [List.eraseDups_cons, this]
  simp only [List.any_cons, List.any_nil, Bool.or_false, Bool.or_eq_false_iff] at hst
  obtain ⟨hsa, hsb⟩ := hst
  have hln' : p2.line = p1.line := beq_iff_eq.mp hln
  simp only [List.all_cons, List.all_nil, Bool.and_true] at hf hca
  unfold swappedStores
  simp [hb, k1, k2', hln', hd, hsa, hsb, List.filterMap_cons, Expr.pos]
  have nf : ¬ (foldedForSure 8 a = true ∧ foldedForSure 8 b = true) := fun h => by rw [h.1, h.2] at hf; cases hf
  have nc : ¬ (constantsAlone 8 a = true ∧ constantsAlone 8 b = true) := fun h => by rw [h.1, h.2] at hca; cases hca
  rw [if_neg nf, if_neg nc]
  exact if_neg fun h => h.elim (fun h => Bool.noConfusion (hsa.symm.trans h)) fun h => Bool.noConfusion (hsb.symm.trans h)
theorem sw_cell {elt : Expr} {gs : List Comprehension} {scope : Scope} {pos py : Pos} {y : Str} {l : Nat} {env : Env} (hy : env.scope.names.lookup y = some .cell) : swapsWith (.ListComp elt gs scope pos) (some (.Name y py)) l env = pure false := by
  have ky : env.kindOf y = some .cell := hy
  have e : (some NameKind.cell == some NameKind.local) = false := rfl
  unfold swapsWith
  simp only [ky, e, Bool.and_false, Bool.false_and]
/-! ### sorted, of data -/
section
variable {β : Type} {R : V → β → Prop}
abbrev EachV (R : V → β → Prop) : List Value → List β → Prop := PySem.W.EachIs fun u b => ∃ w, RelV w u ∧ R w b
theorem vals_each : ∀ {bs : List β} {ws : List V} {us : List Value}, Vals ws us → Paired R ws bs → EachV R us bs
  | [], _, _, r, h => by cases h; cases r; exact .nil
  | b :: bs, _, _, r, h => by
    cases h with
    | cons h1 h2 => cases r with
      | cons r1 r2 => exact .cons ⟨_, r1, h1⟩ (vals_each r2 h2)
theorem each_vals : ∀ {bs : List β} {us : List Value}, EachV R us bs → ∃ ws, Vals ws us ∧ Paired R ws bs
  | _, _, .nil => ⟨[], .nil, .nil⟩
  | _, _, .cons ⟨w, r, h⟩ t => by
    obtain ⟨ws, q1, q2⟩ := each_vals t
    exact ⟨w :: ws, .cons r q1, .cons h q2⟩
theorem each_reads {X : Cx} {pins : List (Addr × Obj)} {σ : St} {H : Hp} {s : Shared} {enc : β → D} (I : Inv X pins σ H s) (hR : ∀ w b, R w b → Dp X.K H w (enc b)) : ∀ {bs : List β} {us : List Value}, EachV R us bs → PySem.W.EachIs (fun u b => ∃ as, Reads s.heap u (enc b) as) us bs
  | _, _, .nil => .nil
  | _, _, .cons ⟨w, r, h⟩ t => .cons (Dp.reads I _ w _ (hR w _ h) r) (each_reads I hR t)
theorem pair_len {γ δ : Type} {R : γ → δ → Prop} : ∀ {l : List γ} {l' : List δ}, Paired R l l' → l.length = l'.length
  | _, _, .nil => rfl
  | _, _, .cons _ r => congrArg (· + 1) (pair_len r)
theorem dpAll_pair {K : PySem.W.Frag} {H : Hp} {enc : β → D} : ∀ {bs : List β} {ws : List V}, DpAll K H ws (bs.map enc) → Paired (fun w b => Dp K H w (enc b)) ws bs
  | [], _, h => by cases h; exact .nil
  | b :: bs, _, h => by
    cases h with
    | cons h1 h2 => exact .cons h1 (dpAll_pair h2)
theorem pair_dpAll {K : PySem.W.Frag} {H : Hp} {enc : β → D} : ∀ {bs : List β} {ws : List V}, Paired (fun w b => Dp K H w (enc b)) ws bs → DpAll K H ws (bs.map enc)
  | _, _, .nil => .nil
  | _, _, .cons h r => .cons h (pair_dpAll r)
end
structure SortOk {β : Type} (enc : β → D) : Prop where
  ali : ∀ b b', PySem.W.alike (enc b) (enc b') = true
  srt : (∀ b, ∃ x r, enc b = .tuple (x :: r)) ∨ (∀ b, enc b ≠ .none ∧ ∀ xs, enc b ≠ .tuple xs)
  dep : ∀ b, (enc b).depth ≤ 8
def rSortD (K : PySem.W.Frag) {β : Type} (enc : β → D) : List V → Hp → VK → Prop := fun vs H Q => ∃ (a : Addr) (ws : List V) (bs : List β) (R : V → β → Prop), vs = [V.ref a] ∧ SqL K H a ws ∧ Paired R ws bs ∧ (∀ w b, R w b → Dp K H w (enc b)) ∧ bs.length ≤ sizeLine ∧
  ∀ (ws' : List V) (p : Addr), Paired R ws' (bs.mergeSort (PySem.W.dataLe false enc)) → H p = none → Q (.ref p) (upd H p (.lst ws'))
theorem cr_sortD {X : Cx} {β : Type} {enc : β → D} (hu : X.A.units + 64 < cLine) (o : SortOk enc) : CallR X (.builtin "sorted") (rSortD X.K enc) := by
  intro pins s σ H vs us Q I r h
  obtain ⟨a, ws, bs, R, rfl, hs, dp, hR, hl, q⟩ := h
  obtain ⟨its, rv, hL, _⟩ := I.list hs
  rw [Vals.ref1 r]
  have e := vals_each rv dp
  refine PySem.W.sorted_data (vs := its) (bs := bs) (enc := enc) hL.isList e (each_reads I hR e) (.of o.ali) (o.srt.elim .tuples .others) hl (fun b _ => by have := o.dep b; omega) fun out h1 h2 => ?_
  obtain ⟨ep, he'⟩ := PyProof.Rows.sortedAll_at s.heap its out.toArray
  obtain ⟨ws', v1, v2⟩ := each_vals h2
  have hlen : ws'.length ≤ sizeLine := by rw [pair_len v2, List.length_mergeSort]; exact hl
  exact ⟨.ref _, upd H (s.heap.objs.size + 1) (.lst ws'), I.laid (t' := s.toks) (fun _ _ => PyProof.Rows.sortedAll_old) (Nat.le_succ _) ⟨hlen, out, ep, v1, he'⟩, rfl, q ws' _ v2 (I.hok.fresh (Nat.le_succ _))⟩
/-- a count and a text -/
abbrev tD (p : Int × List Nat) : D := .tuple [iD p.1, sD p.2]
def leT (p q : Int × List Nat) : Bool := decide (p.1 < q.1 ∨ (p.1 = q.1 ∧ p.2 ≤ q.2))
theorem sortOk_t : SortOk tD := ⟨fun b b' => by simp [PySem.W.alike, PySem.W.alikeAll], .inl fun b => ⟨_, _, rfl⟩, fun b => by simp [PyData.depth, PyData.depthAll]⟩
theorem sortOk_s : SortOk sD := ⟨fun b b' => by simp [PySem.W.alike], .inr fun b => ⟨(fun h => nomatch h), fun _ h => nomatch h⟩, fun b => by simp [PyData.depth]⟩
theorem dataLe_s : PySem.W.dataLe false sD = fun a b : List Nat => decide (a ≤ b) := PySem.W.dataLe_str S
theorem dataLe_t : PySem.W.dataLe false tD = leT := by
  rw [PySem.W.dataLe_eq]
  funext p q
  show (!PySem.W.dataLt (.tuple [.int q.1, .str (S q.2)]) (.tuple [.int p.1, .str (S p.2)])) = leT p q
  rw [PySem.W.dataLt_pair (by simp [PySem.W.alike]) (by simp [PySem.W.alike])]
  rw [dk_int.eqv, dk_str.eqv]
  have hi : PySem.W.dataLt (iD q.1) (iD p.1) = decide (q.1 < p.1) := PySem.W.dataLt_int q.1 p.1
  have hs : PySem.W.dataLt (sD q.2) (sD p.2) = decide (q.2 < p.2) := PySem.W.dataLt_str (S q.2) (S p.2)
  show (!(if decide (q.1 = p.1) = true then (if decide (q.2 = p.2) = true then false else PySem.W.dataLt (sD q.2) (sD p.2)) else PySem.W.dataLt (iD q.1) (iD p.1))) = leT p q
  rw [hi, hs]
  unfold leT
  by_cases h1 : q.1 = p.1
  · by_cases h2 : q.2 = p.2
    · simp only [h1, h2, decide_true, if_true, Bool.not_false]
      exact (decide_eq_true (.inr ⟨trivial, List.le_refl _⟩)).symm
    · simp only [h1, h2, decide_true, decide_false, if_true]
      by_cases h3 : q.2 < p.2
      · simp only [h3, decide_true]
        exact (decide_eq_false (fun h => h.elim (by omega) fun h => List.not_lt.mpr h.2 h3)).symm
      · simp only [h3, decide_false]
        exact (decide_eq_true (.inr ⟨trivial, List.not_lt.mp h3⟩)).symm
  · simp only [h1, decide_false]
    by_cases h3 : q.1 < p.1
    · simp only [h3, decide_true]
      exact (decide_eq_false (fun h => h.elim (by omega) fun h => h1 h.1.symm)).symm
    · simp only [h3, decide_false]
      exact (decide_eq_true (.inl (by omega))).symm
section
variable {X : Cx} {W : WX} {N : List Str} {sc : Scope} {k : Nat} {ds : Sls} {d d1 d2 d3 : D} {as xs ys : List D} {e a b c o : Expr} {es : List Expr} {pos p : Pos} {x : Str} {i j : Int} {l l1 l2 : List Nat} {ls : List (List Nat)}
theorem evn_sortD {β : Type} {enc : β → D} {bs : List β} (so : SortOk enc) (A : Wh X N sc k) (hg : GlS sc "sorted") (hm : X.mg "sorted" = none) (h : EvE X e ds (.list (bs.map enc))) (hl : bs.length ≤ sizeLine) (he : starEach (e :: []) X.env = (false, eval e X.env) :: starEach [] X.env := by rfl) : EvN X (.Call (.Name "sorted" p) [e] [] pos) ds ((bs.mergeSort (PySem.W.dataLe false enc)).map enc) :=
  evn_callB A (cr_sortD A.u64 so) hg hm (by decide +kernel) (eva_cons h eva_nil he) (fun vs F H Q s r q => by
    obtain ⟨v, rfl, r1⟩ := rpAll1 r
    obtain ⟨a, ws, rfl, h1, h2⟩ := rp_lst.mp r1
    exact ⟨a, ws, bs, _, rfl, s.seq h1, dpAll_pair h2, fun w b h => dp_mono s h, hl, fun ws' p dp hp => q p ws' F _ (.newO s hp) hp (s.free hp) upd_same (pair_dpAll dp)⟩) (by decide) (by decide) he
theorem evn_sortedS (A : Wh X N sc k) (hg : GlS sc "sorted") (hm : X.mg "sorted" = none) (h : EvE X e ds (txts ls)) (hl : ls.length ≤ sizeLine) (he : starEach (e :: []) X.env = (false, eval e X.env) :: starEach [] X.env := by rfl) : EvN X (.Call (.Name "sorted" p) [e] [] pos) ds ((ls.mergeSort fun a b => decide (a ≤ b)).map sD) := (evn_sortD sortOk_s A hg hm h hl he).cast (by rw [dataLe_s])
theorem evn_sortedP {bs : List (Int × List Nat)} (A : Wh X N sc k) (hg : GlS sc "sorted") (hm : X.mg "sorted" = none) (h : EvE X e ds (.list (bs.map tD))) (hl : bs.length ≤ sizeLine) (he : starEach (e :: []) X.env = (false, eval e X.env) :: starEach [] X.env := by rfl) : EvN X (.Call (.Name "sorted" p) [e] [] pos) ds ((bs.mergeSort leT).map tD) := (evn_sortD sortOk_t A hg hm h hl he).cast (by rw [dataLe_t])
theorem ev_tpair {n : Nat} (ha : EvE X a ds (.int i)) (hb : EvE X b ds (sD l)) (he : starEach (a :: [b]) X.env = (false, eval a X.env) :: starEach [b] X.env := by rfl) (he2 : starEach (b :: []) X.env = (false, eval b X.env) :: starEach [] X.env := by rfl) : EvE X (.Tuple [a, b] n pos) ds (tD (i, l)) :=
  ev_tup (eva_cons ha (eva_cons hb eva_nil he2) he) rfl (by show 2 ≤ sizeLine; rw [sizeLine_eq]; decide)
theorem ev_tsnd {q : Int × List Nat} (ha : EvE X a ds (tD q)) (hb : EvE X b ds (.int 1)) (hs : PlainIx b := by exact fun _ _ => rfl) : EvE X (.Subscript a b pos) ds (sD q.2) := ev_ixT ha hb (atI_n (k := 1) rfl) hs
/-! ### a text's parts put together -/
def joinT (l : List Nat) (ls : List (List Nat)) : List Nat := (Txt.join (S l) (ls.map S)).cps.toList
variable {apos cpos : Pos}
theorem ev_join (ho : EvE X o ds (sD l)) (ha : EvE X a ds (txts ls)) (hz : (ls.map (·.length)).sum + ls.length * l.length ≤ 16777216) (hbase : attributeBase o "join" X.env (eval o X.env) = eval o X.env := by rfl) (hfew : ((backTo cpos (starEach (a :: []) X.env)).all (fun x => !x.1) && (backToKw cpos (keywordEach [] X.env)).all (fun x => x.1.isSome) && decide ((a :: []).length + ([] : List Keyword).length + (if ([] : List Keyword).isEmpty then 0 else 1) < 30)) = true := by rfl) (hline : (apos.endLine == cpos.line) = true := by rfl) (hs : starEach (a :: []) X.env = (false, eval a X.env) :: starEach [] X.env := by rfl) (hplain : (backTo cpos (starEach [] X.env)).any (·.1) = false := by rfl) :
    EvE X (.Call (.Attribute o "join" apos) [a] [] cpos) ds (sD (joinT l ls)) :=
  ev_bm PySem.F.plainAttrs_str PySem.F.slot_str_join PySem.F.type_str_join mt_join ho rfl (eva_cons ha eva_nil hs) (fun v0 vs F H Q s r0 r q => by
    obtain ⟨v, rfl, r1⟩ := rpAll1 r
    obtain ⟨p, ws, rfl, h1, h2⟩ := rp_lst.mp r1
    have := dpAll_S h2
    subst this
    refine ⟨S l, p, ls.map S, rp_str.mp r0, rfl, .inl ?_, ?_, q _ F H (.refl s) (.str _)⟩
    · rw [List.map_map]; exact s.seq h1
    · rw [List.map_map, List.length_map]; exact hz) hbase hfew hline hs hplain
/-! ### min of a list, an item's place -/
def minL (ns : List Int) : Int := ns.min?.getD 0
theorem minL_of {ns : List Int} {m : Int} (h1 : m ∈ ns) (h2 : ∀ y, y ∈ ns → m ≤ y) : m = minL ns := by
  unfold minL
  rw [List.min?_eq_some_iff.mpr ⟨h1, h2⟩]; rfl
theorem ev_minL {ns : List Int} (A : Wh X N sc k) (hg : GlS sc "min") (hm : X.mg "min" = none) (h : EvE X e ds (nums ns)) (hn : 0 < ns.length) (he : starEach (e :: []) X.env = (false, eval e X.env) :: starEach [] X.env := by rfl) : EvE X (.Call (.Name "min" p) [e] [] pos) ds (iD (minL ns)) :=
  ev_callB A (cr_min A.calm) hg hm (by decide +kernel) (eva_cons h eva_nil he) (fun vs F H Q s r q => by
    obtain ⟨v, rfl, r1⟩ := rpAll1 r
    obtain ⟨a, ws, rfl, h1, h2⟩ := rp_lst.mp r1
    have e := dpAll_ints h2
    subst e
    exact ⟨a, ns, rfl, s.seq h1, hn, fun m m1 m2 => by rw [minL_of m1 m2]; exact q _ F H (.refl s) (.int _)⟩) (by decide) (by decide) he
theorem ev_lindex (ho : EvE X o ds (txts ls)) (ha : EvE X a ds (sD l)) (hc : l ∈ ls) (hbase : attributeBase o "index" X.env (eval o X.env) = eval o X.env := by rfl) (hfew : ((backTo cpos (starEach (a :: []) X.env)).all (fun x => !x.1) && (backToKw cpos (keywordEach [] X.env)).all (fun x => x.1.isSome) && decide ((a :: []).length + ([] : List Keyword).length + (if ([] : List Keyword).isEmpty then 0 else 1) < 30)) = true := by rfl) (hline : (apos.endLine == cpos.line) = true := by rfl) (hs : starEach (a :: []) X.env = (false, eval a X.env) :: starEach [] X.env := by rfl) (hplain : (backTo cpos (starEach [] X.env)).any (·.1) = false := by rfl) :
    EvE X (.Call (.Attribute o "index" apos) [a] [] cpos) ds (iD (ls.idxOf l : Nat)) :=
  ev_bm PySem.F.plainAttrs_list PySem.F.slot_list_index PySem.F.type_list_index mt_index ho rfl (eva_cons ha eva_nil hs) (fun v0 vs F H Q s r0 r q => by
    obtain ⟨v, rfl, r1⟩ := rpAll1 r
    obtain ⟨p, ws, rfl, h1, h2⟩ := rp_lst.mp r0
    have e := dpAll_S h2
    subst e
    rw [rp_str.mp r1]
    have hl : ls.idxOf l < ls.length := List.idxOf_lt_length_iff.mpr hc
    have eqS : ∀ m : List Nat, eqV (.str (S m)) (.str (S l)) = decide (m = l) := fun m => by
      show (S m == S l) = decide (m = l)
      rw [Bool.eq_iff_iff, beq_iff_eq, decide_eq_true_eq, S_inj]
    refine ⟨p, _, .str (S l), ls.idxOf l, .str (S l), rfl, rfl, s.seq h1, rfl, flat_strs ls, ?_, ?_, fun m z' hm hz => ?_, q _ F H (.refl s) (.int _)⟩
    · rw [List.getElem?_map, List.getElem?_eq_getElem hl, List.getElem_idxOf hl]; rfl
    · rw [eqS]; exact decide_eq_true rfl
    · rw [List.getElem?_map] at hz
      have hm' : m < ls.length := by omega
      rw [List.getElem?_eq_getElem hm'] at hz
      have hz := (Option.some.inj hz).symm
      subst hz
      rw [eqS]
      refine decide_eq_false fun e => ?_
      have := idxOf_leG (a := ls) (i := m) (c := l) (by rw [List.getElem?_eq_getElem hm', e])
      omega) hbase hfew hline hs hplain
/-! ### a dict of one text -/
theorem evm_disp1 (hk : EvE X a ds (.str x)) (hv : EvE X b ds d) (hn : nodict d = true) : EvM X (.Dict [some a] [b] pos) ds [(x, d)] := fun F0 H0 F H σ s Q q =>
  toE (pe_disp (pps_cons wpE_pe wpE_pe pps_nil) rfl rfl (by simp) (by show 1 ≤ 15; decide)) fun p hp => by
    have x0 : Ext F H F (upd H p (.dK [])) := .newO s.fh hp
    refine hk F0 H0 F _ σ (s.to x0) _ fun v1 F1 H1 x1 r1 => hv F0 H0 F1 H1 σ ((s.to x0).to x1) _ fun v2 F2 H2 x2 r2 => ?_
    have e2 : H2 p = some (.dK []) := x2.h _ _ (x1.h _ _ upd_same)
    have f1 : F1 p = none := x1.own p (s.fh.free hp) (by rw [upd_same]; exact fun z => nomatch z)
    have f2 : F2 p = none := x2.own p f1 (by rw [x1.h _ _ upd_same]; exact fun z => nomatch z)
    refine ⟨e2, [(Sum.inr x, v2)], by rw [rp_str.mp r1]; rfl, by show 1 ≤ 15; decide, ?_⟩
    have x3 : Ext F H F2 H2 := x0.trans (x1.trans x2)
    refine q p _ F2 _ ⟨x3.f, fun b o z => ?_, fun b o z => ?_, x3.own⟩ hp f2 upd_same (.cons ⟨rfl, rp_dp r2 hn⟩ .nil)
    · rw [upd_ne (fun w => by rw [w, hp] at z; cases z)]; exact x3.h _ _ z
    · rw [upd_ne (fun w => by rw [w, f2] at z; cases z)]; exact x3.fh _ _ z
theorem evm_disp1M {α : Type} {enc : α → D} {v : α} (hk : EvE X a ds (sD l)) (hv : EvE X b ds (enc v)) (hn : nodict (enc v) = true) : EvM X (.Dict [some a] [b] pos) ds (dkv enc [(l, v)]) := evm_disp1 hk hv hn
end
end Vs

/-! Errors, by data. -/
namespace Vs
open PySem PySem.Spec L2
/-- an own class x of errors, at C -/
structure ErrC (K : PySem.W.Frag) (mg : Str → Option Value) (x : Str) (C : Addr) : Prop where
  ex : PySem.W.excIn K C [.type "ValueError", .type "Exception", .type "BaseException", .type "object"] "ValueError.__new__" = true
  gl : mg x = some (.ref C)
  kp : PySem.W.keepIn K (.ref C) = true
  sub : PySem.W.subIn K (.ref C) (.type "BaseException") = some true
  ty : PySem.W.typeIn K (.ref C) = some (.type "type")
/-- e raises an error of class c -/
def EvX (X : Cx) (W : WX) (e : Expr) (ds : Sls) (c : Value) : Prop := ∀ (F0 H0 F H : Hp) (σ : St), StR X.K F0 H0 F H σ ds → (∀ F' H', Ext F H F' H' → W c none σ H') → ∀ Q : VK, wpE X e σ H Q
section
variable {X : Cx} {W : WX} {N ps : List Str} {sc : Scope} {k kf : Nat} {ds : Sls} {d : D} {as xs : List D} {e a b : Expr} {es : List Expr} {pos p : Pos} {x m : Str} {S : List D → Out → Prop} {c : Value}
theorem StR.nos {K : PySem.W.Frag} {F0 H0 F H : Hp} {σ : St} (s : StR K F0 H0 F H σ ds) : StR K F0 H0 F H σ (List.replicate σ.length .no) := s.forget (by rw [List.length_replicate, s.len]) fun i t e => by
  rw [List.getElem?_replicate] at e
  split at e
  · exact .inl (Option.some.inj e).symm
  · cases e
theorem StR.rf {K : PySem.W.Frag} {F0 H0 F H : Hp} {σ : St} {n i : Nat} (s : StR K F0 H0 F H σ (List.replicate n .no)) (a : Addr) : StR K F0 H0 F H (σ.set i (some (.ref a))) ((List.replicate n .no).set i (.rf a)) := by
  have nm : ∀ j, ¬ Mine ((List.replicate n Sl.no).set i (.rf a)) j := fun j ⟨t, e, mt⟩ => by
    by_cases q : i = j
    · subst q
      have hl : i < (List.replicate n Sl.no).length := by
        have z := (List.getElem?_eq_some_iff.mp e).1
        rwa [List.length_set] at z
      rw [List.getElem?_set_self hl] at e
      cases e
      cases mt
    · rw [List.getElem?_set_ne q, List.getElem?_replicate] at e
      split at e
      · cases e; cases mt
      · cases e
  refine ⟨s.ext, by rw [List.length_set, List.length_set, s.len], fun j t e => ?_, fun j _ _ h1 _ _ _ => absurd h1 (nm j)⟩
  by_cases q : i = j
  · subst q
    have hl : i < (List.replicate n Sl.no).length := by
      have z := (List.getElem?_eq_some_iff.mp e).1
      rwa [List.length_set] at z
    rw [List.getElem?_set_self hl] at e
    cases e
    exact List.getElem?_set_self (by rw [s.len]; exact hl)
  · rw [List.getElem?_set_ne q, List.getElem?_replicate] at e
    split at e
    · cases e; trivial
    · cases e
/-- raise x('m') -/
theorem run_raise {C : Addr} {j : Nat} {p1 p2 : Pos} (A : Wh X N sc k) (tk : Takes X W) (c : ErrC X.K X.mg x C) (hg : GlS sc x) (hdb : (x == ("__debug__" : Str)) = false := by decide) : Run X W (.Raise (some (.Call (.Name x p) [.Constant (.str m) j p2] [] p1)) none pos) ds (.ex (.ref C)) := fun F0 H0 F H σ E s q =>
  toS (ps_raise A.calm tk (pmk_own PySem.F.excBase_ValueError c.ex c.gl c.kp (raises_own c.sub c.ty) (A.gl hg) hdb)) (q σ F H s.nos (Same.refl _))
/-- a call that raises -/
theorem evx_call (A : Wh X N sc k) (tk : Takes X W) (G : FnX X kf x ps S) (hk : kf ≤ k) (hg : GlS sc x) (ha : EvA X (e :: es) ds as) (hs : S as (.ex c)) (hdb : (x == ("__debug__" : Str)) = false := by decide) (he : starEach (e :: es) X.env = (false, eval e X.env) :: starEach es X.env := by rfl) (hpl : (backTo pos (starEach es X.env)).any (·.1) = false := by rfl) :
    EvX X W (.Call (.Name x p) (e :: es) [] pos) ds c := fun F0 H0 F H σ s w Q => by
  obtain ⟨f, fd, h1, h2, h3, h4⟩ := G
  refine toE (pe_callS (E := WE W) h1 (A.room.mono hk) (A.gl hg) h2 h3 h4 (fun σ => passAt tk σ) wpA_pa hdb he hpl) ?_
  exact ha F0 H0 F H σ s _ fun vs F' H' x r1 => ⟨F', as, .ex c, x.fh, r1, hs, fun F2 H2 x2 => w F2 H2 (x.trans x2)⟩
theorem run_exprX (h : EvX X W e ds c) (hs : swapsWith e none pos.line X.env = pure false := by rfl) : Run X W (.Expr e pos) ds (.ex c) := fun F0 H0 F H σ E s q =>
  toS (ps_expr wpE_pe hs) (h F0 H0 F H σ s (fun F' H' x => q σ F' H' (s.to x).nos x.f) _)
theorem run_retX (h : EvX X W e ds c) : Run X W (.Return (some e) pos) ds (.ex c) := fun F0 H0 F H σ E s q =>
  toS (ps_ret wpE_pe) (h F0 H0 F H σ s (fun F' H' x => q σ F' H' (s.to x).nos x.f) _)
theorem run_setX (A : WhS X N sc k) (n : Nat) (hi : N[n]? = some x) (hx : L2.Loc sc x) (h : EvX X W e ds c) (hs : swapsWith e (some (.Name x p)) pos.line X.env = pure false := by rfl) : Run X W (.Assign [.Name x p] e pos) ds (.ex c) := fun F0 H0 F H σ E s q =>
  toS (ps_set (i := n) (by rw [A.hN]; exact A.nd) (by rw [A.hN]; exact hi) (by rw [A.hsc]; exact hx) wpE_pe hs (.inl (A.fn x))) (h F0 H0 F H σ s (fun F' H' x => q σ F' H' (s.to x).nos x.f) _)
/-- .. within a subscript -/
theorem evx_ix (h : EvX X W a ds c) (hs : PlainIx b := by exact fun _ _ => rfl) : EvX X W (.Subscript a b pos) ds c := fun F0 H0 F H σ s w Q =>
  toE (pe_ix ix_list wpE_pe (tb := wpE X b) wpE_pe hs) (h F0 H0 F H σ s w _)
theorem evx_sl {lo hi : Option Expr} {l u : Option Int} {p2 : Pos} (h : EvX X W a ds c) (hl : EvO X lo ds l) (hh : EvO X hi ds u) : EvX X W (.Subscript a (.Slice lo hi none p2) pos) ds c := fun F0 H0 F H σ s w Q => by
  obtain ⟨tl, pl, ql⟩ := evo_run hl
  obtain ⟨th, ph, qh⟩ := evo_run hh
  exact toE (pe_slice sl_list wpE_pe pl ph) (h F0 H0 F H σ s w _)
theorem evx_tup2 (ha : EvE X a ds d) (hb : EvX X W b ds c) (he1 : starEach (a :: [b]) X.env = (false, eval a X.env) :: starEach [b] X.env := by rfl) (he2 : starEach (b :: []) X.env = (false, eval b X.env) :: starEach [] X.env := by rfl) : EvX X W (.Tuple [a, b] k pos) ds c := fun F0 H0 F H σ s w Q =>
  toE (pe_tup (pa_cons wpE_pe (pa_cons wpE_pe pa_nil he2) he1)) (ha F0 H0 F H σ s _ fun v F' H' x r => hb F0 H0 F' H' σ (s.to x) (fun F2 H2 x2 => w F2 H2 (x.trans x2)) _)
/-- e gives something -/
def EvD (X : Cx) (e : Expr) (ds : Sls) : Prop := ∀ (F0 H0 F H : Hp) (σ : St), StR X.K F0 H0 F H σ ds → ∀ Q : VK, (∀ v F' H', Ext F H F' H' → Q v H') → wpE X e σ H Q
theorem EvE.dn (h : EvE X e ds d) : EvD X e ds := fun F0 H0 F H σ s Q q => h F0 H0 F H σ s Q fun v F' H' x _ => q v F' H' x
theorem EvN.dn (h : EvN X e ds xs) : EvD X e ds := fun F0 H0 F H σ s Q q => h F0 H0 F H σ s Q fun p vs F' H' x _ _ _ _ => q _ F' H' x
theorem evd_call (A : Wh X N sc k) (G : FnX X kf x ps S) (hk : kf ≤ k) (hg : GlS sc x) (ha : EvA X (e :: es) ds as) (hs : S as .dn) (hdb : (x == ("__debug__" : Str)) = false := by decide) (he : starEach (e :: es) X.env = (false, eval e X.env) :: starEach es X.env := by rfl) (hpl : (backTo pos (starEach es X.env)).any (·.1) = false := by rfl) :
    EvD X (.Call (.Name x p) (e :: es) [] pos) ds := fun F0 H0 F H σ s Q q => call_run A G hk hg ha hs hdb he hpl s fun F' H' x v F2 H2 x2 => q v F2 H2 (x.trans x2)
theorem run_exprD (h : EvD X e ds) (hs : swapsWith e none pos.line X.env = pure false := by rfl) : Run X W (.Expr e pos) ds (.nx ds) := fun F0 H0 F H σ E s q =>
  toS (ps_expr wpE_pe hs) (h F0 H0 F H σ s _ fun v F' H' x => q σ F' H' (s.to x) x.f)
theorem run_retD (h : EvD X e ds) : Run X W (.Return (some e) pos) ds .dn := fun F0 H0 F H σ E s q =>
  toS (ps_ret wpE_pe) (h F0 H0 F H σ s _ fun v F' H' x => q v F' H' (s.ext.trans x))
theorem runB_X {st : Stmt} {rest : List Stmt} (h : Run X W st ds (.ex c)) : RunB X W (st :: rest) ds (.ex c) := runB_stop h rfl
/-! ### try -/
def Out.isEx : Out → Bool
  | .ex _ => true
  | _ => false
theorem WhS.tr (A : WhS X N sc k) {pn : List (Addr × Obj)} {xe : Value → Shared → Prop} (p : PassesOwn (model X.prog X.w) X.A X.env xe) : WhS (X.tr pn xe) N sc k := ⟨⟨⟨A.hN, A.nd, A.hsc, A.kind⟩, A.calm, A.room⟩, p, A.fn, A.stk, A.frm⟩
theorem Wh0.suite (A : Wh0 X N sc) {a : Addr} {pn : List (Addr × Obj)} : Wh0 (X.suite a pn) N sc := ⟨A.hN, A.nd, A.hsc, A.kind⟩
/-- try: body; except x as n: suite -/
theorem run_try {i : Nat} {n : Str} {C CR : Addr} {np pos' : Pos} {body suite : List Stmt} {b₀ : Stmt} {u v : Out} (A : WhS X N sc k) (tk : Takes X W) (hi : N[i]? = some n) (hln : sc.names.lookup n = some .local)
    (hg : GlS sc x) (hm : X.mg x = some (.ref CR)) (he : PySem.W.exmOne X.K (.ref C) (.ref CR) = some true) (hv : v.isEx = false)
    (hb : ∀ (W' : WX) (pn : List (Addr × Obj)) (xe : Value → Shared → Prop), WhS (X.tr pn xe) N sc k → Takes (X.tr pn xe) W' → RunB (X.tr pn xe) W' body ds u) (hu : u = .ex (.ref C) ∨ u = v)
    (hsu : u = .ex (.ref C) → ∀ (a : Addr) (oe : Obj) (pn : List (Addr × Obj)) (W' : WX), Zc (.ref C) none oe → (∃ vs, oe.data = .fields vs) → ∃ d, v = .rt d ∧ RunB (X.suite a ((a, oe) :: pn)) W' (b₀ :: suite) ((List.replicate N.length .no).set i (.rf a)) (.rt d))
    (hdb : (x == ("__debug__" : Str)) = false := by decide) :
    Run X W (.Try body [.ExceptHandler (some (.Name x np)) (some n) (b₀ :: suite) pos'] [] [] pos) ds v := fun F0 H0 F H σ E s q => by
  refine toS (ps_try_as (i := i) (c := .ref CR) (tb := fun W' D σ H => ∀ (pn : List (Addr × Obj)) (xe : Value → Shared → Prop), Takes (X.tr pn xe) W' → PassesOwn (model X.prog X.w) X.A X.env xe → wpB (X.tr pn xe) body D σ H)
    (ts := fun a cls d D σ H => ∀ (oe : Obj) (pn : List (Addr × Obj)), Zc cls d oe → (∃ vs, oe.data = .fields vs) → wpB (X.suite a ((a, oe) :: pn)) (b₀ :: suite) D σ H)
    A.stk A.frm (by rw [A.hN]; exact A.nd) (by rw [A.hN]; exact hi) (by show X.env.scope.names.lookup n = _; rw [A.hsc]; exact hln) ⟨A.gl hg, hdb, .inl hm⟩ tk
    (fun W' pn xe t p => ⟨fun pins s σ H D I h => h pn xe t p pins s I⟩) (fun a oe cls d pn hz hf => ⟨fun pins s σ H D I h => h oe pn hz hf pins s I⟩)) ?_
  intro pn xe t p
  have B := hb _ pn xe (A.tr p) t F0 H0 F H σ E s
  refine B ?_
  rcases hu with rfl | rfl
  · intro σ1 F1 H1 s1 sf
    refine ⟨true, he, fun _ a ha => ?_, fun z => Bool.noConfusion z⟩
    intro oe pn2 hz hfs
    obtain ⟨d, rfl, R⟩ := hsu rfl a oe pn2 (fun _ _ _ _ => False) hz hfs
    intro pins s3 I
    have ls : σ1.length = N.length := by
      have := I.len
      rw [List.length_set] at this
      rw [this, ← A.hN]
    have s2 := s1.rf (i := i) a
    rw [ls] at s2
    refine R F0 H0 F1 H1 _ _ s2 ?_ pins s3 I
    exact q
  · cases u <;> first | exact q | cases hv
end
end Vs

/-! The caught error, asked for its class by another def. -/
namespace Vs
open PySem PySem.Spec PyProof.Rows L2
theorem reads_bools {h : Heap} : ∀ {bs : List Bool} {us : List Value}, Vals (bs.map V.bl) us → us = bs.map Value.bool ∧ ReadsAll h us (bs.map PyData.bool) []
  | [], _, r => by cases r; exact ⟨rfl, .nil⟩
  | b :: bs, _, r => by
    cases r with
    | cons r1 r2 =>
      obtain ⟨e1, e2⟩ := reads_bools (h := h) r2
      have q : _ = Value.bool b := r1
      subst q
      subst e1
      exact ⟨rfl, ReadsAll.cons (as := []) (bs := []) (.bool b) e2⟩
theorem countIn_bools (k : Bool) : ∀ bs : List Bool, countIn (.bool k) (bs.map PyData.bool) = (bs.count k : Nat)
  | [] => rfl
  | b :: bs => by
    rw [List.map_cons, countIn, List.count_cons, countIn_bools k bs]
    cases b <;> cases k <;> simp [same] <;> omega
theorem mt_countB {X : Cx} : MtR X "list.count" (fun x xs H Q => ∃ (a : Addr) (bs : List Bool) (k : Bool), x = V.ref a ∧ xs = [V.bl k] ∧ SqL X.K H a (bs.map V.bl) ∧ Q (.int (bs.count k : Nat)) H) := by
  intro pins s σ H x xs v us Q I rx rxs h
  obtain ⟨a, bs, k, rfl, rfl, hs, q⟩ := h
  cases rx
  obtain ⟨u, rfl, ru⟩ := rxs.one
  have ru : u = Value.bool k := ru
  subst ru
  obtain ⟨its, rv, hl, _⟩ := I.list hs
  obtain ⟨e, ra⟩ := reads_bools (h := s.heap) rv
  refine count_list_bools hl.isList ra (by rw [List.all_map]; exact List.all_eq_true.mpr fun _ _ => rfl) ?_
  rw [countIn_bools]
  exact ⟨.int (bs.count k : Nat), H, I.tok _, ⟨_, rfl⟩, q⟩
section
variable {X : Cx} {W : WX} {N ps : List Str} {sc : Scope} {k kf : Nat} {ds : Sls} {d : D} {as xs : List D} {e a b : Expr} {es : List Expr} {pos p p1 p2 apos cpos : Pos} {x y m : Str} {S : List D → Out → Prop} {c : Value} {o : Expr}
theorem ev_var0 (A : Wh0 X N sc) (i : Nat) {x : Str} (hi : N[i]? = some x) (hv : Vis sc x) (h : ds[i]? = some (.va d)) (hd : (x == ("__debug__" : Str)) = false := by decide) (hcd : (x == ("__classdict__" : Str)) = false := by decide) : EvE X (.Name x pos) ds d := by
  intro F0 H0 F H σ r Q q
  obtain ⟨v, e1, e2⟩ := r.at_ i _ h
  refine toE (pe_var (i := i) (by rw [A.hN]; exact hi) (by rw [A.hsc]; exact hv) hd hcd) ⟨v, e1, q v F H (.refl r.fh) e2⟩
theorem evc_own0 (A : Wh0 X N sc) (m : Nat) (hi : N[m]? = some x) (hv : Vis sc x) (h : ds[m]? = some (.ow xs)) (hd : (x == ("__debug__" : Str)) = false := by decide) (hcd : (x == ("__classdict__" : Str)) = false := by decide) : EvC X (.Name x pos) ds xs := fun F0 H0 F H σ r Q q => by
  obtain ⟨a, vs, e1, e2, e3, e4, e5⟩ := r.at_ m _ h
  exact toE (pe_var (i := m) (by rw [A.hN]; exact hi) (by rw [A.hsc]; exact hv) hd hcd) ⟨_, e1, q a vs F H (.refl r.fh) e4 e5⟩
theorem run_setN0 (A : Wh0 X N sc) (hfn : X.fn x = true) (m : Nat) (hi : N[m]? = some x) (hx : L2.Loc sc x) (h : EvN X e ds xs) (hs : swapsWith e (some (.Name x p)) pos.line X.env = pure false := by rfl) : Run X W (.Assign [.Name x p] e pos) ds (.nx (ds.set m (.ow xs))) := fun F0 H0 F H σ E s q =>
  toS (ps_set (i := m) (by rw [A.hN]; exact A.nd) (by rw [A.hN]; exact hi) (by rw [A.hsc]; exact hx) wpE_pe hs (.inl hfn)) (h F0 H0 F H σ s _ fun p vs F' H' x n1 n2 n3 n4 => q _ F' H' ((s.to x).setO (s.ext.h.free n1) n2 n3 n4 (s.apart n1)) x.f)
theorem dpAll_B {K : PySem.W.Frag} {H : Hp} : ∀ {bs : List Bool} {vs : List V}, DpAll K H vs (bs.map fun b => PyData.bool b) → vs = bs.map V.bl := fun h => dpAll_bls h
/-- bs.count(b) -/
theorem ev_countB {bs : List Bool} {t : Bool} (ho : EvE X o ds (.list (bs.map fun b => PyData.bool b))) (ha : EvE X a ds (.bool t)) (hbase : attributeBase o "count" X.env (eval o X.env) = eval o X.env := by rfl) (hfew : ((backTo cpos (starEach (a :: []) X.env)).all (fun x => !x.1) && (backToKw cpos (keywordEach [] X.env)).all (fun x => x.1.isSome) && decide ((a :: []).length + ([] : List Keyword).length + (if ([] : List Keyword).isEmpty then 0 else 1) < 30)) = true := by rfl)
    (hline : (apos.endLine == cpos.line) = true := by rfl) (hs : starEach (a :: []) X.env = (false, eval a X.env) :: starEach [] X.env := by rfl) (hplain : (backTo cpos (starEach [] X.env)).any (·.1) = false := by rfl) :
    EvE X (.Call (.Attribute o "count" apos) [a] [] cpos) ds (.int (bs.count t : Nat)) :=
  ev_bm PySem.F.plainAttrs_list PySem.F.slot_list_count PySem.F.type_list_count mt_countB ho rfl (eva_cons ha eva_nil hs) (fun v0 vs F H Q s r0 r q => by
    obtain ⟨v, rfl, r1⟩ := rpAll1 r
    obtain ⟨p, ws, rfl, h1, h2⟩ := rp_lst.mp r0
    have e := dpAll_B h2
    subst e
    rw [rp_bl.mp r1]
    exact ⟨p, bs, t, rfl, rfl, s.seq h1, q _ F H (.refl s) (.int _)⟩) hbase hfew hline hs hplain
theorem flat_bools (bs : List Bool) : (bs.map V.bl).all flatV = true := by
  rw [List.all_map]; exact List.all_eq_true.mpr fun _ _ => rfl
/-- bs.index(b) -/
theorem ev_indexB {bs : List Bool} {t : Bool} (ho : EvE X o ds (.list (bs.map fun b => PyData.bool b))) (ha : EvE X a ds (.bool t)) (hc : t ∈ bs) (hbase : attributeBase o "index" X.env (eval o X.env) = eval o X.env := by rfl) (hfew : ((backTo cpos (starEach (a :: []) X.env)).all (fun x => !x.1) && (backToKw cpos (keywordEach [] X.env)).all (fun x => x.1.isSome) && decide ((a :: []).length + ([] : List Keyword).length + (if ([] : List Keyword).isEmpty then 0 else 1) < 30)) = true := by rfl)
    (hline : (apos.endLine == cpos.line) = true := by rfl) (hs : starEach (a :: []) X.env = (false, eval a X.env) :: starEach [] X.env := by rfl) (hplain : (backTo cpos (starEach [] X.env)).any (·.1) = false := by rfl) :
    EvE X (.Call (.Attribute o "index" apos) [a] [] cpos) ds (.int (bs.idxOf t : Nat)) :=
  ev_bm PySem.F.plainAttrs_list PySem.F.slot_list_index PySem.F.type_list_index mt_index ho rfl (eva_cons ha eva_nil hs) (fun v0 vs F H Q s r0 r q => by
    obtain ⟨v, rfl, r1⟩ := rpAll1 r
    obtain ⟨p, ws, rfl, h1, h2⟩ := rp_lst.mp r0
    have e := dpAll_B h2
    subst e
    rw [rp_bl.mp r1]
    have hl : bs.idxOf t < bs.length := List.idxOf_lt_length_iff.mpr hc
    have eqB : ∀ m : Bool, eqV (.bl m) (.bl t) = decide (m = t) := fun m => by cases m <;> cases t <;> rfl
    refine ⟨p, _, .bl t, bs.idxOf t, .bl t, rfl, rfl, s.seq h1, rfl, flat_bools bs, ?_, ?_, fun m z' hm hz => ?_, q _ F H (.refl s) (.int _)⟩
    · rw [List.getElem?_map, List.getElem?_eq_getElem hl, List.getElem_idxOf hl]; rfl
    · rw [eqB]; exact decide_eq_true rfl
    · rw [List.getElem?_map] at hz
      have hml : m < bs.length := by omega
      rw [List.getElem?_eq_getElem hml] at hz
      have hz := Option.some.inj hz
      subst hz
      rw [eqB]
      refine decide_eq_false fun e => ?_
      have := idxOf_leG (a := bs) (i := m) (c := t) (by rw [List.getElem?_eq_getElem hml, e])
      omega) hbase hfew hline hs hplain
/-! ### isinstance of the caught error -/
theorem call_isEX {D : Addr} {q : Addr × Obj} (C : ExcC X.K D) (hq : q ∈ X.pn) (hz : Zc (.ref D) none q.2) (hf : ∃ vs, q.2.data = .fields vs) : CallR X (.builtin "isinstance") (rIsE X.K D q.1) := by
  intro pins s σ H xs us Q I r h
  obtain ⟨c, cv, b, rfl, hcv, e, w⟩ := h
  cases r with
  | cons rx rr =>
    cases rr with
    | cons rt rr =>
      cases rr
      cases rx
      have ec := hcv _ rt
      subst ec
      obtain ⟨hget, _⟩ := I.pin q (List.mem_append.mpr (.inl hq))
      obtain ⟨vs, hv⟩ := hf
      have J : PySem.W.InstAt s.heap q.1 q.2 D none := by
        obtain ⟨qa, ⟨oc, od, oda, osl⟩⟩ := q
        obtain ⟨h1, h2⟩ := hz
        dsimp only at h1 h2 hv
        subst h1 h2 hv
        exact ⟨hget, rfl, rfl, trivial⟩
      exact PySem.W.kia_one (PySem.W.handS_kitx_exc C.hg C.hk C.hs C.hd C.ha C.hn C.ht C.hm) I.kIn J e (fun z => nomatch z) fun tk => ⟨.bl b, H, I.kept (t' := tk) fun _ _ z => z, rfl, w⟩
theorem ev_isE {D C2 : Addr} {t : Bool} {m : Nat} {q : Addr × Obj} (A : Wh0 X N sc) (C : ExcC X.K D) (hq : q ∈ X.pn) (hz : Zc (.ref D) none q.2) (hf : ∃ vs, q.2.data = .fields vs) (hi : N[m]? = some x) (hv : Vis sc x) (h : ds[m]? = some (.rf q.1)) (hg : GlS sc "isinstance") (hm : X.mg "isinstance" = none) (hg2 : GlS sc y) (hm2 : X.mg y = some (.ref C2)) (hk : PySem.W.kitOne X.K (.ref D) (.ref C2) = some t)
    (hd : (x == ("__debug__" : Str)) = false := by decide) (hcd : (x == ("__classdict__" : Str)) = false := by decide) (hd2 : (y == ("__debug__" : Str)) = false := by decide)
    (he : starEach (.Name x p1 :: [.Name y p2]) X.env = (false, eval (.Name x p1) X.env) :: starEach [.Name y p2] X.env := by rfl) : EvE X (.Call (.Name "isinstance" p) [.Name x p1, .Name y p2] [] pos) ds (.bool t) := fun F0 H0 F H σ s Q w => by
  have e1 := s.at_ m _ h
  refine toE (pe_callB (call_isEX C hq hz hf) (A.gl hg) hm (by decide +kernel) (pa_cons (pe_var (i := m) (by rw [A.hN]; exact hi) (by rw [A.hsc]; exact hv) hd hcd) (pa_cons (pe_glob (v := .ref C2) (A.gl hg2) hm2 rfl hd2) pa_nil (by rfl)) he) (by decide) (by decide) he (by rfl)) ?_
  exact ⟨_, e1, .ref C2, .ref C2, t, rfl, fun _ z => z, hk, w _ F H (.refl s.fh) (.bl _)⟩
theorem ev_isEV {D : Addr} {T : String} {t : Bool} {m : Nat} {q : Addr × Obj} (A : Wh0 X N sc) (C : ExcC X.K D) (hq : q ∈ X.pn) (hz : Zc (.ref D) none q.2) (hf : ∃ vs, q.2.data = .fields vs) (hi : N[m]? = some x) (hv : Vis sc x) (h : ds[m]? = some (.rf q.1)) (hg : GlS sc "isinstance") (hm : X.mg "isinstance" = none) (hg2 : GlS sc y) (hm2 : X.mg y = none) (hb2 : bootBuiltins y = some (.type T)) (hk : PySem.W.kitOne X.K (.ref D) (.type T) = some t) (hn : y ≠ "__name__" := by decide)
    (hd : (x == ("__debug__" : Str)) = false := by decide) (hcd : (x == ("__classdict__" : Str)) = false := by decide) (hd2 : (y == ("__debug__" : Str)) = false := by decide)
    (he : starEach (.Name x p1 :: [.Name y p2]) X.env = (false, eval (.Name x p1) X.env) :: starEach [.Name y p2] X.env := by rfl) : EvE X (.Call (.Name "isinstance" p) [.Name x p1, .Name y p2] [] pos) ds (.bool t) := fun F0 H0 F H σ s Q w => by
  have e1 := s.at_ m _ h
  refine toE (pe_callB (call_isEX C hq hz hf) (A.gl hg) hm (by decide +kernel) (pa_cons (pe_var (i := m) (by rw [A.hN]; exact hi) (by rw [A.hsc]; exact hv) hd hcd) (pa_cons (pe_bltn (v := .ty T) (A.gl hg2) hm2 hb2 rfl hn hd2) pa_nil (by rfl)) he) (by decide) (by decide) he (by rfl)) ?_
  exact ⟨_, e1, .ty T, .type T, t, rfl, fun _ z => z, hk, w _ F H (.refl s.fh) (.bl _)⟩
end
/-! ### a def that is handed the caught error -/
structure FnK (P : Program) (w : World) (K : PySem.W.Frag) (mg : Str → Option Value) (base : Heap) (k : Nat) (f : Addr) (fd : FuncData) (D : Addr) (l : List Nat) : Prop where
  run : ∀ (A : Around) (outer : List Env) (s : Shared) (H F : Hp) (args : Args) (us : List Value) (Q : VK) (E : XK) (p : Addr × Obj), L2H.RoomH k A → L2H.PinOk outer H s p → Zc (.ref D) none p.2 → (∃ vs, p.2.data = .fields vs) → Env0 P w K mg base A outer s H → BindsTo s fd args ([Str.ofString "e"].zip us) → Vals [V.ref p.1] us → Same F H → PostC K F H Q E (.rt (sD l)) →
    codeAny (model P w) A (.call (.ref f) args) (CR (L2.CX P w) outer P w H s Q E) s
theorem fn_ofK {P : Program} {w : World} {K : PySem.W.Frag} {mg : Str → Option Value} {base : Heap} {k : Nat} {D f : Addr} {l : List Nat} {name qual : Str} {params : Arguments} {body : List Stmt} {scope : Scope} {dV kV doc pm cdv ct oc : Value} {an od : Option Addr}
    {osl : Array (Option Value)} (lk : K.lookup f = some ⟨oc, od, .func (PySem.W.fnOf name qual params body scope dV kV doc pm an cdv ct), osl⟩) (hcd : PySem.W.codeIn K cdv qual = true) (S : FnScope ["e", "kinds"] ["e"] scope)
    (hbody : ∀ (X : Cx) (p : Addr × Obj), X.prog = P → X.w = w → X.K = K → X.mg = mg → X.base = base → Wh0 X ["e", "kinds"] scope → (∀ x, X.fn x = true) → p ∈ X.pn → Zc (.ref D) none p.2 → (∃ vs, p.2.data = .fields vs) → RunB X (fun _ _ _ _ => False) body [.rf p.1, .no] (.rt (sD l))) :
    FnK P w K mg base (k + 1) f (PySem.W.fnOf name qual params body scope dV kV doc pm an cdv ct) D l := by
  refine ⟨fun A outer s H F args us Q E p hr hpin hz hf e0 hb r sf post => ?_⟩
  have hl : ([V.ref p.1] : List V).length = (["e"] : List Str).length := rfl
  have KX : K.In s.heap := e0.mod.kin.keeps fun b o e => (e0.bs b o e).1
  have lim : s.heap.NoLimit := e0.mod.nolimit.keeps fun b o e => (e0.bs b o e).1
  have hkind : ∀ y ∈ (["e"] : List Str).zip us, scope.names.lookup y.1 = some .local ∨ (scope.names.lookup y.1 = some .cell ∧ ((cellsFrom (s.heap.objs.size + 1) scope.names []).lookup y.1).isSome = true) := fun ⟨n, v⟩ hy => by
    rcases S.par n (List.of_mem_zip hy).1 with q | q
    · exact .inl q
    · exact .inr ⟨q, PySem.W.cellsFrom_some _ _ _ (.inl q)⟩
  refine codeAny_call_function hr.depth (KX _ _ lk) rfl S.co S.gen rfl (PySem.W.codeRec_of KX hcd) (hb _ _ _ _ ?_)
  refine wpAny_newFunctionEnv_cells S.kind hkind fun env he s1 x => ?_
  subst he
  refine ⟨lim.keeps x.toInCall.keep, codeAny_func ?_⟩
  have I : Inv (L2H.cxH (L2.CX P w) P w K mg base ["e", "kinds"] qual scope f cdv A outer s H E p) [] (L2.start ["e", "kinds"] [V.ref p.1]) H s1 := L2H.inv_startH S hpin e0 hl r x
  have R := hbody (L2H.cxH (L2.CX P w) P w K mg base ["e", "kinds"] qual scope f cdv A outer s H E p) p rfl rfl rfl rfl rfl ⟨rfl, S.nd, rfl, S.kind⟩ (fun _ => rfl) (List.mem_singleton.mpr rfl) hz hf
  have st : StR K F H F H (L2.start ["e", "kinds"] [V.ref p.1]) [.rf p.1, .no] := by
    refine ⟨.refl sf, rfl, fun i t e => ?_, fun i j a ⟨t, e, mt⟩ _ _ _ => ?_⟩
    · match i, e with
      | 0, e => cases e; rfl
      | 1, e => cases e; trivial
    · match i, e with
      | 0, e => cases e; cases mt
      | 1, e => cases e; cases mt
  have RB := R F H F H _ { nx := fun _ H' => Q .non H', rt := Q } st post
  refine wpAny_mono (RB [] s1 I) (fun fl s' hs => ?_) fun e s' hs => hs
  have fin : ∀ {σ' : L2.St} {H' : Hp} {v : V} {u : Value}, Inv (L2H.cxH (L2.CX P w) P w K mg base ["e", "kinds"] qual scope f cdv A outer s H E p) [] σ' H' s' → RelV v u → Q v H' → CE outer P w H s Q u s' :=
    fun {σ' H' v u} J rv q => ⟨v, H', J.os, J.bare, J.base, J.hok, rv, q⟩
  cases fl with
  | ret u =>
    obtain ⟨v, σ', H', J, rv, q⟩ := hs
    exact fin J rv q
  | next =>
    obtain ⟨σ', H', J, q⟩ := hs
    exact fin (v := V.non) (u := Value.none) J rfl q
  | brk =>
    obtain ⟨_, _, _, q⟩ := hs
    exact False.elim q
  | cont =>
    obtain ⟨_, _, _, q⟩ := hs
    exact False.elim q
def KndG (P : Program) (w : World) (K : PySem.W.Frag) (mg : Str → Option Value) (base : Heap) (k : Nat) (D : Addr) (l : List Nat) : Prop :=
  ∃ f fd, FnK P w K mg base k f fd D l ∧ mg "_law_kind" = some (.ref f) ∧ PySem.W.keepIn K (.ref f) = true ∧ Binds K fd ["e"] []
theorem WhS.roomS {X : Cx} {N : List Str} {sc : Scope} {k : Nat} (A : WhS X N sc k) {a : Addr} {pn : List (Addr × Obj)} : L2H.RoomH k (X.suite a pn).A := ⟨A.room.dp, A.room.un⟩
/-- .. called in the suite -/
theorem ev_kind {X : Cx} {N : List Str} {sc : Scope} {k kf i : Nat} {D : Addr} {l : List Nat} {x : Str} {ds : Sls} {q : Addr × Obj} {p p1 pos : Pos} (A : Wh0 X N sc) (hr : L2H.RoomH k X.A) (G : KndG X.prog X.w X.K X.mg X.base kf D l) (hk : kf ≤ k) (hq : q ∈ X.pn) (hz : Zc (.ref D) none q.2) (hf : ∃ vs, q.2.data = .fields vs)
    (hi : N[i]? = some x) (hv : Vis sc x) (h : ds[i]? = some (.rf q.1)) (hg : GlS sc "_law_kind") (hd : (x == ("__debug__" : Str)) = false := by decide) (hcd : (x == ("__classdict__" : Str)) = false := by decide)
    (he : starEach (.Name x p1 :: []) X.env = (false, eval (.Name x p1) X.env) :: starEach [] X.env := by rfl) (hpl : (backTo pos (starEach [] X.env)).any (·.1) = false := by rfl) :
    EvE X (.Call (.Name "_law_kind" p) [.Name x p1] [] pos) ds (sD l) := fun F0 H0 F H σ st Q w pins s I => by
  obtain ⟨f, fd, F1, hm, hkp, hb⟩ := G
  have e1 := st.at_ i _ h
  refine wpAny_Call_Name_kw (ld_glob I (A.gl hg) hm ?_ (by decide))
  have ha : PA X [.Name x p1] (tCons (tVar i) tNil) := pa_cons (pe_var (i := i) (by rw [A.hN]; exact hi) (by rw [A.hsc]; exact hv) hd hcd) pa_nil he
  refine PySem.W.callWith_K (h₀ := X.base) I.ok.mod.kin hkp (thn (ha.run pos pins s σ H (fun vs H1 => vs = [V.ref q.1] ∧ H = H1) I ⟨_, e1, rfl, rfl⟩) fun us s1 hh => ?_) he hpl
  obtain ⟨vs, H1, I1, r1, ev, eH⟩ := hh
  subst ev
  subst eH
  refine ⟨I1.kIn, ?_⟩
  have b := hb s1 us I1.kIn (by rw [List.append_nil, ← r1.length]; rfl)
  rw [List.append_nil] at b
  have P1 := I1.pin q (List.mem_append_left _ hq)
  have hpin : L2H.PinOk X.stack H s1 q := ⟨P1.1, P1.2.1, fun hm => (List.mem_cons.mp (I1.stkSub q.1 hm)).elim P1.2.2.1 P1.2.2.2.1, P1.2.2.2.2⟩
  refine wpAny_call (codeAny_mono (F1.run X.A X.stack s1 H F ⟨us, []⟩ us Q (fun _ _ _ => False) q ⟨Nat.lt_of_le_of_lt (by omega) hr.dp, Nat.lt_of_le_of_lt (by omega) hr.un⟩ hpin hz hf I1.env0 b r1 st.fh (fun v F' H' x r => w v F' H' x r)) fun r s' hq => ?_)
  cases r with
  | error e =>
    obtain ⟨_, _, _, _, _, _, _, _, _, _, _, _, z⟩ := hq
    exact z.elim
  | ok fl =>
    cases fl with
    | ret u => exact I1.after hq
    | next => exact False.elim hq
    | brk => exact False.elim hq
    | cont => exact False.elim hq
end Vs

/-! Lists of any home put together; a choice of two new lists. -/
namespace Vs
open PySem PySem.Spec PyProof.Rows L2
def rCatL (K : PySem.W.Frag) : R2 := fun x y H Q => ∃ (l b : Addr) (xs zs : List V), x = .ref l ∧ y = .ref b ∧ SqL K H l xs ∧ SqL K H b zs ∧ xs.length + zs.length ≤ sizeLine ∧ ∀ p, H p = none → Q (.ref p) (upd H p (.lst (xs ++ zs)))
theorem op_catL {X : Cx} : OpR X (binaryOp .Add) (rCatL X.K) := by
  intro pins s σ H x y v u Q I rx ry h
  obtain ⟨l, b, xs, zs, rfl, rfl, hH, hB, hz, q⟩ := h
  cases rx
  cases ry
  obtain ⟨its, r1, pl1, z1⟩ := I.list hH
  obtain ⟨its2, r2, pl2, z2⟩ := I.list hB
  obtain ⟨⟨cls, dd, data, sl⟩, ho, hc, n, hd⟩ := id pl1.isList
  obtain ⟨⟨cls2, dd2, data2, sl2⟩, ho2, hc2, n2, hd2⟩ := id pl2.isList
  simp only at hc hd hc2 hd2
  subst hc hd hc2 hd2
  have ea : its.toArray ++ its2.toArray = (its ++ its2).toArray := by simp
  have g1 := r1.length
  have g2 := r2.length
  refine concat_meets ⟨_, ho, rfl⟩ ⟨_, ho2, rfl⟩ noFill_list_add seq_list_add PySem.F.slot_list_add PySem.F.entry_list_add (PySem.F.args_list_add_2 _ _) (list_addW l b its.toArray its2.toArray n n2 dd dd2 sl sl2 (by rw [List.size_toArray, List.size_toArray]; omega)) ⟨ho, ho2, ?_⟩
  rw [ea]
  exact ⟨.ref _, _, I.lnew (t' := s.toks) (r1.append r2) (by rw [List.length_append]; omega), rfl, q _ I.fresh⟩
section
variable {X : Cx} {ds : Sls} {xs ys : List D} {e a b c : Expr} {pos : Pos} {t1 : Bool} {α : Type} {enc : α → D} {ts t2 : List α}
theorem evn_catV (ha : EvE X a ds (.list xs)) (hb : EvE X b ds (.list ys)) (hl : xs.length + ys.length ≤ sizeLine) : EvN X (.BinOp a .Add b pos) ds (xs ++ ys) := fun F0 H0 F H σ s Q q =>
  toE (pe_op op_catL wpE_pe wpE_pe) (ev2 ha hb s fun v1 v2 F' H' x r1 r2 => by
    obtain ⟨p, vs, rfl, h1, n1⟩ := rp_lst.mp r1
    obtain ⟨p', ws, rfl, h2, n2⟩ := rp_lst.mp r2
    exact ⟨p, p', vs, ws, rfl, rfl, x.fh.seq h1, x.fh.seq h2, by rw [dpAll_len n1, dpAll_len n2]; exact hl, fun l hl => q l _ F' _ (x.trans (.newO x.fh hl)) (x.h.free hl) (x.fh.free hl) upd_same (dpAll_append n1 n2)⟩)
theorem evn_catVM (ha : EvE X a ds (.list (ts.map enc))) (hb : EvE X b ds (.list (t2.map enc))) (hl : ts.length + t2.length ≤ sizeLine) : EvN X (.BinOp a .Add b pos) ds ((ts ++ t2).map enc) := (evn_catV ha hb (by rw [List.length_map, List.length_map]; exact hl)).cast (by rw [List.map_append])
theorem evn_ifT (hc : EvT X c ds t1) (e : t1 = true) (ha : EvN X a ds xs) : EvN X (.IfExp c a b pos) ds xs := fun F0 H0 F H σ s Q q =>
  toE (pe_ifExp wpT_pt wpE_pe wpE_pe) (hc F0 H0 F H σ s _ fun F' H' x => by
    rw [if_pos e]; exact ha F0 H0 F' H' σ (s.to x) Q fun p vs F2 H2 x2 n1 n2 n3 n4 => q p vs F2 H2 (x.trans x2) (x.h.free n1) n2 n3 n4)
theorem evn_ifF (hc : EvT X c ds t1) (e : t1 = false) (hb : EvN X b ds xs) : EvN X (.IfExp c a b pos) ds xs := fun F0 H0 F H σ s Q q =>
  toE (pe_ifExp wpT_pt wpE_pe wpE_pe) (hc F0 H0 F H σ s _ fun F' H' x => by
    rw [if_neg (by rw [e]; decide)]; exact hb F0 H0 F' H' σ (s.to x) Q fun p vs F2 H2 x2 n1 n2 n3 n4 => q p vs F2 H2 (x.trans x2) (x.h.free n1) n2 n3 n4)
end
end Vs

/-! What the defs compute, in plain lists and ints; no program in sight. -/
namespace Vs
open PySem PySem.Spec L2
theorem szL : 1000000 ≤ sizeLine := by rw [sizeLine_eq]; decide
abbrev abcd : List Nat := [97, 98, 99, 100]
theorem one_infix {c : Nat} {l : List Nat} : [c] <:+: l ↔ c ∈ l := by
  constructor
  · rintro ⟨s, t, rfl⟩; simp
  · intro h
    obtain ⟨s, t, rfl⟩ := List.append_of_mem h
    exact ⟨s, t, by simp⟩
theorem cut_to {α : Type} (l : List α) {i : Int} (h : 0 ≤ i) : cutL l none (some i) = l.take i.toNat := by
  obtain ⟨k, rfl⟩ := Int.eq_ofNat_of_zero_le h
  exact cutL_to l k
theorem cut_from {α : Type} (l : List α) {i : Int} (h : 0 ≤ i) : cutL l (some i) none = l.drop i.toNat := by
  obtain ⟨k, rfl⟩ := Int.eq_ofNat_of_zero_le h
  exact cutL_from l k
theorem getD_mem {α : Type} {l : List α} {i : Nat} {z : α} (h : i < l.length) : l.getD i z ∈ l := by
  rw [List.getD_eq_getElem?_getD, List.getElem?_eq_getElem h]
  exact List.getElem_mem h
theorem getD_lt {α : Type} {l : List α} {i : Nat} {z : α} (h : i < l.length) : l.getD i z = l[i] := by
  rw [List.getD_eq_getElem?_getD, List.getElem?_eq_getElem h]; rfl

theorem fm_nil {α β : Type} (acc : List β) (p : α → Bool) (f : α → β) : acc ++ (([] : List α).filter p).map f = acc := List.append_nil _
theorem fm_pos {α β : Type} (acc : List β) {p : α → Bool} (f : α → β) {a : α} (l : List α) (h : p a = true) : acc ++ ((a :: l).filter p).map f = (acc ++ [f a]) ++ (l.filter p).map f := by
  rw [List.filter_cons_of_pos h, List.map_cons, List.append_assoc]; rfl
theorem fm_neg {α β : Type} (acc : List β) {p : α → Bool} (f : α → β) {a : α} (l : List α) (h : p a = false) : acc ++ ((a :: l).filter p).map f = acc ++ (l.filter p).map f := by
  rw [List.filter_cons_of_neg (by rw [h]; decide)]
/-! ### the program's asking -/
def okDie (die : List Int) : Prop := 2 ≤ die.length ∧ die.length ≤ 4 ∧ ∀ w ∈ die, 1 ≤ w ∧ w ≤ 9
abbrev sgn (n : Nat) : List Nat := abcd.take n
def okText (n : Nat) (t : List Nat) : Prop := ∀ c ∈ t, c ∈ sgn n
def okWord (n : Nat) (w : List Nat) : Prop := 1 ≤ w.length ∧ w.length ≤ 6 ∧ okText n w
/-- no word within another one -/
def apart (ws : List (List Nat)) : Prop := ∀ i j, i < ws.length → j < ws.length → j ≠ i → ¬ ws.getD i [] <:+: ws.getD j []
def okRace (die : List Int) (ws : List (List Nat)) : Prop := okDie die ∧ (∀ w ∈ ws, okWord die.length w) ∧ 1 ≤ ws.length ∧ ws.length ≤ 4 ∧ apart ws
def okRow (n : Nat) (t : List Nat) : Prop := t.length ≤ 60 ∧ okText n t
abbrev S_ask_die (ds : List D) (r : Out) : Prop := ∃ die, ds = [nums die] ∧ okDie die ∧ r = .rt .none
theorem S_ask_die_len {ds : List D} {r : Out} (h : S_ask_die ds r) : ds.length = 1 := by obtain ⟨_, rfl, _⟩ := h; rfl
def thrownB (n : Nat) (t : List Nat) : Bool := t.all fun c => decide ([c] <:+: cutL abcd none (some (n : Int)))
theorem thrownB_ok {n : Nat} {t : List Nat} (h : okText n t) : thrownB n t = true := by
  unfold thrownB
  rw [List.all_eq_true]
  intro c hc
  rw [decide_eq_true_eq, cutL_to, one_infix]
  exact h c hc
abbrev S_is_thrown (ds : List D) (r : Out) : Prop := ∃ (die : List Int) (t : List Nat), ds = [nums die, sD t] ∧ r = .rt (bD (thrownB die.length t))
theorem S_is_thrown_len {ds : List D} {r : Out} (h : S_is_thrown ds r) : ds.length = 2 := by obtain ⟨_, _, rfl, _⟩ := h; rfl
abbrev S_ask_word (ds : List D) (r : Out) : Prop := ∃ (die : List Int) (t : List Nat), ds = [nums die, sD t] ∧ okWord die.length t ∧ r = .rt .none
theorem S_ask_word_len {ds : List D} {r : Out} (h : S_ask_word ds r) : ds.length = 2 := by obtain ⟨_, _, rfl, _⟩ := h; rfl
abbrev S_ask_race (ds : List D) (r : Out) : Prop := ∃ (die : List Int) (ws : List (List Nat)), ds = [nums die, txts ws] ∧ okRace die ws ∧ r = .rt .none
theorem S_ask_race_len {ds : List D} {r : Out} (h : S_ask_race ds r) : ds.length = 2 := by obtain ⟨_, _, rfl, _⟩ := h; rfl
abbrev S_ask_row (ds : List D) (r : Out) : Prop := ∃ (die : List Int) (t : List Nat), ds = [nums die, sD t] ∧ okRow die.length t ∧ r = .rt .none
theorem S_ask_row_len {ds : List D} {r : Out} (h : S_ask_row ds r) : ds.length = 2 := by obtain ⟨_, _, rfl, _⟩ := h; rfl
theorem okWord.lt {n : Nat} {w : List Nat} (h : okWord n w) : w.length ≤ 6 := h.2.1
/-! ### overlaps -/
def overlapsOf (a b : List Nat) : List Int := ((List.range ((min (a.length : Int) b.length + 1) - 1).toNat).filter fun (k : Nat) => decide (cutL a (some ((a.length : Int) - (1 + (k : Int)))) none = cutL b none (some (1 + (k : Int))))).map fun (k : Nat) => 1 + (k : Int)
abbrev S_overlaps_of (ds : List D) (r : Out) : Prop := ∃ (a b : List Nat), ds = [sD a, sD b] ∧ a.length ≤ 1000 ∧ b.length ≤ 1000 ∧ r = .rn ((overlapsOf a b).map iD)
theorem S_overlaps_of_len {ds : List D} {r : Out} (h : S_overlaps_of ds r) : ds.length = 2 := by obtain ⟨_, _, rfl, _⟩ := h; rfl
abbrev S_overlaps (ds : List D) (r : Out) : Prop := ∃ (die : List Int) (a b : List Nat), ds = [nums die, sD a, sD b] ∧ okDie die ∧ okWord die.length a ∧ okWord die.length b ∧ r = .rn ((overlapsOf a b).map iD)
theorem S_overlaps_len {ds : List D} {r : Out} (h : S_overlaps ds r) : ds.length = 3 := by obtain ⟨_, _, _, rfl, _⟩ := h; rfl

/-! ### the laws' inputs -/
def cellAt (ns : List Int) (k : Int) : Int := if k < ns.length then ns.getD k.toNat 0 else 0
abbrev S__law_cell_at (ds : List D) (r : Out) : Prop := ∃ (ns : List Int) (k : Int), ds = [nums ns, iD k] ∧ 0 ≤ k ∧ r = .rt (iD (cellAt ns k))
theorem S__law_cell_at_len {ds : List D} {r : Out} (h : S__law_cell_at ds r) : ds.length = 2 := by obtain ⟨_, _, rfl, _⟩ := h; rfl
abbrev S__law_whole (ds : List D) (r : Out) : Prop := ∃ i : Int, ds = [iD i] ∧ r = .rt (bD true)
theorem S__law_whole_len {ds : List D} {r : Out} (h : S__law_whole ds r) : ds.length = 1 := by obtain ⟨_, rfl, _⟩ := h; rfl
def nextI (s : Int) : Int := ((s + 7919) % 2147483647 * ((s + 7919) % 2147483647) + 48271 * ((s + 7919) % 2147483647) + 12345) % 2147483629
abbrev S__law_next (ds : List D) (r : Out) : Prop := ∃ s : Int, ds = [iD s] ∧ r = .rt (iD (nextI s))
theorem S__law_next_len {ds : List D} {r : Out} (h : S__law_next ds r) : ds.length = 1 := by obtain ⟨_, rfl, _⟩ := h; rfl
theorem nextI_nn (s : Int) : 0 ≤ nextI s := Int.emod_nonneg _ (by decide)
theorem nextI_lt (s : Int) : nextI s < 2147483629 := Int.emod_lt_of_pos _ (by decide)
def dieL (c : Int) : List Int := if c / 3 % 3 = 0 then (List.range (2 + c % 3).toNat).map fun _ => 1 else (List.range (2 + c % 3).toNat).map fun (k : Nat) => 1 + nextI (c / 9 + 31 * (k : Int)) / 7 % 9
abbrev S__law_die (ds : List D) (r : Out) : Prop := ∃ c : Int, ds = [iD c] ∧ r = .rn ((dieL c).map iD)
theorem S__law_die_len {ds : List D} {r : Out} (h : S__law_die ds r) : ds.length = 1 := by obtain ⟨_, rfl, _⟩ := h; rfl
theorem dieL_len (c : Int) : ((dieL c).length : Int) = 2 + c % 3 := by
  have h0 : 0 ≤ c % 3 := Int.emod_nonneg _ (by decide)
  unfold dieL
  split <;> rw [List.length_map, List.length_range] <;> omega
theorem dieL_ok (c : Int) : okDie (dieL c) := by
  have h := dieL_len c
  have h0 : 0 ≤ c % 3 := Int.emod_nonneg _ (by decide)
  have h1 : c % 3 < 3 := Int.emod_lt_of_pos _ (by decide)
  refine ⟨by omega, by omega, fun w hw => ?_⟩
  unfold dieL at hw
  split at hw
  · obtain ⟨k, _, rfl⟩ := List.mem_map.mp hw
    omega
  · obtain ⟨k, _, rfl⟩ := List.mem_map.mp hw
    omega
def thrownStep (sg : Int) (p : List Nat × Int) (k : Nat) : List Nat × Int := (p.1 ++ [abcd.getD (p.2 / 7 % sg).toNat 0], nextI (p.2 + (k : Int)))
def thrownL (c : Int) (n : Nat) (sg : Int) : List Nat := ((List.range n).foldl (thrownStep sg) ([], nextI c)).1
abbrev S__law_thrown (ds : List D) (r : Out) : Prop := ∃ (c m sg : Int), ds = [iD c, iD m, iD sg] ∧ 0 ≤ m ∧ m ≤ 1000 ∧ 1 ≤ sg ∧ sg ≤ 4 ∧ r = .rt (sD (thrownL c m.toNat sg))
theorem S__law_thrown_len {ds : List D} {r : Out} (h : S__law_thrown ds r) : ds.length = 3 := by obtain ⟨_, _, _, rfl, _⟩ := h; rfl
theorem foldl_inv {α β : Type} (P : β → Prop) (f : β → α → β) : ∀ (l : List α) (b : β), P b → (∀ b a, a ∈ l → P b → P (f b a)) → P (l.foldl f b)
  | [], b, h, _ => h
  | a :: l, b, h, s => foldl_inv P f l (f b a) (s b a List.mem_cons_self h) fun b' a' m p => s b' a' (List.mem_cons_of_mem _ m) p
theorem thrown_fold (sg : Int) : ∀ (l : List Nat) (t : List Nat) (s : Int), (l.foldl (thrownStep sg) (t, s)).1.length = t.length + l.length
  | [], t, s => rfl
  | a :: l, t, s => by
    rw [List.foldl_cons]
    show (l.foldl (thrownStep sg) (_, _)).1.length = _
    rw [thrown_fold sg l, List.length_append, List.length_cons]
    simp only [List.length_cons, List.length_nil]
    omega
theorem thrownL_len (c : Int) (n : Nat) (sg : Int) : (thrownL c n sg).length = n := by
  unfold thrownL
  rw [thrown_fold, List.length_range, List.length_nil, Nat.zero_add]
theorem abcd_sgn {i n : Nat} (h : i < n) (hn : n ≤ 4) : abcd.getD i 0 ∈ sgn n := by
  have : abcd.getD i 0 = (sgn n).getD i 0 := by
    rw [List.getD_eq_getElem?_getD, List.getD_eq_getElem?_getD, List.getElem?_take_of_lt h]
  rw [this]
  exact getD_mem (by rw [List.length_take]; simp only [List.length_cons, List.length_nil]; omega)
theorem thrownL_ok (c : Int) (n : Nat) (m : Nat) (h1 : 1 ≤ m) (h4 : m ≤ 4) : okText m (thrownL c n m) := by
  unfold thrownL
  refine foldl_inv (fun p : List Nat × Int => okText m p.1) _ _ _ (fun _ h => nomatch h) fun p k _ ih => ?_
  intro x hx
  rcases List.mem_append.mp hx with h | h
  · exact ih x h
  · rw [List.mem_singleton.mp h]
    have h0 : 0 ≤ p.2 / 7 % (m : Int) := Int.emod_nonneg _ (by omega)
    have h2 : p.2 / 7 % (m : Int) < m := Int.emod_lt_of_pos _ (by omega)
    exact abcd_sgn (by omega) h4
def wordL (c sg : Int) : List Nat := if c / 6 % 4 = 0 then cutL (List.replicate 6 (cutL (thrownL (c / 8) (1 + c % 6).toNat sg) none (some (1 + c / 24 % 2)))).flatten none (some ((thrownL (c / 8) (1 + c % 6).toNat sg).length : Int)) else thrownL (c / 8) (1 + c % 6).toNat sg
abbrev S__law_word (ds : List D) (r : Out) : Prop := ∃ (c sg : Int), ds = [iD c, iD sg] ∧ 1 ≤ sg ∧ sg ≤ 4 ∧ r = .rt (sD (wordL c sg))
theorem S__law_word_len {ds : List D} {r : Out} (h : S__law_word ds r) : ds.length = 2 := by obtain ⟨_, _, rfl, _⟩ := h; rfl
theorem okText.sub {n : Nat} {t u : List Nat} (h : okText n t) (s : ∀ c ∈ u, c ∈ t) : okText n u := fun c hc => h c (s c hc)
theorem wordL_ok (c : Int) (m : Nat) (h1 : 1 ≤ m) (h4 : m ≤ 4) : okWord m (wordL c m) := by
  have h0 : 0 ≤ c % 6 := Int.emod_nonneg _ (by decide)
  have h6 : c % 6 < 6 := Int.emod_lt_of_pos _ (by decide)
  have ok := thrownL_ok (c / 8) (1 + c % 6).toNat m h1 h4
  have len := thrownL_len (c / 8) (1 + c % 6).toNat m
  unfold wordL
  split
  · generalize thrownL (c / 8) (1 + c % 6).toNat m = w at *
    have k0 : 0 ≤ c / 24 % 2 := Int.emod_nonneg _ (by decide)
    have k2 : c / 24 % 2 < 2 := Int.emod_lt_of_pos _ (by decide)
    rw [cut_to _ (by omega), cut_to _ (by omega), Int.toNat_natCast]
    have lw : 1 ≤ w.length ∧ w.length ≤ 6 := by omega
    have hl : 6 ≤ (List.replicate 6 (w.take (1 + c / 24 % 2).toNat)).flatten.length := by
      rw [List.length_flatten, List.map_replicate, List.sum_replicate_nat, List.length_take]
      have : 1 ≤ min (1 + c / 24 % 2).toNat w.length := by omega
      omega
    refine ⟨by rw [List.length_take]; omega, by rw [List.length_take]; omega, ok.sub fun x hx => ?_⟩
    obtain ⟨p, hp, hx⟩ := List.mem_flatten.mp (List.mem_of_mem_take hx)
    rw [List.eq_of_mem_replicate hp] at hx
    exact List.mem_of_mem_take hx
  · exact ⟨by omega, by omega, ok⟩
/-! ### the laws' own overlaps -/
def lawOvT (a b : List Nat) (k : Nat) : Bool := decide (1 + (k : Int) ≤ b.length) && decide (cutL b none (some (1 + (k : Int))) <:+ a)
def lawOverlaps (a b : List Nat) : List Int := ((List.range ((a.length : Int) + 1 - 1).toNat).filter (lawOvT a b)).map fun (k : Nat) => 1 + (k : Int)
abbrev S__law_overlaps (ds : List D) (r : Out) : Prop := ∃ (a b : List Nat), ds = [sD a, sD b] ∧ a.length ≤ 1000 ∧ b.length ≤ 1000 ∧ r = .rn ((lawOverlaps a b).map iD)
theorem S__law_overlaps_len {ds : List D} {r : Out} (h : S__law_overlaps ds r) : ds.length = 2 := by obtain ⟨_, _, rfl, _⟩ := h; rfl
theorem filter_range_le {n m : Nat} {p q : Nat → Bool} (h : n ≤ m) (h1 : ∀ k, k < n → p k = q k) (h2 : ∀ k, n ≤ k → k < m → q k = false) : (List.range n).filter p = (List.range m).filter q := by
  obtain ⟨d, rfl⟩ := Nat.exists_eq_add_of_le h
  rw [List.range_add, List.filter_append]
  have e : ((List.range d).map (n + ·)).filter q = [] := by
    rw [List.filter_eq_nil_iff]
    intro k hk
    obtain ⟨j, hj, rfl⟩ := List.mem_map.mp hk
    rw [h2 _ (by omega) (by have := List.mem_range.mp hj; omega)]
    decide
  rw [e, List.append_nil]
  exact List.filter_congr fun k hk => h1 k (List.mem_range.mp hk)
theorem overlaps_eq (a b : List Nat) : overlapsOf a b = lawOverlaps a b := by
  unfold overlapsOf lawOverlaps lawOvT
  congr 1
  refine filter_range_le (by omega) (fun k hk => ?_) fun k h1 h2 => ?_
  · rw [Bool.eq_iff_iff, Bool.and_eq_true, decide_eq_true_eq, decide_eq_true_eq, decide_eq_true_eq]
    rw [cut_from _ (by omega), cut_to _ (by omega)]
    have e : ((a.length : Int) - (1 + (k : Int))).toNat = a.length - (1 + k) := by omega
    have e2 : (1 + (k : Int)).toNat = 1 + k := by omega
    rw [e, e2]
    constructor
    · intro h
      exact ⟨by omega, h ▸ List.drop_suffix _ _⟩
    · rintro ⟨_, h⟩
      have := List.suffix_iff_eq_drop.mp h
      rw [List.length_take] at this
      rw [show min (1 + k) b.length = 1 + k by omega] at this
      exact this.symm
  · rw [decide_eq_false (by omega), Bool.false_and]
theorem overlaps_range {a b : List Nat} {k : Int} (h : k ∈ overlapsOf a b) : 1 ≤ k ∧ k ≤ a.length ∧ k ≤ b.length := by
  obtain ⟨j, hj, rfl⟩ := List.mem_map.mp h
  have := List.mem_range.mp (List.mem_filter.mp hj).1
  omega
theorem overlaps_len (a b : List Nat) : (overlapsOf a b).length ≤ a.length := by
  unfold overlapsOf
  rw [List.length_map]
  refine Nat.le_trans (List.length_filter_le _ _) ?_
  rw [List.length_range]
  omega
/-! ### lists alike -/
abbrev S__law_alike (ds : List D) (r : Out) : Prop := ∃ (a b : List Int), ds = [nums a, nums b] ∧ b.length ≤ 1000000 ∧ r = .rt (bD (decide (a = b)))
theorem S__law_alike_len {ds : List D} {r : Out} (h : S__law_alike ds r) : ds.length = 2 := by obtain ⟨_, _, rfl, _⟩ := h; rfl
theorem alike_iff {a b : List Int} (h : a.length = b.length) : ((List.range b.length).all fun k => decide (a.getD k 0 = b.getD k 0)) = decide (a = b) := by
  rw [Bool.eq_iff_iff, List.all_eq_true, decide_eq_true_eq]
  constructor
  · intro q
    refine List.ext_getElem h fun i h1 h2 => ?_
    have := q i (List.mem_range.mpr h2)
    rw [decide_eq_true_eq, getD_lt h1, getD_lt h2] at this
    exact this
  · rintro rfl k _
    exact decide_eq_true rfl
/-! ### the law's own -/
abbrev S_law (ds : List D) (r : Out) : Prop := ∃ ns : List Int, ds = [nums ns] ∧ ns.length ≤ 63 ∧ r = .rt (bD true)
theorem S_law_len {ds : List D} {r : Out} (h : S_law ds r) : ds.length = 1 := by obtain ⟨_, rfl, _⟩ := h; rfl
theorem hsp_law {K : PySem.W.Frag} {H : Hp} {a : Addr} {ns : List Int} {E : XK} (hl : ns.length ≤ 63) (hS : SqL K H a (ns.map V.int)) : spD K S_law [.ref a] H (fun v _ => v = .bl true) E :=
  ⟨H, [nums ns], .rt (bD true), Same.refl _, .cons (rp_lst.mpr ⟨a, _, rfl, hS, ints_dpAll ns⟩) .nil, ⟨ns, rfl, hl, rfl⟩, fun _ _ _ _ r => rp_bl.mp r⟩
theorem hcx_law {P : Program} {w : World} {H : Hp} {s : Shared} {e : Value} {s' : Shared} (h : L2.CX P w [] H s (fun _ _ _ => False) e s') : False := by
  obtain ⟨_, _, _, _, _, _, _, _, _, _, _, _, z⟩ := h
  exact z.elim
end Vs

/-! What the defs compute, second part: races, rows, states. -/
namespace Vs
open PySem PySem.Spec L2
theorem sgn_low {n c : Nat} (h : c ∈ sgn n) : c < 1114112 := by
  have := List.mem_of_mem_take h
  simp only [List.mem_cons, List.not_mem_nil, or_false] at this
  omega
theorem okText.low {n : Nat} {t : List Nat} (h : okText n t) : low t := fun c hc => sgn_low (h c hc)
/-! ### words -/
def clash (w one : List Nat) : Bool := decide (w <:+: one) || decide (one <:+: w)
def wordsStep (ns : List Int) (at_ sg : Int) (ws : List (List Nat)) (k : Nat) : List (List Nat) :=
  if ((ws.map (clash (wordL (cellAt ns (at_ + 1 + (k : Int)) % 1000003 + 7 * (k : Int)) sg))).any fun t => t) = true then ws else ws ++ [wordL (cellAt ns (at_ + 1 + (k : Int)) % 1000003 + 7 * (k : Int)) sg]
def wordsL (ns : List Int) (at_ sg : Int) : List (List Nat) := (List.range (1 + cellAt ns at_ % 4).toNat).foldl (wordsStep ns at_ sg) []
abbrev S__law_words (ds : List D) (r : Out) : Prop := ∃ (ns : List Int) (a sg : Int), ds = [nums ns, iD a, iD sg] ∧ 0 ≤ a ∧ 1 ≤ sg ∧ sg ≤ 4 ∧ r = .rn ((wordsL ns a sg).map sD)
theorem S__law_words_len {ds : List D} {r : Out} (h : S__law_words ds r) : ds.length = 3 := by obtain ⟨_, _, _, rfl, _⟩ := h; rfl
def apartP (ws : List (List Nat)) : Prop := ws.Pairwise fun a b => ¬ a <:+: b ∧ ¬ b <:+: a
theorem apart_of {ws : List (List Nat)} (h : apartP ws) : apart ws := by
  intro i j hi hj ne
  rw [getD_lt hi, getD_lt hj]
  have q := List.pairwise_iff_getElem.mp h
  by_cases hij : i < j
  · exact (q i j hi hj hij).1
  · exact (q j i hj hi (by omega)).2
theorem clash_none {ws : List (List Nat)} {w : List Nat} (h : ¬ ((ws.map (clash w)).any fun t => t) = true) : ∀ one ∈ ws, ¬ w <:+: one ∧ ¬ one <:+: w := fun one m => by
  have q : clash w one = false := by
    cases q : clash w one with
    | false => rfl
    | true => exact absurd (List.any_eq_true.mpr ⟨true, List.mem_map.mpr ⟨one, m, q⟩, rfl⟩) h
  unfold clash at q
  rw [Bool.or_eq_false_iff, decide_eq_false_iff_not, decide_eq_false_iff_not] at q
  exact q
theorem apartP_snoc {ws : List (List Nat)} {w : List Nat} (h : apartP ws) (q : ∀ one ∈ ws, ¬ w <:+: one ∧ ¬ one <:+: w) : apartP (ws ++ [w]) := by
  unfold apartP
  rw [List.pairwise_append]
  refine ⟨h, List.pairwise_singleton _ _, fun a ha b hb => ?_⟩
  rw [List.mem_singleton.mp hb]
  exact ⟨(q a ha).2, (q a ha).1⟩
theorem words_fold_len (ns : List Int) (a sg : Int) : ∀ (l : List Nat) (ws : List (List Nat)), ws.length ≤ (l.foldl (wordsStep ns a sg) ws).length ∧ (l.foldl (wordsStep ns a sg) ws).length ≤ ws.length + l.length
  | [], ws => ⟨Nat.le_refl _, Nat.le_refl _⟩
  | k :: l, ws => by
    rw [List.foldl_cons, List.length_cons]
    have ih := words_fold_len ns a sg l (wordsStep ns a sg ws k)
    have : ws.length ≤ (wordsStep ns a sg ws k).length ∧ (wordsStep ns a sg ws k).length ≤ ws.length + 1 := by
      unfold wordsStep
      split
      · omega
      · rw [List.length_append, List.length_singleton]; omega
    omega
theorem wordsL_len (ns : List Int) (a sg : Int) : 1 ≤ (wordsL ns a sg).length ∧ (wordsL ns a sg).length ≤ 4 := by
  have h0 : 0 ≤ cellAt ns a % 4 := Int.emod_nonneg _ (by decide)
  have h4 : cellAt ns a % 4 < 4 := Int.emod_lt_of_pos _ (by decide)
  unfold wordsL
  obtain ⟨m, hm⟩ : ∃ m, (1 + cellAt ns a % 4).toNat = m + 1 := ⟨(cellAt ns a % 4).toNat, by omega⟩
  rw [hm]
  constructor
  · rw [List.range_succ_eq_map, List.foldl_cons]
    have := (words_fold_len ns a sg ((List.range m).map Nat.succ) (wordsStep ns a sg [] 0)).1
    exact Nat.le_trans (by unfold wordsStep; rw [if_neg (by simp)]; simp) this
  · have := (words_fold_len ns a sg (List.range (m + 1)) []).2
    rw [List.length_nil, List.length_range] at this
    omega
theorem wordsL_ok {die : List Int} (ns : List Int) (a : Int) (hd : okDie die) : okRace die (wordsL ns a die.length) := by
  have key : (∀ w ∈ wordsL ns a die.length, okWord die.length w) ∧ apartP (wordsL ns a die.length) := by
    unfold wordsL
    refine foldl_inv (fun ws : List (List Nat) => (∀ w ∈ ws, okWord die.length w) ∧ apartP ws) _ _ _ ⟨fun _ h => (nomatch h), List.Pairwise.nil⟩ fun ws k _ ih => ?_
    unfold wordsStep
    split
    · exact ih
    · rename_i hc
      refine ⟨fun w hw => ?_, apartP_snoc ih.2 (clash_none hc)⟩
      rcases List.mem_append.mp hw with h | h
      · exact ih.1 w h
      · rw [List.mem_singleton.mp h]
        exact wordL_ok _ die.length (by have := hd.1; omega) hd.2.1
  exact ⟨hd, key.1, (wordsL_len ns a _).1, (wordsL_len ns a _).2, apart_of key.2⟩
theorem okRace.low {die : List Int} {ws : List (List Nat)} (h : okRace die ws) : ∀ w ∈ ws, Vs.low w := fun w hw => (h.2.1 w hw).2.2.low
theorem okRace.six {die : List Int} {ws : List (List Nat)} (h : okRace die ws) : ∀ w ∈ ws, w.length ≤ 6 := fun w hw => (h.2.1 w hw).2.1
theorem okRace.one {die : List Int} {ws : List (List Nat)} (h : okRace die ws) : ∀ w ∈ ws, 1 ≤ w.length := fun w hw => (h.2.1 w hw).1
theorem okRace.four {die : List Int} {ws : List (List Nat)} (h : okRace die ws) : ws.length ≤ 4 := h.2.2.2.1
/-! ### the first word that ends -/
theorem fs_some {α : Type} {f : Nat → Option α} : ∀ {n : Nat} {p : α}, (List.range n).findSome? f = some p → ∃ m, m < n ∧ f m = some p ∧ ∀ j, j < m → f j = none
  | 0, _, h => by simp at h
  | n + 1, p, h => by
    rw [List.range_succ, List.findSome?_append] at h
    cases q : (List.range n).findSome? f with
    | some p' =>
      rw [q] at h
      obtain ⟨m, h1, h2, h3⟩ := fs_some q
      have : p' = p := by simpa using h
      exact ⟨m, by omega, by rw [h2, this], h3⟩
    | none =>
      rw [q] at h
      have h' : f n = some p := by
        have h2 : ([n] : List Nat).findSome? f = some p := h
        rw [List.findSome?_singleton] at h2
        exact h2
      exact ⟨n, by omega, h', fun j hj => List.findSome?_eq_none_iff.mp q j (List.mem_range.mpr hj)⟩
theorem fs_none {α : Type} {f : Nat → Option α} {n : Nat} : (List.range n).findSome? f = none ↔ ∀ m, m < n → f m = none := by
  rw [List.findSome?_eq_none_iff]
  exact ⟨fun h m hm => h m (List.mem_range.mpr hm), fun h m hm => h m (List.mem_range.mp hm)⟩
def endT (ws : List (List Nat)) (t : List Nat) (k : Nat) : Bool := decide (ws.getD k [] <:+ t)
def endAt (ws : List (List Nat)) (t : List Nat) : Option Nat := (List.range ws.length).find? (endT ws t)
def firstStep (ws : List (List Nat)) (row : List Nat) (m : Nat) : Option (Int × Int) := (endAt ws (cutL row none (some (1 + (m : Int))))).map fun (k : Nat) => (1 + (m : Int), (k : Int))
def firstEnd (ws : List (List Nat)) (row : List Nat) : Option (Int × Int) := (List.range ((row.length : Int) + 1 - 1).toNat).findSome? (firstStep ws row)
abbrev S_first_end (ds : List D) (r : Out) : Prop := ∃ (ws : List (List Nat)) (row : List Nat), ds = [txts ws, sD row] ∧ ws.length ≤ 1000 ∧ row.length ≤ 1000 ∧ r = .rt (optD (firstEnd ws row))
theorem S_first_end_len {ds : List D} {r : Out} (h : S_first_end ds r) : ds.length = 2 := by obtain ⟨_, _, rfl, _⟩ := h; rfl
abbrev S_ended (ds : List D) (r : Out) : Prop := ∃ (die : List Int) (ws : List (List Nat)) (row : List Nat), ds = [nums die, txts ws, sD row] ∧ okRace die ws ∧ okRow die.length row ∧ r = .rt (optD (firstEnd ws row))
theorem S_ended_len {ds : List D} {r : Out} (h : S_ended ds r) : ds.length = 3 := by obtain ⟨_, _, _, rfl, _⟩ := h; rfl
def lawEndT (ws : List (List Nat)) (row : List Nat) (n : Int) (k : Nat) : Bool := decide (((ws.getD k []).length : Int) ≤ n) && decide (cutL row (some (n - ((ws.getD k []).length : Int))) (some n) = ws.getD k [])
def lawFirstStep (ws : List (List Nat)) (row : List Nat) (m : Nat) : Option (Int × Int) := ((List.range ws.length).find? (lawEndT ws row (1 + (m : Int)))).map fun (k : Nat) => (1 + (m : Int), (k : Int))
def lawFirst (ws : List (List Nat)) (row : List Nat) : Option (Int × Int) := (List.range ((row.length : Int) + 1 - 1).toNat).findSome? (lawFirstStep ws row)
abbrev S__law_first (ds : List D) (r : Out) : Prop := ∃ (ws : List (List Nat)) (row : List Nat), ds = [txts ws, sD row] ∧ ws.length ≤ 1000 ∧ row.length ≤ 1000 ∧ (∀ w ∈ ws, w.length ≤ 6) ∧ r = .rt (optD (lawFirst ws row))
theorem S__law_first_len {ds : List D} {r : Out} (h : S__law_first ds r) : ds.length = 2 := by obtain ⟨_, _, rfl, _⟩ := h; rfl
theorem find_congr {p q : Nat → Bool} {l : List Nat} (h : ∀ k ∈ l, p k = q k) : l.find? p = l.find? q := by
  induction l with
  | nil => rfl
  | cons a l ih =>
    rw [List.find?_cons, List.find?_cons, h a List.mem_cons_self, ih fun k hk => h k (List.mem_cons_of_mem _ hk)]
theorem findSome_congr {α : Type} {p q : Nat → Option α} {l : List Nat} (h : ∀ k ∈ l, p k = q k) : l.findSome? p = l.findSome? q := by
  induction l with
  | nil => rfl
  | cons a l ih =>
    rw [List.findSome?_cons, List.findSome?_cons, h a List.mem_cons_self, ih fun k hk => h k (List.mem_cons_of_mem _ hk)]
theorem lawFirst_eq (ws : List (List Nat)) (row : List Nat) : lawFirst ws row = firstEnd ws row := by
  unfold lawFirst firstEnd
  refine findSome_congr fun m hm => ?_
  have hm := List.mem_range.mp hm
  unfold lawFirstStep firstStep endAt
  congr 1
  refine find_congr fun k _ => ?_
  unfold lawEndT endT
  generalize ws.getD k [] = w
  have e1 : (1 + (m : Int)) = ((1 + m : Nat) : Int) := by omega
  rw [e1, cutL_to, Bool.eq_iff_iff, Bool.and_eq_true, decide_eq_true_eq, decide_eq_true_eq, decide_eq_true_eq]
  have hl : (row.take (1 + m)).length = 1 + m := by rw [List.length_take]; omega
  constructor
  · rintro ⟨h1, h2⟩
    have e2 : (((1 + m : Nat) : Int) - (w.length : Int)) = ((1 + m - w.length : Nat) : Int) := by omega
    rw [e2, cutL_mid] at h2
    rw [← h2]
    exact List.drop_suffix _ _
  · intro h
    have h1 := h.length_le
    rw [hl] at h1
    have e2 : (((1 + m : Nat) : Int) - (w.length : Int)) = ((1 + m - w.length : Nat) : Int) := by omega
    refine ⟨by omega, ?_⟩
    rw [e2, cutL_mid]
    have := List.suffix_iff_eq_drop.mp h
    rw [hl] at this
    exact this.symm
theorem firstEnd_some {ws : List (List Nat)} {row : List Nat} {p : Int × Int} (h : firstEnd ws row = some p) : ∃ m k : Nat, p = (1 + (m : Int), (k : Int)) ∧ m < row.length ∧ k < ws.length ∧ ∀ j, j < m → firstStep ws row j = none := by
  obtain ⟨m, h1, h2, h3⟩ := fs_some h
  unfold firstStep at h2
  obtain ⟨k, hk, rfl⟩ := Option.map_eq_some_iff.mp h2
  exact ⟨m, k, rfl, by omega, List.mem_range.mp (List.mem_of_find?_eq_some hk), h3⟩
theorem firstEnd_cut {ws : List (List Nat)} {row : List Nat} {p : Int × Int} (h : firstEnd ws row = some p) : firstEnd ws (cutL row none (some (p.1 - 1))) = none := by
  obtain ⟨m, k, rfl, h1, _, h3⟩ := firstEnd_some h
  have e : ((1 + (m : Int), (k : Int)) : Int × Int).1 - 1 = (m : Int) := by show 1 + (m : Int) - 1 = _; omega
  rw [e, cutL_to]
  unfold firstEnd
  rw [fs_none]
  intro j hj
  rw [List.length_take] at hj
  have := h3 j (by omega)
  unfold firstStep at this ⊢
  have e2 : (1 + (j : Int)) = ((1 + j : Nat) : Int) := by omega
  rw [e2, cutL_to] at this ⊢
  rw [List.take_take, show min (1 + j) m = 1 + j by omega]
  exact this
/-! ### beginnings -/
theorem putL_len {α : Type} (kv : List (List Nat × α)) (z : List Nat) (d : α) : (putL kv z d).length ≤ kv.length + 1 := by
  unfold putL
  split
  · rw [List.length_map]; omega
  · rw [List.length_append, List.length_singleton]; omega
theorem putL_keys {α : Type} (kv : List (List Nat × α)) (z : List Nat) (d : α) : (putL kv z d).map (·.1) = if z ∈ kv.map (·.1) then kv.map (·.1) else kv.map (·.1) ++ [z] := by
  unfold putL
  have e : (kv.any fun p => decide (p.1 = z)) = true ↔ z ∈ kv.map (·.1) := by
    rw [List.any_eq_true, List.mem_map]
    constructor
    · rintro ⟨p, h1, h2⟩
      exact ⟨p, h1, of_decide_eq_true h2⟩
    · rintro ⟨p, h1, h2⟩
      exact ⟨p, h1, decide_eq_true h2⟩
  by_cases h : z ∈ kv.map (·.1)
  · rw [if_pos (e.mpr h), if_pos h, List.map_map]
    refine List.map_congr_left fun p _ => ?_
    show (if p.1 = z then (p.1, d) else p).1 = p.1
    split <;> rfl
  · rw [if_neg (fun q => h (e.mp q)), if_neg h, List.map_append]; rfl
theorem putL_mem {α : Type} {kv : List (List Nat × α)} {z : List Nat} {d : α} {t : List Nat} : t ∈ (putL kv z d).map (·.1) ↔ t = z ∨ t ∈ kv.map (·.1) := by
  rw [putL_keys]
  split
  · rename_i h
    constructor
    · exact .inr
    · rintro (rfl | h')
      · exact h
      · exact h'
  · rw [List.mem_append, List.mem_singleton, or_comm]
theorem putL_nodup {α : Type} {kv : List (List Nat × α)} {z : List Nat} {d : α} (h : (kv.map (·.1)).Nodup) : ((putL kv z d).map (·.1)).Nodup := by
  rw [putL_keys]
  split
  · exact h
  · rename_i hz
    rw [List.nodup_append]
    exact ⟨h, (List.pairwise_singleton _ _), fun a ha b hb e => hz (by rw [List.mem_singleton] at hb; rw [← hb, ← e]; exact ha)⟩
def metStep (w : List Nat) (kv : List (List Nat × Bool)) (k : Nat) : List (List Nat × Bool) := putL kv (cutL w none (some (k : Int))) true
def metWord (kv : List (List Nat × Bool)) (w : List Nat) : List (List Nat × Bool) := (List.range ((w.length : Int) + 1).toNat).foldl (metStep w) kv
def metL (ws : List (List Nat)) : List (List Nat × Bool) := ws.foldl metWord []
def beginsL (ws : List (List Nat)) : List (List Nat) := ((((metL ws).map (·.1)).map fun (t : List Nat) => ((t.length : Int), t)).mergeSort leT).map fun (q : Int × List Nat) => q.2
abbrev S_beginnings_of (ds : List D) (r : Out) : Prop := ∃ (ws : List (List Nat)), ds = [txts ws] ∧ ws.length ≤ 4 ∧ (∀ w ∈ ws, w.length ≤ 6) ∧ r = .rn ((beginsL ws).map sD)
theorem S_beginnings_of_len {ds : List D} {r : Out} (h : S_beginnings_of ds r) : ds.length = 1 := by obtain ⟨_, rfl, _⟩ := h; rfl
abbrev S_beginnings (ds : List D) (r : Out) : Prop := ∃ (die : List Int) (ws : List (List Nat)), ds = [nums die, txts ws] ∧ okRace die ws ∧ r = .rn ((beginsL ws).map sD)
theorem S_beginnings_len {ds : List D} {r : Out} (h : S_beginnings ds r) : ds.length = 2 := by obtain ⟨_, _, rfl, _⟩ := h; rfl
theorem metStep_len (w : List Nat) : ∀ (l : List Nat) (kv : List (List Nat × Bool)), (l.foldl (metStep w) kv).length ≤ kv.length + l.length
  | [], kv => Nat.le_refl _
  | k :: l, kv => by
    rw [List.foldl_cons, List.length_cons]
    have := metStep_len w l (metStep w kv k)
    have h2 := putL_len kv (cutL w none (some (k : Int))) true
    have h3 : (metStep w kv k).length = (putL kv (cutL w none (some (k : Int))) true).length := rfl
    omega
theorem metWord_len {kv : List (List Nat × Bool)} {w : List Nat} (h : w.length ≤ 6) : (metWord kv w).length ≤ kv.length + 7 := by
  have := metStep_len w (List.range ((w.length : Int) + 1).toNat) kv
  rw [List.length_range] at this
  unfold metWord
  omega
theorem met_len {ws : List (List Nat)} (h : ∀ w ∈ ws, w.length ≤ 6) : ∀ kv, (ws.foldl metWord kv).length ≤ kv.length + 7 * ws.length := by
  induction ws with
  | nil => intro kv; exact Nat.le_refl _
  | cons w ws ih =>
    intro kv
    rw [List.foldl_cons, List.length_cons]
    have := ih (fun v hv => h v (List.mem_cons_of_mem _ hv)) (metWord kv w)
    have h2 := metWord_len (kv := kv) (h w List.mem_cons_self)
    omega
theorem metWord_keys (w : List Nat) (kv : List (List Nat × Bool)) : (∀ t, t ∈ (metWord kv w).map (·.1) ↔ t <+: w ∨ t ∈ kv.map (·.1)) ∧ ((kv.map (·.1)).Nodup → ((metWord kv w).map (·.1)).Nodup) := by
  have key : ∀ (l : List Nat) (kv : List (List Nat × Bool)), (∀ t, t ∈ (l.foldl (metStep w) kv).map (·.1) ↔ (∃ k ∈ l, t = w.take k) ∨ t ∈ kv.map (·.1)) ∧ ((kv.map (·.1)).Nodup → ((l.foldl (metStep w) kv).map (·.1)).Nodup) := by
    intro l
    induction l with
    | nil => intro kv; exact ⟨fun t => ⟨.inr, fun h => h.elim (fun ⟨_, h, _⟩ => nomatch h) id⟩, id⟩
    | cons k l ih =>
      intro kv
      rw [List.foldl_cons]
      obtain ⟨h1, h2⟩ := ih (metStep w kv k)
      refine ⟨fun t => ?_, fun n => h2 (putL_nodup n)⟩
      rw [h1 t]
      have : t ∈ (metStep w kv k).map (·.1) ↔ t = w.take k ∨ t ∈ kv.map (·.1) := by
        unfold metStep
        rw [putL_mem, cutL_to]
      rw [this]
      constructor
      · rintro (⟨j, hj, e⟩ | e | h)
        · exact .inl ⟨j, List.mem_cons_of_mem _ hj, e⟩
        · exact .inl ⟨k, List.mem_cons_self, e⟩
        · exact .inr h
      · rintro (⟨j, hj, e⟩ | h)
        · rcases List.mem_cons.mp hj with rfl | hj
          · exact .inr (.inl e)
          · exact .inl ⟨j, hj, e⟩
        · exact .inr (.inr h)
  obtain ⟨h1, h2⟩ := key (List.range ((w.length : Int) + 1).toNat) kv
  refine ⟨fun t => ?_, h2⟩
  unfold metWord
  rw [h1 t]
  have : (∃ k ∈ List.range ((w.length : Int) + 1).toNat, t = w.take k) ↔ t <+: w := by
    constructor
    · rintro ⟨k, _, rfl⟩
      exact List.take_prefix _ _
    · intro h
      have := h.length_le
      exact ⟨t.length, List.mem_range.mpr (by omega), List.prefix_iff_eq_take.mp h⟩
  rw [this]
theorem metL_keys (ws : List (List Nat)) : (∀ t, t ∈ (metL ws).map (·.1) ↔ ∃ w ∈ ws, t <+: w) ∧ ((metL ws).map (·.1)).Nodup := by
  have key : ∀ (ws : List (List Nat)) (kv : List (List Nat × Bool)), (kv.map (·.1)).Nodup → (∀ t, t ∈ (ws.foldl metWord kv).map (·.1) ↔ (∃ w ∈ ws, t <+: w) ∨ t ∈ kv.map (·.1)) ∧ ((ws.foldl metWord kv).map (·.1)).Nodup := by
    intro ws
    induction ws with
    | nil => intro kv n; exact ⟨fun t => ⟨.inr, fun h => h.elim (fun ⟨_, h, _⟩ => nomatch h) id⟩, n⟩
    | cons w ws ih =>
      intro kv n
      rw [List.foldl_cons]
      obtain ⟨h1, h2⟩ := metWord_keys w kv
      obtain ⟨h3, h4⟩ := ih (metWord kv w) (h2 n)
      refine ⟨fun t => ?_, h4⟩
      rw [h3 t, h1 t]
      constructor
      · rintro (⟨v, hv, e⟩ | e | h)
        · exact .inl ⟨v, List.mem_cons_of_mem _ hv, e⟩
        · exact .inl ⟨w, List.mem_cons_self, e⟩
        · exact .inr h
      · rintro (⟨v, hv, e⟩ | h)
        · rcases List.mem_cons.mp hv with rfl | hv
          · exact .inr (.inl e)
          · exact .inl ⟨v, hv, e⟩
        · exact .inr (.inr h)
  obtain ⟨h1, h2⟩ := key ws [] List.nodup_nil
  refine ⟨fun t => ?_, h2⟩
  unfold metL
  rw [h1 t]
  exact ⟨fun h => h.elim id (fun h => nomatch h), .inl⟩
theorem begins_mem {ws : List (List Nat)} {t : List Nat} : t ∈ beginsL ws ↔ ∃ w ∈ ws, t <+: w := by
  rw [← (metL_keys ws).1 t]
  unfold beginsL
  rw [List.mem_map]
  constructor
  · rintro ⟨q, hq, rfl⟩
    have := List.mem_mergeSort.mp hq
    obtain ⟨t, ht, rfl⟩ := List.mem_map.mp this
    exact ht
  · intro h
    exact ⟨((t.length : Int), t), List.mem_mergeSort.mpr (List.mem_map.mpr ⟨t, h, rfl⟩), rfl⟩
theorem begins_len {ws : List (List Nat)} (h4 : ws.length ≤ 4) (h : ∀ w ∈ ws, w.length ≤ 6) : (beginsL ws).length ≤ 28 := by
  unfold beginsL
  rw [List.length_map, List.length_mergeSort, List.length_map, List.length_map]
  have := met_len h []
  rw [List.length_nil] at this
  unfold metL
  omega
/-! ### states -/
def longT (known : List (List Nat)) (t : List Nat) (k : Nat) : Bool := decide (cutL t (some (k : Int)) none ∈ known)
def longestEnd (known : List (List Nat)) (t : List Nat) : List Nat := match (List.range ((t.length : Int) + 1).toNat).find? (longT known t) with
  | some k => cutL t (some (k : Int)) none
  | none => []
abbrev S_longest_end (ds : List D) (r : Out) : Prop := ∃ (ws : List (List Nat)) (t : List Nat), ds = [txts ws, sD t] ∧ t.length ≤ 1000 ∧ r = .rt (sD (longestEnd ws t))
theorem S_longest_end_len {ds : List D} {r : Out} (h : S_longest_end ds r) : ds.length = 2 := by obtain ⟨_, _, rfl, _⟩ := h; rfl
def stateBy (known : List (List Nat)) (row : List Nat) : List Nat := row.foldl (fun s c => longestEnd known (s ++ [c])) []
theorem longest_len (known : List (List Nat)) (t : List Nat) : (longestEnd known t).length ≤ t.length := by
  unfold longestEnd
  split
  · exact cutL_len _ _ _
  · exact Nat.zero_le _
abbrev S_state_by (ds : List D) (r : Out) : Prop := ∃ (ws : List (List Nat)) (t : List Nat), ds = [txts ws, sD t] ∧ t.length ≤ 900 ∧ r = .rt (sD (stateBy ws t))
theorem S_state_by_len {ds : List D} {r : Out} (h : S_state_by ds r) : ds.length = 2 := by obtain ⟨_, _, rfl, _⟩ := h; rfl
abbrev S_state_of (ds : List D) (r : Out) : Prop := ∃ (die : List Int) (ws : List (List Nat)) (row : List Nat), ds = [nums die, txts ws, sD row] ∧ okRace die ws ∧ okRow die.length row ∧ r = .rt (sD (stateBy (beginsL ws) row))
theorem S_state_of_len {ds : List D} {r : Out} (h : S_state_of ds r) : ds.length = 3 := by obtain ⟨_, _, _, rfl, _⟩ := h; rfl
def stateT (ws : List (List Nat)) (t : List Nat) (k : Nat) : Bool := (ws.map fun w => decide (cutL t (some (k : Int)) none <+: w)).any fun t => t
def stateL (ws : List (List Nat)) (t : List Nat) : List Nat := match (List.range ((t.length : Int) + 1).toNat).find? (stateT ws t) with
  | some k => cutL t (some (k : Int)) none
  | none => []
abbrev S__law_state (ds : List D) (r : Out) : Prop := ∃ (ws : List (List Nat)) (t : List Nat), ds = [txts ws, sD t] ∧ ws.length ≤ 1000 ∧ t.length ≤ 1000 ∧ r = .rt (sD (stateL ws t))
theorem S__law_state_len {ds : List D} {r : Out} (h : S__law_state ds r) : ds.length = 2 := by obtain ⟨_, _, rfl, _⟩ := h; rfl
theorem stateT_iff {ws : List (List Nat)} {t : List Nat} {k : Nat} : stateT ws t k = true ↔ ∃ w ∈ ws, t.drop k <+: w := by
  unfold stateT
  rw [List.any_eq_true]
  constructor
  · rintro ⟨b, hb, hb2⟩
    obtain ⟨w, hw, e⟩ := List.mem_map.mp hb
    rw [hb2, decide_eq_true_eq, cutL_from] at e
    exact ⟨w, hw, e⟩
  · rintro ⟨w, hw, e⟩
    exact ⟨true, List.mem_map.mpr ⟨w, hw, by rw [decide_eq_true_eq, cutL_from]; exact e⟩, rfl⟩
theorem longest_state (ws : List (List Nat)) (t : List Nat) : longestEnd (beginsL ws) t = stateL ws t := by
  unfold longestEnd stateL
  have : (List.range ((t.length : Int) + 1).toNat).find? (longT (beginsL ws) t) = (List.range ((t.length : Int) + 1).toNat).find? (stateT ws t) := find_congr fun k _ => by
    rw [Bool.eq_iff_iff, stateT_iff]
    unfold longT
    rw [decide_eq_true_eq, begins_mem, cutL_from]
  rw [this]
/-- the state is the longest end that begins a word -/
theorem state_spec (ws : List (List Nat)) (t : List Nat) : (stateL ws t = [] ∨ ∃ w ∈ ws, stateL ws t <+: w) ∧ stateL ws t <:+ t ∧ ∀ u, u <:+ t → (∃ w ∈ ws, u <+: w) → u.length ≤ (stateL ws t).length := by
  unfold stateL
  cases h : (List.range ((t.length : Int) + 1).toNat).find? (stateT ws t) with
  | none =>
    refine ⟨.inl rfl, List.nil_suffix, fun u hu ⟨w, hw, hp⟩ => ?_⟩
    exfalso
    have hl := hu.length_le
    have := List.find?_eq_none.mp h (t.length - u.length) (List.mem_range.mpr (by omega))
    exact this (stateT_iff.mpr ⟨w, hw, by rw [← List.suffix_iff_eq_drop.mp hu]; exact hp⟩)
  | some k =>
    show (cutL t (some (k : Int)) none = [] ∨ ∃ w ∈ ws, cutL t (some (k : Int)) none <+: w) ∧ cutL t (some (k : Int)) none <:+ t ∧ ∀ u, u <:+ t → (∃ w ∈ ws, u <+: w) → u.length ≤ (cutL t (some (k : Int)) none).length
    rw [cutL_from]
    have h1 := List.find?_some h
    have hk := List.mem_range.mp (List.mem_of_find?_eq_some h)
    refine ⟨.inr (stateT_iff.mp h1), List.drop_suffix _ _, fun u hu ⟨w, hw, hp⟩ => ?_⟩
    have hl := hu.length_le
    rw [List.length_drop]
    by_cases hc : t.length - u.length < k
    · exfalso
      obtain ⟨_, as, bs, e1, e2⟩ := List.find?_eq_some_iff_append.mp h
      have e3 : as.length = k := by
        have g : (List.range ((t.length : Int) + 1).toNat)[as.length]? = some k := by rw [e1, List.getElem?_append_right (Nat.le_refl _), Nat.sub_self]; rfl
        have hlt : as.length < ((t.length : Int) + 1).toNat := by
          have := congrArg List.length e1
          rw [List.length_range, List.length_append, List.length_cons] at this
          omega
        rw [List.getElem?_range hlt] at g
        exact Option.some.inj g
      have m : t.length - u.length ∈ as := by
        have g : (List.range ((t.length : Int) + 1).toNat)[t.length - u.length]? = some (t.length - u.length) := List.getElem?_range (by omega)
        rw [e1, List.getElem?_append_left (by omega)] at g
        exact List.mem_of_getElem? g
      have := e2 _ m
      rw [stateT_iff.mpr ⟨w, hw, by rw [← List.suffix_iff_eq_drop.mp hu]; exact hp⟩] at this
      exact absurd this (by decide)
    · omega
theorem state_uniq {ws : List (List Nat)} {t u : List Nat} (h1 : u <:+ t) (h2 : ∃ w ∈ ws, u <+: w) (h3 : ∀ v, v <:+ t → (∃ w ∈ ws, v <+: w) → v.length ≤ u.length) : stateL ws t = u := by
  obtain ⟨a1, a2, a3⟩ := state_spec ws t
  have l1 := a3 u h1 h2
  have hs : ∃ w ∈ ws, stateL ws t <+: w := by
    rcases a1 with e | h
    · obtain ⟨w, hw, _⟩ := h2
      exact ⟨w, hw, by rw [e]; exact List.nil_prefix⟩
    · exact h
  have l2 := h3 _ a2 hs
  have e1 := List.suffix_iff_eq_drop.mp a2
  have e2 := List.suffix_iff_eq_drop.mp h1
  rw [e1, e2, show (stateL ws t).length = u.length by omega]
theorem state_pre {ws : List (List Nat)} (hn : ws ≠ []) (t : List Nat) : ∃ w ∈ ws, stateL ws t <+: w := by
  rcases (state_spec ws t).1 with e | h
  · obtain ⟨w, r, rfl⟩ : ∃ w r, ws = w :: r := by
      cases ws with
      | nil => exact absurd rfl hn
      | cons w r => exact ⟨w, r, rfl⟩
    exact ⟨w, List.mem_cons_self, by rw [e]; exact List.nil_prefix⟩
  · exact h
/-- one sign more: the state of the state and the sign -/
theorem state_snoc {ws : List (List Nat)} (hn : ws ≠ []) (t : List Nat) (c : Nat) : stateL ws (t ++ [c]) = stateL ws (stateL ws t ++ [c]) := by
  obtain ⟨a1, a2, a3⟩ := state_spec ws (stateL ws t ++ [c])
  obtain ⟨b1, b2, b3⟩ := state_spec ws t
  refine state_uniq (a2.trans ?_) (state_pre hn _) fun v hv hp => ?_
  · obtain ⟨s, e⟩ := b2
    exact ⟨s, by rw [← e, List.append_assoc, e]⟩
  · -- v is an end of the state and the sign, too
    have key : v <:+ stateL ws t ++ [c] := by
      rcases List.eq_nil_or_concat v with rfl | ⟨v', d, rfl⟩
      · exact List.nil_suffix
      · rw [List.concat_eq_append] at hv hp ⊢
        obtain ⟨s, e⟩ := hv
        rw [← List.append_assoc] at e
        obtain ⟨e1, e2⟩ := List.append_inj' e rfl
        have hv' : v' <:+ t := ⟨s, e1⟩
        have hp' : ∃ w ∈ ws, v' <+: w := by
          obtain ⟨w, hw, q⟩ := hp
          exact ⟨w, hw, (List.prefix_append v' [d]).trans q⟩
        have hl := b3 v' hv' hp'
        have hs : v' <:+ stateL ws t := List.suffix_of_suffix_length_le hv' b2 hl
        obtain ⟨s', e'⟩ := hs
        exact ⟨s', by rw [← List.append_assoc, e', e2]⟩
    exact a3 v key hp
theorem stateBy_eq {ws : List (List Nat)} (hn : ws ≠ []) (row : List Nat) : stateBy (beginsL ws) row = stateL ws row := by
  have nil : stateL ws [] = [] := List.eq_nil_of_suffix_nil (state_spec ws []).2.1
  have key : ∀ (l t : List Nat), l.foldl (fun s c => longestEnd (beginsL ws) (s ++ [c])) (stateL ws t) = stateL ws (t ++ l) := by
    intro l
    induction l with
    | nil => intro t; rw [List.append_nil]; rfl
    | cons c l ih =>
      intro t
      rw [List.foldl_cons, longest_state, ← state_snoc hn, ih, List.append_assoc]; rfl
  have := key row []
  rw [nil, List.nil_append] at this
  exact this
/-! ### rows put together -/
def rowStep (ws : List (List Nat)) (row : List Nat) (c : Int) : List Nat := row ++ cutL (ws.getD (c % (ws.length : Int)).toNat []) none (some (c / 4 % (((ws.getD (c % (ws.length : Int)).toNat []).length : Int) + 1)))
def rowL (M hi cap : Int) (ns : List Int) (ws : List (List Nat)) (sg : Int) : List Nat := cutL (if cellAt ns 8 % 2 = 1 then (cutL ns (some 9) (some hi)).foldl (rowStep ws) [] else thrownL (cellAt ns 6) (cellAt ns 7 % M).toNat sg) none (some cap)
abbrev S_row (M hi cap : Int) (ds : List D) (r : Out) : Prop := ∃ (ns : List Int) (ws : List (List Nat)) (sg : Int), ds = [nums ns, txts ws, iD sg] ∧ ns.length ≤ 63 ∧ 1 ≤ ws.length ∧ (∀ w ∈ ws, w.length ≤ 6) ∧ 1 ≤ sg ∧ sg ≤ 4 ∧ r = .rt (sD (rowL M hi cap ns ws sg))
abbrev S_row3 := S_row 61 19 60
abbrev S_row4 := S_row 13 13 12
theorem S_row3_len {ds : List D} {r : Out} (h : S_row3 ds r) : ds.length = 3 := by obtain ⟨_, _, _, rfl, _⟩ := h; rfl
theorem S_row4_len {ds : List D} {r : Out} (h : S_row4 ds r) : ds.length = 3 := by obtain ⟨_, _, _, rfl, _⟩ := h; rfl
theorem rowL_ok {M hi cap : Int} {die : List Int} {ws : List (List Nat)} (ns : List Int) (hd : okDie die) (ok : okRace die ws) (hc : 0 ≤ cap) : (rowL M hi cap ns ws die.length).length ≤ cap.toNat ∧ okText die.length (rowL M hi cap ns ws die.length) := by
  unfold rowL
  refine ⟨by rw [cut_to _ hc, List.length_take]; exact Nat.min_le_left _ _, okText.sub ?_ fun c h => cutL_sub h⟩
  split
  · refine foldl_inv (fun t : List Nat => okText die.length t) _ _ _ (fun _ h => nomatch h) fun t c _ ih => ?_
    intro x hx
    rcases List.mem_append.mp hx with h | h
    · exact ih x h
    · have hl := ok.2.2.1
      have m0 : 0 ≤ c % (ws.length : Int) := Int.emod_nonneg _ (by omega)
      have m1 : c % (ws.length : Int) < ws.length := Int.emod_lt_of_pos _ (by omega)
      exact (ok.2.1 _ (getD_mem (by omega))).2.2 x (cutL_sub h)
  · exact thrownL_ok _ _ _ (by have := hd.1; omega) hd.2.1
/-! ### sign by sign -/
theorem shp_opt (o : Option (Int × Int)) : SeqAt.shaped (optD o) = true := by
  cases o with
  | none => rfl
  | some p => exact shp_pair p
theorem nd_opt (o : Option (Int × Int)) : nodict (optD o) = true := by cases o <;> rfl
theorem eqv_opt (a b : Option (Int × Int)) : PyData.eqv (optD a) (optD b) = decide (a = b) := by
  cases a with
  | none =>
    cases b with
    | none => simp [PyData.eqv]
    | some q => simp [PyData.eqv]
  | some p =>
    cases b with
    | none => simp [PyData.eqv]
    | some q =>
      show PyData.eqv (pD p) (pD q) = _
      rw [eqv_pair]
      exact decide_eq_decide.mpr ⟨fun h => by rw [h], fun h => Option.some.inj h⟩
theorem endT_state {ws : List (List Nat)} (ha : apart ws) (hn : ws ≠ []) (t : List Nat) {k : Nat} (hk : k < ws.length) : endT ws t k = decide (ws.getD k [] = stateL ws t) := by
  obtain ⟨_, a2, a3⟩ := state_spec ws t
  obtain ⟨w', hw', hp'⟩ := state_pre hn t
  unfold endT
  rw [Bool.eq_iff_iff, decide_eq_true_eq, decide_eq_true_eq]
  constructor
  · intro h
    have hm : ws.getD k [] ∈ ws := getD_mem hk
    have hl := a3 _ h ⟨_, hm, List.prefix_refl _⟩
    have hs : ws.getD k [] <:+ stateL ws t := List.suffix_of_suffix_length_le h a2 hl
    obtain ⟨j, hj, e⟩ := List.mem_iff_getElem.mp hw'
    have e' : ws.getD j [] = w' := by rw [getD_lt hj, e]
    have hi : ws.getD k [] <:+: ws.getD j [] := by rw [e']; exact hs.isInfix.trans hp'.isInfix
    by_cases hjk : j = k
    · subst hjk
      have l2 := hp'.length_le
      rw [← e'] at l2
      exact hs.eq_of_length (by omega)
    · exact absurd hi (ha k j hk hj hjk)
  · intro h; rw [h]; exact a2
theorem find_idx {ws : List (List Nat)} {s : List Nat} : (List.range ws.length).find? (fun k => decide (ws.getD k [] = s)) = if s ∈ ws then some (ws.idxOf s) else none := by
  split
  · rename_i h
    have hl : ws.idxOf s < ws.length := List.idxOf_lt_length_iff.mpr h
    rw [List.find?_range_eq_some]
    refine ⟨by rw [decide_eq_true_eq, getD_lt hl, List.getElem_idxOf hl], List.mem_range.mpr hl, fun j hj => ?_⟩
    rw [Bool.not_eq_true', decide_eq_false_iff_not]
    intro e
    have hj' : j < ws.length := by omega
    have := idxOf_leG (a := ws) (i := j) (c := s) (by rw [List.getElem?_eq_getElem hj', ← getD_lt (z := []) hj', e])
    omega
  · rename_i h
    rw [List.find?_eq_none]
    intro k hk e
    exact h (by rw [← of_decide_eq_true e]; exact getD_mem (List.mem_range.mp hk))
theorem endAt_state {ws : List (List Nat)} (ha : apart ws) (hn : ws ≠ []) (t : List Nat) : endAt ws t = if stateL ws t ∈ ws then some (ws.idxOf (stateL ws t)) else none := by
  rw [← find_idx]
  exact find_congr fun k hk => endT_state ha hn t (List.mem_range.mp hk)
theorem firstEnd_snoc {ws : List (List Nat)} {row : List Nat} {i : Nat} (hi : i < row.length) : firstEnd ws (row.take (i + 1)) = match firstEnd ws (row.take i) with
    | some p => some p
    | none => (endAt ws (row.take (i + 1))).map fun (k : Nat) => ((i : Int) + 1, (k : Int)) := by
  unfold firstEnd
  have l1 : (((row.take (i + 1)).length : Int) + 1 - 1).toNat = i + 1 := by rw [List.length_take]; omega
  have l2 : (((row.take i).length : Int) + 1 - 1).toNat = i := by rw [List.length_take]; omega
  rw [l1, l2, List.range_succ, List.findSome?_append]
  have e : (List.range i).findSome? (firstStep ws (row.take (i + 1))) = (List.range i).findSome? (firstStep ws (row.take i)) := findSome_congr fun m hm => by
    have hm := List.mem_range.mp hm
    unfold firstStep
    have e2 : (1 + (m : Int)) = ((1 + m : Nat) : Int) := by omega
    rw [e2, cutL_to, cutL_to, List.take_take, List.take_take, show min (1 + m) (i + 1) = 1 + m by omega, show min (1 + m) i = 1 + m by omega]
  rw [e]
  cases (List.range i).findSome? (firstStep ws (row.take i)) with
  | some p => rfl
  | none =>
    show List.findSome? (firstStep ws (row.take (i + 1))) [i] = _
    rw [List.findSome?_singleton]
    unfold firstStep
    have e2 : (1 + (i : Int)) = ((1 + i : Nat) : Int) := by omega
    have e3 : (i : Int) + 1 = ((1 + i : Nat) : Int) := by omega
    rw [e2, e3, cutL_to, List.take_take, show min (1 + i) (i + 1) = i + 1 by omega]
end Vs

/-! What the defs compute: shares, worths, meetings, over the rational numbers. -/
namespace Vs
open PySem PySem.Spec L2
abbrev qP (x : Rat) : Int × Int := (x.num, (x.den : Int))
abbrev qD (x : Rat) : D := pD (qP x)
abbrev qsD (xs : List Rat) : D := .list (xs.map qD)
abbrev qmD (m : List (List Rat)) : D := .list (m.map qsD)
theorem qP_inj {x y : Rat} (h : qP x = qP y) : x = y := Rat.ext (Prod.mk.inj h).1 (by have := (Prod.mk.inj h).2; omega)
theorem eqv_rat (x y : Rat) : PyData.eqv (qD x) (qD y) = decide (x = y) := by
  rw [eqv_pair]
  exact decide_eq_decide.mpr ⟨qP_inj, fun h => by rw [h]⟩
theorem dk_rat : Dk qD 1 fun _ => True := ⟨fun x _ => dk_pair.lay _ trivial, fun x => dk_pair.dep _, eqv_rat⟩
theorem shp_rats (p : List Rat) : SeqAt.shaped (qsD p) = true := (dk_list dk_rat).shp (by decide) (fun _ _ => trivial)
theorem eqv_rats (a b : List Rat) : PyData.eqv (qsD a) (qsD b) = decide (a = b) := (dk_list dk_rat).eqv a b
/-! ### bits -/
theorem log_le {i : Int} {n : Nat} (h : i.natAbs < 2 ^ n) : i.natAbs.log2 ≤ n := by
  by_cases h0 : i.natAbs = 0
  · rw [h0]; exact Nat.zero_le _
  · exact Nat.le_of_lt ((Nat.log2_lt h0).mpr h)
theorem cmulW {i j : Int} {n m : Nat} (h1 : i.natAbs < 2 ^ n) (h2 : j.natAbs < 2 ^ m) (h : n + m < 1000000) : CMulW i j := by
  have a := log_le h1
  have b := log_le h2
  show i.natAbs.log2 + j.natAbs.log2 < 1000000
  omega
/-- of so many bits -/
def bt (n : Nat) (i : Int) : Prop := i.natAbs < 2 ^ n
theorem cmulB {i j : Int} {n m : Nat} (h1 : bt n i) (h2 : bt m j) (h : n + m < 1000000) : CMulW i j := cmulW h1 h2 h
def fit (n : Nat) (x : Rat) : Prop := x.num.natAbs < 2 ^ n ∧ x.den < 2 ^ n
theorem fit.mono {n m : Nat} {x : Rat} (h : fit n x) (l : n ≤ m) : fit m x := ⟨Nat.lt_of_lt_of_le h.1 (Nat.pow_le_pow_right (by decide) l), Nat.lt_of_lt_of_le h.2 (Nat.pow_le_pow_right (by decide) l)⟩
theorem fit.num {n : Nat} {x : Rat} (h : fit n x) : bt n x.num := h.1
theorem fit.den {n : Nat} {x : Rat} (h : fit n x) : bt n (x.den : Int) := h.2
theorem bt.mono {n m : Nat} {i : Int} (h : bt n i) (l : n ≤ m) : bt m i := Nat.lt_of_lt_of_le h (Nat.pow_le_pow_right (by decide) l)
theorem den_abs (x : Rat) : ((x.den : Int)).natAbs = x.den := rfl
theorem fit_divInt {a b : Int} {n : Nat} (ha : a.natAbs < 2 ^ n) (hb : b ≠ 0) (hb' : b.natAbs < 2 ^ n) : fit n (Rat.divInt a b) := by
  have hg : 0 < b.gcd a := Int.gcd_pos_of_ne_zero_left _ hb
  refine ⟨?_, ?_⟩
  · rw [Rat.num_divInt]
    refine Nat.lt_of_le_of_lt ?_ ha
    have h1 : (b.sign * a).natAbs = a.natAbs := by
      rw [Int.natAbs_mul, Int.natAbs_sign_of_ne_zero hb, Nat.one_mul]
    have hd : ((b.gcd a : Nat) : Int) ∣ b.sign * a := Int.dvd_trans (Int.gcd_dvd_right ..) (Int.dvd_mul_left _ _)
    obtain ⟨c, hc⟩ := hd
    rw [hc, Int.mul_ediv_cancel_left _ (by omega), ← h1, hc, Int.natAbs_mul]
    exact Nat.le_mul_of_pos_left _ (by rw [Int.natAbs_natCast]; exact hg)
  · rw [Rat.den_divInt, if_neg hb]
    exact Nat.lt_of_le_of_lt (Nat.div_le_self _ _) hb'
theorem add_divInt (x y : Rat) : Rat.divInt (x.num * (y.den : Int) + y.num * (x.den : Int)) ((x.den : Int) * (y.den : Int)) = x + y := by
  rw [Rat.add_def', ← Rat.divInt_ofNat, Int.natCast_mul]
theorem sub_divInt (x y : Rat) : Rat.divInt (x.num * (y.den : Int) - y.num * (x.den : Int)) ((x.den : Int) * (y.den : Int)) = x - y := by
  rw [Rat.sub_def', ← Rat.divInt_ofNat, Int.natCast_mul]
theorem mul_divInt (x y : Rat) : Rat.divInt (x.num * y.num) ((x.den : Int) * (y.den : Int)) = x * y := by
  rw [Rat.mul_def', ← Rat.divInt_ofNat, Int.natCast_mul]
theorem div_divInt (x y : Rat) : Rat.divInt (x.num * (y.den : Int)) ((x.den : Int) * y.num) = x / y := by
  rw [Rat.div_def, Rat.inv_def]
  conv => rhs; rw [← Rat.num_divInt_den x]
  rw [Rat.divInt_mul_divInt]
theorem den_pos (x : Rat) : 0 < x.den := Nat.pos_of_ne_zero x.den_nz
theorem den_ne (x : Rat) : (x.den : Int) ≠ 0 := by have := x.den_nz; omega
theorem num_ne {x : Rat} (h : x ≠ 0) : x.num ≠ 0 := fun e => h (Rat.num_eq_zero.mp e)
theorem lt_two_pow_add {a b n m : Nat} (h1 : a < 2 ^ n) (h2 : b < 2 ^ m) : a * b < 2 ^ (n + m) := by
  rw [Nat.pow_add]
  exact Nat.mul_lt_mul'' h1 h2
theorem sum_bits {x y : Rat} {n m : Nat} (h1 : fit n x) (h2 : fit m y) : (x.num * (y.den : Int)).natAbs + (y.num * (x.den : Int)).natAbs < 2 ^ (n + m + 1) := by
  have a := lt_two_pow_add h1.1 h2.2
  have b := lt_two_pow_add h2.1 h1.2
  rw [Nat.add_comm m n] at b
  rw [Int.natAbs_mul, Int.natAbs_mul, Int.natAbs_natCast, Int.natAbs_natCast, Nat.pow_succ]
  omega
theorem den_bits {x y : Rat} {n m : Nat} (h1 : fit n x) (h2 : fit m y) : ((x.den : Int) * (y.den : Int)).natAbs < 2 ^ (n + m) := by
  rw [Int.natAbs_mul, Int.natAbs_natCast, Int.natAbs_natCast]
  exact lt_two_pow_add h1.2 h2.2
theorem fit_add {x y : Rat} {n m : Nat} (h1 : fit n x) (h2 : fit m y) : fit (n + m + 1) (x + y) := by
  rw [← add_divInt]
  exact fit_divInt (Nat.lt_of_le_of_lt (Int.natAbs_add_le _ _) (sum_bits h1 h2)) (Int.mul_ne_zero (den_ne x) (den_ne y)) (Nat.lt_of_lt_of_le (den_bits h1 h2) (Nat.pow_le_pow_right (by decide) (by omega)))
theorem fit_sub {x y : Rat} {n m : Nat} (h1 : fit n x) (h2 : fit m y) : fit (n + m + 1) (x - y) := by
  rw [← sub_divInt]
  exact fit_divInt (Nat.lt_of_le_of_lt (Int.natAbs_sub_le _ _) (sum_bits h1 h2)) (Int.mul_ne_zero (den_ne x) (den_ne y)) (Nat.lt_of_lt_of_le (den_bits h1 h2) (Nat.pow_le_pow_right (by decide) (by omega)))
theorem fit_mul {x y : Rat} {n m : Nat} (h1 : fit n x) (h2 : fit m y) : fit (n + m) (x * y) := by
  rw [← mul_divInt]
  exact fit_divInt (by rw [Int.natAbs_mul]; exact lt_two_pow_add h1.1 h2.1) (Int.mul_ne_zero (den_ne x) (den_ne y)) (den_bits h1 h2)
theorem fit_div {x y : Rat} {n m : Nat} (h1 : fit n x) (h2 : fit m y) (hy : y ≠ 0) : fit (n + m) (x / y) := by
  rw [← div_divInt]
  exact fit_divInt (by rw [Int.natAbs_mul, Int.natAbs_natCast]; exact lt_two_pow_add h1.1 h2.2) (Int.mul_ne_zero (den_ne x) (num_ne hy)) (by rw [Int.natAbs_mul, Int.natAbs_natCast]; exact lt_two_pow_add h1.2 h2.1)
theorem fit_int {i : Int} {n : Nat} (h : i.natAbs < 2 ^ n) (hn : 1 ≤ n) : fit n (i : Rat) := ⟨h, by
  show 1 < 2 ^ n
  exact Nat.one_lt_two_pow (by omega)⟩
/-! ### shares -/
abbrev S_common (ds : List D) (r : Out) : Prop := ∃ a b : Int, ds = [iD a, iD b] ∧ 0 ≤ b ∧ r = .rt (iD ((Int.gcd a b : Nat) : Int))
theorem S_common_len {ds : List D} {r : Out} (h : S_common ds r) : ds.length = 2 := by obtain ⟨_, _, rfl, _⟩ := h; rfl
abbrev S__law_common (ds : List D) (r : Out) : Prop := ∃ a b : Int, ds = [iD a, iD b] ∧ 0 ≤ a ∧ 0 ≤ b ∧ r = .rt (iD ((Int.gcd a b : Nat) : Int))
theorem S__law_common_len {ds : List D} {r : Out} (h : S__law_common ds r) : ds.length = 2 := by obtain ⟨_, _, rfl, _⟩ := h; rfl
def shOk (b : Int) : Prop := b ≠ 0 ∧ b.natAbs.log2 < 9000
theorem shOk_of {b : Int} {n : Nat} (h : b ≠ 0) (h2 : b.natAbs < 2 ^ n) (hn : n < 9000) : shOk b := ⟨h, by have := log_le h2; omega⟩
abbrev S_share (ds : List D) (r : Out) : Prop := ∃ a b : Int, ds = [iD a, iD b] ∧ shOk b ∧ r = .rt (qD (Rat.divInt a b))
theorem S_share_len {ds : List D} {r : Out} (h : S_share ds r) : ds.length = 2 := by obtain ⟨_, _, rfl, _⟩ := h; rfl
theorem share_pos {a b : Int} (hb : 0 < b) : pD (a / ((Int.gcd a b : Nat) : Int), b / ((Int.gcd a b : Nat) : Int)) = qD (Rat.divInt a b) := by
  have e : (a / ((Int.gcd a b : Nat) : Int), b / ((Int.gcd a b : Nat) : Int)) = qP (Rat.divInt a b) := by
    unfold qP
    rw [Rat.num_divInt, Rat.den_divInt, if_neg (by omega), Int.sign_eq_one_of_pos hb, Int.one_mul, Int.gcd_comm b a]
    congr 1
    rw [Int.natCast_ediv, Int.natAbs_of_nonneg (by omega)]
  rw [e]
theorem gcd_log {a b : Int} (h : shOk b) : 0 < ((Int.gcd a b : Nat) : Int) ∧ ((Int.gcd a b : Nat) : Int).natAbs.log2 < 9000 := by
  have hg : 0 < Int.gcd a b := Int.gcd_pos_of_ne_zero_right _ h.1
  have hle : Int.gcd a b ≤ b.natAbs := Nat.gcd_le_right _ (by have := h.1; omega)
  refine ⟨by omega, ?_⟩
  rw [Int.natAbs_natCast, Nat.log2_lt (by omega)]
  exact Nat.lt_of_le_of_lt hle ((Nat.log2_lt (by have := h.1; omega)).mp h.2)
abbrev S_plus (ds : List D) (r : Out) : Prop := ∃ x y : Rat, ds = [qD x, qD y] ∧ fit 4000 x ∧ fit 4000 y ∧ r = .rt (qD (x + y))
theorem S_plus_len {ds : List D} {r : Out} (h : S_plus ds r) : ds.length = 2 := by obtain ⟨_, _, rfl, _⟩ := h; rfl
abbrev S_minus (ds : List D) (r : Out) : Prop := ∃ x y : Rat, ds = [qD x, qD y] ∧ fit 4000 x ∧ fit 4000 y ∧ r = .rt (qD (x - y))
theorem S_minus_len {ds : List D} {r : Out} (h : S_minus ds r) : ds.length = 2 := by obtain ⟨_, _, rfl, _⟩ := h; rfl
abbrev S_times (ds : List D) (r : Out) : Prop := ∃ x y : Rat, ds = [qD x, qD y] ∧ fit 4000 x ∧ fit 4000 y ∧ r = .rt (qD (x * y))
theorem S_times_len {ds : List D} {r : Out} (h : S_times ds r) : ds.length = 2 := by obtain ⟨_, _, rfl, _⟩ := h; rfl
abbrev S_over (ds : List D) (r : Out) : Prop := ∃ x y : Rat, ds = [qD x, qD y] ∧ fit 4000 x ∧ fit 4000 y ∧ y ≠ 0 ∧ r = .rt (qD (x / y))
theorem S_over_len {ds : List D} {r : Out} (h : S_over ds r) : ds.length = 2 := by obtain ⟨_, _, rfl, _⟩ := h; rfl
/-! ### worths -/
theorem idx_sgn {c n : Nat} (h : c ∈ sgn n) : abcd.idxOf c < n ∧ c ∈ abcd := by
  obtain ⟨i, hi, e⟩ := List.mem_iff_getElem.mp h
  rw [List.length_take] at hi
  rw [List.getElem_take] at e
  have g : abcd[i]? = some c := by rw [List.getElem?_eq_getElem (by omega), e]
  exact ⟨Nat.lt_of_le_of_lt (idxOf_leG g) (by omega), List.mem_of_mem_take h⟩
theorem okDie.sum {die : List Int} (h : okDie die) : 2 ≤ die.sum ∧ die.sum ≤ 36 := by
  have key : ∀ l : List Int, (∀ w ∈ l, 1 ≤ w ∧ w ≤ 9) → (l.length : Int) ≤ l.sum ∧ l.sum ≤ 9 * (l.length : Int) := by
    intro l
    induction l with
    | nil => intro _; simp
    | cons w l ih =>
      intro h
      have := ih fun w hw => h w (List.mem_cons_of_mem _ hw)
      have hw := h w List.mem_cons_self
      rw [List.sum_cons, List.length_cons]
      omega
  have := key die h.2.2
  have h1 := h.1
  have h2 := h.2.1
  omega
abbrev wgt (die : List Int) (c : Nat) : Int := die.getD (abcd.idxOf c) 0
theorem wgt_ok {die : List Int} (h : okDie die) {c : Nat} (hc : c ∈ sgn die.length) : 1 ≤ wgt die c ∧ wgt die c ≤ 9 := h.2.2 _ (getD_mem (idx_sgn hc).1)
def rate (die : List Int) (c : Nat) : Rat := Rat.divInt die.sum (wgt die c)
def worthQ (die : List Int) (t : List Nat) : Rat := t.foldl (fun q c => q * rate die c) 1
abbrev S_worth (ds : List D) (r : Out) : Prop := ∃ (die : List Int) (t : List Nat), ds = [nums die, sD t] ∧ okDie die ∧ okText die.length t ∧ t.length ≤ 6 ∧ r = .rt (qD (worthQ die t))
theorem S_worth_len {ds : List D} {r : Out} (h : S_worth ds r) : ds.length = 2 := by obtain ⟨_, _, rfl, _⟩ := h; rfl
theorem rate_fit {die : List Int} (h : okDie die) {c : Nat} (hc : c ∈ sgn die.length) : fit 6 (rate die c) := by
  have h1 := h.sum
  have h2 := wgt_ok h hc
  exact fit_divInt (by omega) (by omega) (by omega)
theorem worth_fold_fit {die : List Int} (h : okDie die) : ∀ (l : List Nat) (q : Rat) (n : Nat), okText die.length l → fit n q → fit (n + 6 * l.length) (l.foldl (fun q c => q * rate die c) q)
  | [], q, n, _, hq => hq
  | c :: l, q, n, ht, hq => by
    rw [List.foldl_cons, List.length_cons]
    exact (worth_fold_fit h l (q * rate die c) (n + 6) (fun x hx => ht x (List.mem_cons_of_mem _ hx)) (fit_mul hq (rate_fit h (ht c List.mem_cons_self)))).mono (by omega)
theorem fit_one : fit 1 (1 : Rat) := ⟨by decide, by decide⟩
theorem fit_zero : fit 1 (0 : Rat) := ⟨by decide, by decide⟩
theorem worth_fit {die : List Int} (h : okDie die) {t : List Nat} (ht : okText die.length t) (hl : t.length ≤ 6) : fit 37 (worthQ die t) := (worth_fold_fit h t 1 1 ht fit_one).mono (by omega)
def meetFold (die : List Int) (b : List Nat) (l : List Int) (q : Rat) : Rat := l.foldl (fun q k => q + worthQ die (cutL b none (some k))) q
def meetQ (die : List Int) (a b : List Nat) : Rat := meetFold die b (overlapsOf a b) 0
abbrev S_meeting (ds : List D) (r : Out) : Prop := ∃ (die : List Int) (a b : List Nat), ds = [nums die, sD a, sD b] ∧ okDie die ∧ okWord die.length a ∧ okWord die.length b ∧ r = .rt (qD (meetQ die a b))
theorem S_meeting_len {ds : List D} {r : Out} (h : S_meeting ds r) : ds.length = 3 := by obtain ⟨_, _, _, rfl, _⟩ := h; rfl
theorem okWord.cut {n : Nat} {b : List Nat} (h : okWord n b) (k : Option Int) : okText n (cutL b none k) ∧ (cutL b none k).length ≤ 6 := ⟨h.2.2.sub fun c hc => cutL_sub hc, Nat.le_trans (cutL_len _ _ _) h.2.1⟩
theorem meet_fold_fit {die : List Int} (h : okDie die) {b : List Nat} (hb : okWord die.length b) : ∀ (l : List Int) (q : Rat) (n : Nat), fit n q → fit (n + 38 * l.length) (meetFold die b l q)
  | [], q, n, hq => hq
  | k :: l, q, n, hq => by
    have hc := hb.cut (some k)
    have := meet_fold_fit h hb l (q + worthQ die (cutL b none (some k))) (n + 37 + 1) (fit_add hq (worth_fit h hc.1 hc.2))
    rw [List.length_cons]
    exact fit.mono this (by omega)
theorem meet_fit {die : List Int} (h : okDie die) {a b : List Nat} (ha : okWord die.length a) (hb : okWord die.length b) : fit 229 (meetQ die a b) := by
  have := meet_fold_fit h hb (overlapsOf a b) 0 1 fit_zero
  have l := overlaps_len a b
  have := ha.2.1
  exact fit.mono (by assumption) (by omega)
abbrev S_waiting (ds : List D) (r : Out) : Prop := ∃ (die : List Int) (a : List Nat), ds = [nums die, sD a] ∧ okDie die ∧ okWord die.length a ∧ r = .rt (qD (meetQ die a a))
theorem S_waiting_len {ds : List D} {r : Out} (h : S_waiting ds r) : ds.length = 2 := by obtain ⟨_, _, rfl, _⟩ := h; rfl
/-! ### the laws' own -/
abbrev S__law_is_share (ds : List D) (r : Out) : Prop := ∃ (x : Rat) (a b : Int), ds = [qD x, iD a, iD b] ∧ fit 100000 x ∧ bt 100000 a ∧ bt 100000 b ∧ x.num * b = a * (x.den : Int) ∧ r = .rt (bD true)
theorem S__law_is_share_len {ds : List D} {r : Out} (h : S__law_is_share ds r) : ds.length = 3 := by obtain ⟨_, _, _, rfl, _⟩ := h; rfl
def abStep (die : List Int) (p : Int × Int) (c : Nat) : Int × Int := (p.1 * die.sum, p.2 * wgt die c)
def tbStep (die : List Int) (b : List Nat) (p : Int × Int) (k : Int) : Int × Int := (p.1 * ((cutL b none (some k)).foldl (abStep die) (1, 1)).2 + ((cutL b none (some k)).foldl (abStep die) (1, 1)).1 * p.2, p.2 * ((cutL b none (some k)).foldl (abStep die) (1, 1)).2)
def lawMeet (die : List Int) (a b : List Nat) : Int × Int := (lawOverlaps a b).foldl (tbStep die b) (0, 1)
abbrev S__law_meeting (ds : List D) (r : Out) : Prop := ∃ (die : List Int) (a b : List Nat), ds = [nums die, sD a, sD b] ∧ okDie die ∧ okWord die.length a ∧ okWord die.length b ∧ r = .rt (pD (lawMeet die a b))
theorem S__law_meeting_len {ds : List D} {r : Out} (h : S__law_meeting ds r) : ds.length = 3 := by obtain ⟨_, _, _, rfl, _⟩ := h; rfl
theorem ab_ok {die : List Int} (h : okDie die) : ∀ (l : List Nat) (p : Int × Int) (n : Nat), okText die.length l → 0 < p.1 → 0 < p.2 → p.1 < 2 ^ n → p.2 < 2 ^ n →
    0 < (l.foldl (abStep die) p).1 ∧ 0 < (l.foldl (abStep die) p).2 ∧ (l.foldl (abStep die) p).1 < 2 ^ (n + 6 * l.length) ∧ (l.foldl (abStep die) p).2 < 2 ^ (n + 6 * l.length) ∧ Rat.divInt (l.foldl (abStep die) p).1 (l.foldl (abStep die) p).2 = l.foldl (fun q c => q * rate die c) (Rat.divInt p.1 p.2)
  | [], p, n, _, h1, h2, h3, h4 => ⟨h1, h2, h3, h4, rfl⟩
  | c :: l, p, n, ht, h1, h2, h3, h4 => by
    have hs := h.sum
    have hw := wgt_ok h (ht c List.mem_cons_self)
    rw [List.foldl_cons, List.foldl_cons, List.length_cons]
    have e : (2 : Int) ^ (n + 6) = 2 ^ n * 64 := by rw [Int.pow_add]; rfl
    have := ab_ok h l (abStep die p c) (n + 6) (fun x hx => ht x (List.mem_cons_of_mem _ hx)) (Int.mul_pos h1 (by omega)) (Int.mul_pos h2 (by omega))
      (by rw [e]; exact Int.lt_of_le_of_lt (Int.mul_le_mul_of_nonneg_left (show die.sum ≤ 64 by omega) (by omega)) (Int.mul_lt_mul_of_pos_right h3 (by decide)))
      (by rw [e]; exact Int.lt_of_le_of_lt (Int.mul_le_mul_of_nonneg_left (show wgt die c ≤ 64 by omega) (by omega)) (Int.mul_lt_mul_of_pos_right h4 (by decide)))
    have e2 : Rat.divInt (abStep die p c).1 (abStep die p c).2 = Rat.divInt p.1 p.2 * rate die c := by
      unfold rate
      rw [Rat.divInt_mul_divInt]; rfl
    rw [e2, show n + 6 + 6 * l.length = n + 6 * (l.length + 1) by omega] at this
    exact this
theorem ab_cut {die : List Int} (h : okDie die) {b : List Nat} (hb : okWord die.length b) (k : Int) :
    0 < ((cutL b none (some k)).foldl (abStep die) (1, 1)).1 ∧ 0 < ((cutL b none (some k)).foldl (abStep die) (1, 1)).2 ∧ ((cutL b none (some k)).foldl (abStep die) (1, 1)).1 < 137438953472 ∧ ((cutL b none (some k)).foldl (abStep die) (1, 1)).2 < 137438953472 ∧
    Rat.divInt ((cutL b none (some k)).foldl (abStep die) (1, 1)).1 ((cutL b none (some k)).foldl (abStep die) (1, 1)).2 = worthQ die (cutL b none (some k)) := by
  have hc := hb.cut (some k)
  obtain ⟨a1, a2, a3, a4, a5⟩ := ab_ok h (cutL b none (some k)) (1, 1) 1 hc.1 (by decide) (by decide) (by decide) (by decide)
  have le : (2 : Int) ^ (1 + 6 * (cutL b none (some k)).length) ≤ 2 ^ 37 := by
    have : (2 : Nat) ^ (1 + 6 * (cutL b none (some k)).length) ≤ 2 ^ 37 := Nat.pow_le_pow_right (by decide) (by omega)
    exact_mod_cast this
  have e37 : (2 : Int) ^ 37 = 137438953472 := by decide
  refine ⟨a1, a2, by omega, by omega, ?_⟩
  rw [a5]; rfl
theorem tb_ok {die : List Int} (h : okDie die) {b : List Nat} (hb : okWord die.length b) : ∀ (l : List Int) (p : Int × Int) (n : Nat), 0 ≤ p.1 → 0 < p.2 → p.1 < 2 ^ n → p.2 < 2 ^ n →
    0 ≤ (l.foldl (tbStep die b) p).1 ∧ 0 < (l.foldl (tbStep die b) p).2 ∧ (l.foldl (tbStep die b) p).1 < 2 ^ (n + 38 * l.length) ∧ (l.foldl (tbStep die b) p).2 < 2 ^ (n + 38 * l.length) ∧ Rat.divInt (l.foldl (tbStep die b) p).1 (l.foldl (tbStep die b) p).2 = meetFold die b l (Rat.divInt p.1 p.2)
  | [], p, n, h1, h2, h3, h4 => ⟨h1, h2, h3, h4, rfl⟩
  | k :: l, p, n, h1, h2, h3, h4 => by
    obtain ⟨a1, a2, a3, a4, a5⟩ := ab_cut h hb k
    rw [List.foldl_cons, List.length_cons]
    have e : (2 : Int) ^ (n + 38) = 2 ^ n * 137438953472 + 2 ^ n * 137438953472 := by
      have e38 : (2 : Int) ^ 38 = 274877906944 := by decide
      rw [Int.pow_add, e38]
      omega
    generalize hA : ((cutL b none (some k)).foldl (abStep die) (1, 1)).1 = A at *
    generalize hB : ((cutL b none (some k)).foldl (abStep die) (1, 1)).2 = B at *
    have es : tbStep die b p k = (p.1 * B + A * p.2, p.2 * B) := by unfold tbStep; rw [hA, hB]
    rw [es]
    have p1 : p.1 * B ≤ 2 ^ n * 137438953472 := Int.mul_le_mul (by omega) (by omega) (by omega) (by omega)
    have p2 : A * p.2 < 137438953472 * 2 ^ n := Int.lt_of_lt_of_le (Int.mul_lt_mul_of_pos_right a3 h2) (Int.mul_le_mul_of_nonneg_left (by omega) (by decide))
    have p3 : p.2 * B ≤ 2 ^ n * 137438953472 := Int.mul_le_mul (by omega) (by omega) (by omega) (by omega)
    have p4 : 0 < p.2 * B := Int.mul_pos h2 a2
    have p5 : 0 ≤ p.1 * B := Int.mul_nonneg h1 (by omega)
    have p6 : 0 < A * p.2 := Int.mul_pos a1 h2
    rw [Int.mul_comm 137438953472 (2 ^ n)] at p2
    have := tb_ok h hb l (p.1 * B + A * p.2, p.2 * B) (n + 38) (by show 0 ≤ p.1 * B + A * p.2; omega) p4 (by show p.1 * B + A * p.2 < _; omega) (by show p.2 * B < _; omega)
    have e2 : Rat.divInt (p.1 * B + A * p.2) (p.2 * B) = Rat.divInt p.1 p.2 + worthQ die (cutL b none (some k)) := by
      rw [← a5, Rat.divInt_add_divInt _ _ (by omega) (by omega)]
    rw [e2, show n + 38 + 38 * l.length = n + 38 * (l.length + 1) by omega] at this
    exact this
theorem lawMeet_ok {die : List Int} (h : okDie die) {a b : List Nat} (ha : okWord die.length a) (hb : okWord die.length b) : 0 ≤ (lawMeet die a b).1 ∧ 0 < (lawMeet die a b).2 ∧ bt 229 (lawMeet die a b).1 ∧ bt 229 (lawMeet die a b).2 ∧ Rat.divInt (lawMeet die a b).1 (lawMeet die a b).2 = meetQ die a b := by
  have l1 := overlaps_len a b
  rw [overlaps_eq] at l1
  have l6 := ha.2.1
  obtain ⟨a1, a2, a3, a4, a5⟩ := tb_ok h hb (lawOverlaps a b) (0, 1) 1 (by decide) (by decide) (by decide) (by decide)
  have le : (2 : Int) ^ (1 + 38 * (lawOverlaps a b).length) ≤ 2 ^ 229 := by
    have : (2 : Nat) ^ (1 + 38 * (lawOverlaps a b).length) ≤ 2 ^ 229 := Nat.pow_le_pow_right (by decide) (by omega)
    exact_mod_cast this
  have e : ((2 ^ 229 : Nat) : Int) = 2 ^ 229 := by norm_cast
  have a1 : 0 ≤ (lawMeet die a b).1 := a1
  have a2 : 0 < (lawMeet die a b).2 := a2
  have a3 : (lawMeet die a b).1 < 2 ^ (1 + 38 * (lawOverlaps a b).length) := a3
  have a4 : (lawMeet die a b).2 < 2 ^ (1 + 38 * (lawOverlaps a b).length) := a4
  refine ⟨a1, a2, show _ < _ by omega, show _ < _ by omega, ?_⟩
  unfold meetQ
  rw [overlaps_eq]
  exact a5
theorem share_cross {x : Rat} {a b : Int} (hb : b ≠ 0) (h : Rat.divInt a b = x) : x.num * b = a * (x.den : Int) := by
  have e := Rat.num_divInt_den x
  rw [← e, Rat.divInt_eq_divInt_iff hb (den_ne x)] at h
  exact h.symm
theorem gcd_reduced (x : Rat) : Int.gcd (x.num.natAbs : Int) (x.den : Int) = 1 := by
  have := x.reduced
  show Nat.gcd _ _ = 1
  rw [Int.natAbs_natCast, Int.natAbs_natCast]
  exact this
end Vs

/-! Means and shares: the mathematics. -/
namespace Vs
open PySem PySem.Spec L2
/-! ### the mean over the next sign -/
def prob (die : List Int) (c : Nat) : Rat := (wgt die c : Rat) / (die.sum : Rat)
def Em (die : List Int) (f : Nat → Rat) : Rat := ((sgn die.length).map fun c => prob die c * f c).sum
theorem die_cases {die : List Int} (h : okDie die) : (∃ a b, die = [a, b]) ∨ (∃ a b c, die = [a, b, c]) ∨ ∃ a b c d, die = [a, b, c, d] := by
  obtain ⟨h2, h4, _⟩ := h
  cases die with
  | nil => simp at h2
  | cons a r =>
    cases r with
    | nil => simp at h2
    | cons b r =>
      cases r with
      | nil => exact .inl ⟨a, b, rfl⟩
      | cons c r =>
        cases r with
        | nil => exact .inr (.inl ⟨a, b, c, rfl⟩)
        | cons d r =>
          cases r with
          | nil => exact .inr (.inr ⟨a, b, c, d, rfl⟩)
          | cons e r =>
            simp only [List.length_cons] at h4
            omega
theorem sum_pos {die : List Int} (h : okDie die) : (0 : Rat) < (die.sum : Rat) := by
  have := h.sum
  exact_mod_cast (show 0 < die.sum by omega)
theorem list_sum_map_add {α : Type} (f g : α → Rat) : ∀ l : List α, (l.map fun a => f a + g a).sum = (l.map f).sum + (l.map g).sum
  | [] => by show (0 : Rat) = 0 + 0; grind
  | a :: l => by
    have := list_sum_map_add f g l
    simp only [List.map_cons, List.sum_cons]
    grind
theorem list_sum_map_mul {α : Type} (k : Rat) (f : α → Rat) : ∀ l : List α, (l.map fun a => k * f a).sum = k * (l.map f).sum
  | [] => by simp
  | a :: l => by
    have := list_sum_map_mul k f l
    simp only [List.map_cons, List.sum_cons]
    grind
theorem zero_sum {α : Type} {f : α → Rat} : ∀ {l : List α}, (∀ a ∈ l, f a = 0) → (l.map f).sum = 0
  | [], _ => rfl
  | a :: l, h => by
    rw [List.map_cons, List.sum_cons, h a List.mem_cons_self, zero_sum fun b hb => h b (List.mem_cons_of_mem _ hb)]
    grind
theorem list_sum_le {α : Type} {f g : α → Rat} : ∀ {l : List α}, (∀ a ∈ l, f a ≤ g a) → (l.map f).sum ≤ (l.map g).sum
  | [], _ => by show (0 : Rat) ≤ 0; exact Rat.le_refl
  | a :: l, h => by
    have h1 := h a List.mem_cons_self
    have h2 := list_sum_le (l := l) fun b hb => h b (List.mem_cons_of_mem _ hb)
    simp only [List.map_cons, List.sum_cons]
    grind
section
variable {die : List Int} (hd : okDie die)
include hd
theorem prob_pos {c : Nat} (hc : c ∈ sgn die.length) : 0 < prob die c := by
  have h1 := wgt_ok hd hc
  have h2 := sum_pos hd
  unfold prob
  have h3 : (0 : Rat) < (wgt die c : Rat) := by exact_mod_cast (show 0 < wgt die c by omega)
  rw [Rat.div_def]
  exact Rat.mul_pos h3 (Rat.inv_pos.mpr h2)
theorem prob_rate {c : Nat} (hc : c ∈ sgn die.length) : prob die c * rate die c = 1 := by
  have h1 := wgt_ok hd hc
  have h2 := sum_pos hd
  unfold prob rate
  rw [Rat.divInt_eq_div]
  have h3 : (wgt die c : Rat) ≠ 0 := by
    intro e
    have : wgt die c = 0 := by exact_mod_cast e
    omega
  grind
theorem Em_const (a : Rat) : Em die (fun _ => a) = a := by
  have h2 := sum_pos hd
  unfold Em
  rcases die_cases hd with ⟨x, y, rfl⟩ | ⟨x, y, z, rfl⟩ | ⟨x, y, z, u, rfl⟩
  · have e : ([x, y] : List Int).sum = x + y := by simp
    show prob [x, y] 97 * a + (prob [x, y] 98 * a + 0) = a
    unfold prob
    have e1 : wgt [x, y] 97 = x := rfl
    have e2 : wgt [x, y] 98 = y := rfl
    rw [e1, e2]
    rw [e] at h2 ⊢
    rw [Rat.intCast_add] at h2 ⊢
    grind
  · have e : ([x, y, z] : List Int).sum = x + y + z := by simp; omega
    show prob [x, y, z] 97 * a + (prob [x, y, z] 98 * a + (prob [x, y, z] 99 * a + 0)) = a
    unfold prob
    have e1 : wgt [x, y, z] 97 = x := rfl
    have e2 : wgt [x, y, z] 98 = y := rfl
    have e3 : wgt [x, y, z] 99 = z := rfl
    rw [e1, e2, e3]
    rw [e] at h2 ⊢
    rw [Rat.intCast_add, Rat.intCast_add] at h2 ⊢
    grind
  · have e : ([x, y, z, u] : List Int).sum = x + y + z + u := by simp; omega
    show prob [x, y, z, u] 97 * a + (prob [x, y, z, u] 98 * a + (prob [x, y, z, u] 99 * a + (prob [x, y, z, u] 100 * a + 0))) = a
    unfold prob
    have e1 : wgt [x, y, z, u] 97 = x := rfl
    have e2 : wgt [x, y, z, u] 98 = y := rfl
    have e3 : wgt [x, y, z, u] 99 = z := rfl
    have e4 : wgt [x, y, z, u] 100 = u := rfl
    rw [e1, e2, e3, e4]
    rw [e] at h2 ⊢
    rw [Rat.intCast_add, Rat.intCast_add, Rat.intCast_add] at h2 ⊢
    grind
theorem Em_mono {f g : Nat → Rat} (h : ∀ c ∈ sgn die.length, f c ≤ g c) : Em die f ≤ Em die g := by
  unfold Em
  exact list_sum_le fun c hc => Rat.mul_le_mul_of_nonneg_left (h c hc) (Rat.le_of_lt (prob_pos hd hc))
end
theorem Em_add {die : List Int} (f g : Nat → Rat) : Em die (fun c => f c + g c) = Em die f + Em die g := by
  unfold Em
  rw [← list_sum_map_add]
  congr 1
  refine List.map_congr_left fun c _ => ?_
  grind
theorem Em_mul {die : List Int} (k : Rat) (f : Nat → Rat) : Em die (fun c => k * f c) = k * Em die f := by
  unfold Em
  rw [← list_sum_map_mul]
  congr 1
  refine List.map_congr_left fun c _ => ?_
  grind
theorem Em_congr {die : List Int} {f g : Nat → Rat} (h : ∀ c ∈ sgn die.length, f c = g c) : Em die f = Em die g := by
  unfold Em
  congr 1
  exact List.map_congr_left fun c hc => by rw [h c hc]
theorem Em_zero {die : List Int} : Em die (fun _ => 0) = 0 := zero_sum fun c _ => by grind
theorem Em_sum {α : Type} {die : List Int} (F : Nat → α → Rat) : ∀ l : List α, Em die (fun c => (l.map (F c)).sum) = (l.map fun a => Em die fun c => F c a).sum
  | [] => Em_zero
  | a :: l => by
    rw [List.map_cons, List.sum_cons, ← Em_sum F l, ← Em_add]
    exact Em_congr fun c _ => by rw [List.map_cons, List.sum_cons]
theorem Em_single {die : List Int} {c0 : Nat} (h : c0 ∈ sgn die.length) (a : Rat) : Em die (fun c => if c = c0 then a else 0) = prob die c0 * a := by
  unfold Em
  have nd : (sgn die.length).Nodup := (show abcd.Nodup by decide).sublist (List.take_sublist _ _)
  generalize sgn die.length = l at h nd
  induction l with
  | nil => exact nomatch h
  | cons x l ih =>
    obtain ⟨n1, n2⟩ := List.nodup_cons.mp nd
    rw [List.map_cons, List.sum_cons]
    by_cases e : x = c0
    · subst e
      have z : (l.map fun c => prob die c * (if c = x then a else 0)).sum = 0 := zero_sum fun c hc => by
        rw [if_neg (fun e => n1 (by rw [← e]; exact hc))]
        grind
      show prob die x * (if x = x then a else 0) + _ = _
      rw [z, if_pos rfl]
      grind
    · show prob die x * (if x = c0 then a else 0) + _ = _
      rw [if_neg e, ih ((List.mem_cons.mp h).resolve_left fun q => e q.symm) n2]
      grind
/-! ### what a text holds of a word -/
def hT (die : List Int) (w t : List Nat) (k : Nat) : Rat := if w.take k <:+ t then worthQ die (w.take k) else 0
/-- all beginnings of w, the empty one not, that end t -/
def uF (die : List Int) (w t : List Nat) : Rat := ((List.range w.length).map fun k => hT die w t (k + 1)).sum
/-- .. w itself not, the empty one too -/
def eF (die : List Int) (w t : List Nat) : Rat := ((List.range w.length).map fun k => hT die w t k).sum
theorem worth_nil (die : List Int) : worthQ die [] = 1 := rfl
theorem worth_snoc (die : List Int) (t : List Nat) (c : Nat) : worthQ die (t ++ [c]) = worthQ die t * rate die c := by
  unfold worthQ
  rw [List.foldl_append]; rfl
theorem take_snoc {w : List Nat} {k : Nat} (h : k < w.length) : w.take (k + 1) = w.take k ++ [w.getD k 0] := by
  rw [List.take_add_one, List.getElem?_eq_getElem h, getD_lt h]; rfl
theorem suffix_snoc {a t : List Nat} {x c : Nat} : a ++ [x] <:+ t ++ [c] ↔ c = x ∧ a <:+ t := by
  constructor
  · rintro ⟨s, e⟩
    rw [← List.append_assoc] at e
    obtain ⟨e1, e2⟩ := List.append_inj' e rfl
    exact ⟨(List.cons.inj e2).1.symm, s, e1⟩
  · rintro ⟨rfl, s, e⟩
    exact ⟨s, by rw [← List.append_assoc, e]⟩
theorem u_step {die : List Int} (hd : okDie die) {w : List Nat} (hw : okText die.length w) (t : List Nat) : Em die (fun c => uF die w (t ++ [c])) = eF die w t := by
  unfold uF eF
  rw [Em_sum]
  congr 1
  refine List.map_congr_left fun k hk => ?_
  have hk := List.mem_range.mp hk
  have hc : w.getD k 0 ∈ sgn die.length := hw _ (getD_mem hk)
  by_cases hs : w.take k <:+ t
  · have e : ∀ c ∈ sgn die.length, hT die w (t ++ [c]) (k + 1) = if c = w.getD k 0 then worthQ die (w.take k) * rate die (w.getD k 0) else 0 := fun c _ => by
      unfold hT
      rw [take_snoc hk]
      by_cases e : c = w.getD k 0
      · rw [if_pos (suffix_snoc.mpr ⟨e, hs⟩), if_pos e, worth_snoc]
      · rw [if_neg (fun q => e (suffix_snoc.mp q).1), if_neg e]
    rw [Em_congr e, Em_single hc]
    have pr := prob_rate hd hc
    have e3 : hT die w t k = worthQ die (w.take k) := if_pos hs
    rw [e3]
    grind
  · have e : ∀ c ∈ sgn die.length, hT die w (t ++ [c]) (k + 1) = 0 := fun c _ => by
      unfold hT
      rw [take_snoc hk, if_neg (fun q => hs (suffix_snoc.mp q).2)]
    have e3 : hT die w t k = 0 := if_neg hs
    rw [Em_congr e, Em_zero, e3]
theorem sum_range_succ' (f : Nat → Rat) : ∀ n, ((List.range (n + 1)).map f).sum = f 0 + ((List.range n).map fun k => f (k + 1)).sum := fun n => by
  rw [List.range_succ_eq_map, List.map_cons, List.sum_cons, List.map_map]; rfl
theorem sum_range_succ (f : Nat → Rat) (n : Nat) : ((List.range (n + 1)).map f).sum = ((List.range n).map f).sum + f n := by
  rw [List.range_succ, List.map_append, List.sum_append]
  simp only [List.map_cons, List.map_nil, List.sum_cons, List.sum_nil]
  grind
/-- behind a text that w does not end -/
theorem e_open {die : List Int} {w t : List Nat} (h1 : 1 ≤ w.length) (h : ¬ w <:+ t) : eF die w t = 1 + uF die w t := by
  unfold eF uF
  obtain ⟨n, hn⟩ : ∃ n, w.length = n + 1 := ⟨w.length - 1, by omega⟩
  rw [hn, sum_range_succ', sum_range_succ]
  have e0 : hT die w t 0 = 1 := by unfold hT; rw [List.take_zero, if_pos List.nil_suffix, worth_nil]
  have en : hT die w t (n + 1) = 0 := by unfold hT; rw [← hn, List.take_length, if_neg h]
  rw [e0, en]
  grind
theorem u_open {die : List Int} (hd : okDie die) {w t : List Nat} (hw : okWord die.length w) (h : ¬ w <:+ t) : Em die (fun c => uF die w (t ++ [c])) = 1 + uF die w t := by
  rw [u_step hd hw.2.2, e_open hw.1 h]
theorem u_state {ws : List (List Nat)} {w : List Nat} (hw : w ∈ ws) (die : List Int) (t : List Nat) : uF die w t = uF die w (stateL ws t) := by
  unfold uF
  congr 1
  refine List.map_congr_left fun k _ => ?_
  unfold hT
  obtain ⟨_, a2, a3⟩ := state_spec ws t
  have : w.take (k + 1) <:+ t ↔ w.take (k + 1) <:+ stateL ws t := by
    constructor
    · intro h
      exact List.suffix_of_suffix_length_le h a2 (a3 _ h ⟨w, hw, List.take_prefix _ _⟩)
    · exact fun h => h.trans a2
  by_cases h : w.take (k + 1) <:+ t
  · rw [if_pos h, if_pos (this.mp h)]
  · rw [if_neg h, if_neg (fun q => h (this.mpr q))]
theorem u_nil {die : List Int} {w : List Nat} : uF die w [] = 0 := zero_sum fun k hk => by
  have hk := List.mem_range.mp hk
  unfold hT
  rw [if_neg]
  intro h
  have := h.length_le
  rw [List.length_take, List.length_nil] at this
  omega
/-! ### the greatest value stands on a word -/
theorem list_max {α : Type} (f : α → Rat) : ∀ {l : List α}, l ≠ [] → ∃ a ∈ l, ∀ b ∈ l, f b ≤ f a
  | [], h => absurd rfl h
  | [a], _ => ⟨a, List.mem_cons_self, fun b hb => by rw [List.mem_singleton.mp hb]; exact Rat.le_refl⟩
  | a :: b :: l, _ => by
    obtain ⟨m, hm, q⟩ := list_max f (l := b :: l) (by simp)
    rcases Rat.le_total (a := f a) (b := f m) with h | h
    · refine ⟨m, List.mem_cons_of_mem _ hm, fun x hx => ?_⟩
      rcases List.mem_cons.mp hx with rfl | hx
      · exact h
      · exact q x hx
    · refine ⟨a, List.mem_cons_self, fun x hx => ?_⟩
      rcases List.mem_cons.mp hx with rfl | hx
      · exact Rat.le_refl
      · exact Rat.le_trans (q x hx) h
theorem state_self {ws : List (List Nat)} {t : List Nat} (h : ∃ w ∈ ws, t <+: w) : stateL ws t = t := by
  obtain ⟨a1, a2, a3⟩ := state_spec ws t
  exact a2.eq_of_length_le (a3 t (List.suffix_refl _) h)
/-- where each value is at most the mean of the next ones, the greatest stands on a word -/
theorem max_word {die : List Int} (hd : okDie die) {ws : List (List Nat)} (hne : ws ≠ []) (hok : ∀ w ∈ ws, okText die.length w) (h : List Nat → Rat)
    (sub : ∀ t, (∃ w ∈ ws, t <+: w) → t ∉ ws → h t ≤ Em die fun c => h (stateL ws (t ++ [c]))) : ∃ w ∈ ws, ∀ t, (∃ w ∈ ws, t <+: w) → h t ≤ h w := by
  have bn : beginsL ws ≠ [] := by
    obtain ⟨w, r, rfl⟩ : ∃ w r, ws = w :: r := by
      cases ws with
      | nil => exact absurd rfl hne
      | cons w r => exact ⟨w, r, rfl⟩
    intro e
    have : [] ∈ beginsL (w :: r) := begins_mem.mpr ⟨w, List.mem_cons_self, List.nil_prefix⟩
    rw [e] at this
    exact nomatch this
  obtain ⟨m, hm, q⟩ := list_max h bn
  have q' : ∀ t, (∃ w ∈ ws, t <+: w) → h t ≤ h m := fun t ht => q t (begins_mem.mpr ht)
  obtain ⟨w, hw, hp⟩ := begins_mem.mp hm
  -- the greatest value goes on along w
  have key : ∀ n k, k + n = w.length → h (w.take k) = h m → ∃ w' ∈ ws, h w' = h m := by
    intro n
    induction n with
    | zero =>
      intro k hk e
      rw [List.take_of_length_le (by omega)] at e
      exact ⟨w, hw, e⟩
    | succ n ih =>
      intro k hk e
      have hk' : k < w.length := by omega
      by_cases hin : w.take k ∈ ws
      · exact ⟨_, hin, e⟩
      · have s := sub (w.take k) ⟨w, hw, List.take_prefix _ _⟩ hin
        refine ih (k + 1) (by omega) ?_
        have hc : w.getD k 0 ∈ sgn die.length := hok w hw _ (getD_mem hk')
        have hnext : stateL ws (w.take k ++ [w.getD k 0]) = w.take (k + 1) := by
          rw [← take_snoc hk']
          exact state_self ⟨w, hw, List.take_prefix _ _⟩
        have le1 : ∀ c ∈ sgn die.length, h (stateL ws (w.take k ++ [c])) ≤ h m + (if c = w.getD k 0 then h (w.take (k + 1)) - h m else 0) := fun c _ => by
          by_cases e : c = w.getD k 0
          · rw [if_pos e, e, hnext]; grind
          · rw [if_neg e]
            have := q' _ (state_pre hne (w.take k ++ [c]))
            grind
        have m1 := Em_mono hd le1
        rw [Em_add, Em_const hd, Em_single hc] at m1
        have pp := prob_pos hd hc
        have up := q' (w.take (k + 1)) ⟨w, hw, List.take_prefix _ _⟩
        rw [e] at s
        have nn : 0 ≤ prob die (w.getD k 0) * (h (w.take (k + 1)) - h m) := by grind
        by_cases z : h (w.take (k + 1)) - h m = 0
        · grind
        · exfalso
          have lt : 0 < h m - h (w.take (k + 1)) := by grind
          have := Rat.mul_pos pp lt
          grind
  have e0 : h (w.take m.length) = h m := by rw [← List.prefix_iff_eq_take.mp hp]
  obtain ⟨w', hw', e'⟩ := key (w.length - m.length) m.length (by have := hp.length_le; omega) e0
  exact ⟨w', hw', fun t ht => by rw [e']; exact q' t ht⟩
end Vs

/-! What the defs compute: rows counted by states. -/
namespace Vs
open PySem PySem.Spec L2
abbrev Cn := List (List Nat × Int)
def get0 (kv : Cn) (t : List Nat) : Int := (kv.lookup t).getD 0
def addKv (kv : Cn) (t : List Nat) (c : Int) : Cn := putL kv t (get0 kv t + c)
def longSt (next : List Nat → List Nat) (sg : List Nat) (ws : List (List Nat)) (cnt kv : Cn) (st : List Nat) : Cn := if st ∈ ws then kv else sg.foldl (fun kv s => addKv kv (next (st ++ [s])) (get0 cnt st)) kv
def longL (next : List Nat → List Nat) (sg : List Nat) (ws : List (List Nat)) (cnt : Cn) : Cn := (cnt.map (·.1)).foldl (longSt next sg ws cnt) []
def countL (next : List Nat → List Nat) (sg : List Nat) (ws : List (List Nat)) (m : Nat) : Cn := (List.range m).foldl (fun c _ => longL next sg ws c) [([], 1)]
abbrev sgC (n : Nat) : List Nat := cutL abcd none (some (n : Int))
theorem sgC_eq (n : Nat) : sgC n = sgn n := cutL_to abcd n
abbrev S_longer (ds : List D) (r : Out) : Prop := ∃ (die : List Int) (ws kn : List (List Nat)) (cnt : Cn), ds = [nums die, txts ws, txts kn, dD iD cnt] ∧ cnt.length ≤ 1000 ∧ (∀ t ∈ cnt.map (·.1), t.length ≤ 900) ∧ r = .rm (dkv iD (longL (longestEnd kn) (sgC die.length) ws cnt))
theorem S_longer_len {ds : List D} {r : Out} (h : S_longer ds r) : ds.length = 4 := by obtain ⟨_, _, _, _, rfl, _⟩ := h; rfl
abbrev cntP (n : Nat) (ws : List (List Nat)) (m : Nat) : Cn := countL (longestEnd (beginsL ws)) (sgC n) ws m
abbrev S_counted (ds : List D) (r : Out) : Prop := ∃ (die : List Int) (ws : List (List Nat)) (m : Int), ds = [nums die, txts ws, iD m] ∧ okRace die ws ∧ 0 ≤ m ∧ m ≤ 60 ∧ r = .rt (dD iD (cntP die.length ws m.toNat))
theorem S_counted_len {ds : List D} {r : Out} (h : S_counted ds r) : ds.length = 3 := by obtain ⟨_, _, _, rfl, _⟩ := h; rfl
def openT (ws : List (List Nat)) (t : List Nat) : Bool := !decide (t ∈ ws)
def openN (ws : List (List Nat)) (cnt : Cn) : Int := (((cnt.map (·.1)).filter (openT ws)).map (get0 cnt)).sum
def endsN (ws : List (List Nat)) (cnt : Cn) : List Int := ws.map (get0 cnt)
abbrev S_open_rows (ds : List D) (r : Out) : Prop := ∃ (die : List Int) (ws : List (List Nat)) (m : Int), ds = [nums die, txts ws, iD m] ∧ okRace die ws ∧ 0 ≤ m ∧ m ≤ 60 ∧ r = .rt (iD (openN ws (cntP die.length ws m.toNat)))
theorem S_open_rows_len {ds : List D} {r : Out} (h : S_open_rows ds r) : ds.length = 3 := by obtain ⟨_, _, _, rfl, _⟩ := h; rfl
abbrev S_ended_rows (ds : List D) (r : Out) : Prop := ∃ (die : List Int) (ws : List (List Nat)) (m : Int), ds = [nums die, txts ws, iD m] ∧ okRace die ws ∧ 0 ≤ m ∧ m ≤ 60 ∧ r = .rn ((endsN ws (cntP die.length ws m.toNat)).map iD)
theorem S_ended_rows_len {ds : List D} {r : Out} (h : S_ended_rows ds r) : ds.length = 3 := by obtain ⟨_, _, _, rfl, _⟩ := h; rfl
theorem lookup_key {kv : Cn} {t : List Nat} (h : t ∈ kv.map (·.1)) : kv.lookup t = some (get0 kv t) := by
  unfold get0
  induction kv with
  | nil => exact nomatch h
  | cons p kv ih =>
    obtain ⟨k, v⟩ := p
    rw [List.lookup_cons]
    cases e : (t == k) with
    | true => rfl
    | false =>
      refine ih ?_
      rcases List.mem_cons.mp h with rfl | h
      · simp at e
      · exact h
theorem get0_not {kv : Cn} {t : List Nat} (h : t ∉ kv.map (·.1)) : get0 kv t = 0 := by
  unfold get0
  induction kv with
  | nil => rfl
  | cons p kv ih =>
    obtain ⟨k, v⟩ := p
    rw [List.lookup_cons]
    have e : (t == k) = false := by
      rw [beq_eq_false_iff_ne]
      exact fun e => h (by rw [e]; exact List.mem_cons_self)
    rw [e]
    exact ih fun m => h (List.mem_cons_of_mem _ m)
/-! ### sizes, keys -/
theorem long_fold_len {next : List Nat → List Nat} {c : Int} {st : List Nat} : ∀ (sg : List Nat) (kv : Cn), (sg.foldl (fun kv s => addKv kv (next (st ++ [s])) c) kv).length ≤ kv.length + sg.length
  | [], kv => Nat.le_refl _
  | s :: sg, kv => by
    rw [List.foldl_cons, List.length_cons]
    have := long_fold_len (next := next) (c := c) (st := st) sg (addKv kv (next (st ++ [s])) c)
    have h2 : (addKv kv (next (st ++ [s])) c).length ≤ kv.length + 1 := putL_len _ _ _
    omega
theorem longSt_len {next : List Nat → List Nat} {sg : List Nat} {ws : List (List Nat)} {cnt kv : Cn} {st : List Nat} : (longSt next sg ws cnt kv st).length ≤ kv.length + sg.length := by
  unfold longSt
  split
  · omega
  · exact long_fold_len sg kv
theorem sgC_len (n : Nat) : (sgC n).length ≤ 4 := Nat.le_trans (cutL_len _ _ _) (Nat.le_refl _)
theorem nodup_sub_len : ∀ {a b : List (List Nat)}, a.Nodup → (∀ t ∈ a, t ∈ b) → a.length ≤ b.length
  | [], _, _, _ => Nat.zero_le _
  | x :: a, b, n, h => by
    obtain ⟨n1, n2⟩ := List.nodup_cons.mp n
    have hx := h x List.mem_cons_self
    have := nodup_sub_len (b := b.erase x) n2 fun t ht => by
      have hne : t ≠ x := fun e => n1 (by rw [← e]; exact ht)
      exact (List.mem_erase_of_ne hne).mpr (h t (List.mem_cons_of_mem _ ht))
    rw [List.length_erase_of_mem hx] at this
    have hb : 0 < b.length := List.length_pos_of_mem hx
    rw [List.length_cons]; omega
/-- keys once each, all of them in known -/
def KeyOk (kn : List (List Nat)) (kv : Cn) : Prop := (kv.map (·.1)).Nodup ∧ ∀ t ∈ kv.map (·.1), t ∈ kn
theorem KeyOk.add {kn : List (List Nat)} {kv : Cn} {t : List Nat} {c : Int} (h : KeyOk kn kv) (ht : t ∈ kn) : KeyOk kn (addKv kv t c) :=
  ⟨putL_nodup h.1, fun u hu => (putL_mem.mp hu).elim (fun e => by rw [e]; exact ht) (h.2 u)⟩
theorem longL_ok {kn : List (List Nat)} {next : List Nat → List Nat} (hn : ∀ t, next t ∈ kn) (sg : List Nat) (ws : List (List Nat)) (cnt : Cn) : KeyOk kn (longL next sg ws cnt) := by
  unfold longL
  refine foldl_inv (KeyOk kn) _ _ _ ⟨List.Pairwise.nil, fun _ h => nomatch h⟩ fun kv st _ ih => ?_
  unfold longSt
  split
  · exact ih
  · exact foldl_inv (KeyOk kn) _ _ _ ih fun kv s _ ih => ih.add (hn _)
theorem countL_ok {kn : List (List Nat)} {next : List Nat → List Nat} (hn : ∀ t, next t ∈ kn) (h0 : [] ∈ kn) (sg : List Nat) (ws : List (List Nat)) (m : Nat) : KeyOk kn (countL next sg ws m) := by
  unfold countL
  refine foldl_inv (KeyOk kn) _ _ _ ⟨List.pairwise_singleton _ _, fun t h => ?_⟩ fun kv st _ _ => longL_ok hn sg ws kv
  rw [List.mem_singleton.mp h]; exact h0
theorem long_in {ws : List (List Nat)} (hne : ws ≠ []) (t : List Nat) : longestEnd (beginsL ws) t ∈ beginsL ws := by
  rw [longest_state]
  exact begins_mem.mpr (state_pre hne t)
theorem nil_in {ws : List (List Nat)} (hne : ws ≠ []) : [] ∈ beginsL ws := by
  obtain ⟨w, r, rfl⟩ : ∃ w r, ws = w :: r := by
    cases ws with
    | nil => exact absurd rfl hne
    | cons w r => exact ⟨w, r, rfl⟩
  exact begins_mem.mpr ⟨w, List.mem_cons_self, List.nil_prefix⟩
theorem cntP_ok {n : Nat} {ws : List (List Nat)} (hne : ws ≠ []) (m : Nat) : KeyOk (beginsL ws) (cntP n ws m) := countL_ok (long_in hne) (nil_in hne) _ _ _
theorem okRace.ne {die : List Int} {ws : List (List Nat)} (ok : okRace die ws) : ws ≠ [] := fun e => by
  have := ok.2.2.1
  rw [e] at this
  exact absurd this (by decide)
theorem key_sizes {ws : List (List Nat)} (h4 : ws.length ≤ 4) (h6 : ∀ w ∈ ws, w.length ≤ 6) {kv : Cn} (h : KeyOk (beginsL ws) kv) : kv.length ≤ 28 ∧ ∀ t ∈ kv.map (·.1), t.length ≤ 6 := by
  have l := nodup_sub_len h.1 h.2
  rw [List.length_map] at l
  refine ⟨Nat.le_trans l (begins_len h4 h6), fun t ht => ?_⟩
  obtain ⟨w, hw, hp⟩ := begins_mem.mp (h.2 t ht)
  exact Nat.le_trans hp.length_le (h6 w hw)
/-! ### sums over a count -/
def sumG (cnt : Cn) (g : List Nat → Int) : Int := (cnt.map fun p => p.2 * g p.1).sum
theorem sumG_add {kv : Cn} (hn : (kv.map (·.1)).Nodup) (t : List Nat) (c : Int) (g : List Nat → Int) : sumG (addKv kv t c) g = sumG kv g + c * g t := by
  unfold addKv putL
  by_cases ht : t ∈ kv.map (·.1)
  · rw [if_pos (by rw [List.any_eq_true]; obtain ⟨p, h1, h2⟩ := List.mem_map.mp ht; exact ⟨p, h1, decide_eq_true h2⟩)]
    induction kv with
    | nil => exact nomatch ht
    | cons p kv ih =>
      obtain ⟨k, v⟩ := p
      obtain ⟨n1, n2⟩ := List.nodup_cons.mp hn
      have n1 : k ∉ kv.map (·.1) := n1
      by_cases e : k = t
      · subst e
        have g0 : get0 ((k, v) :: kv) k = v := by unfold get0; rw [List.lookup_cons]; simp
        have rest : (kv.map fun p => if p.1 = k then (p.1, v + c) else p) = kv := by
          have : ∀ p ∈ kv, (if p.1 = k then (p.1, v + c) else p) = p := fun p hp => if_neg fun e => n1 (by rw [← e]; exact List.mem_map.mpr ⟨p, hp, rfl⟩)
          rw [List.map_congr_left this]
          exact List.map_id _
        rw [g0, List.map_cons, rest]
        show sumG ((if k = k then (k, v + c) else (k, v)) :: kv) g = _
        rw [if_pos rfl]
        unfold sumG
        rw [List.map_cons, List.map_cons, List.sum_cons, List.sum_cons]
        show (v + c) * g k + _ = v * g k + _ + c * g k
        rw [Int.add_mul]; omega
      · have ht' : t ∈ kv.map (·.1) := by
          rcases List.mem_cons.mp ht with h | h
          · exact absurd h.symm e
          · exact h
        have g0 : get0 ((k, v) :: kv) t = get0 kv t := by
          unfold get0
          rw [List.lookup_cons]
          have : (t == k) = false := beq_eq_false_iff_ne.mpr fun h => e h.symm
          rw [this]
        have := ih n2 ht'
        rw [g0, List.map_cons]
        show sumG ((if k = t then (k, get0 kv t + c) else (k, v)) :: _) g = _
        rw [if_neg e]
        unfold sumG at this ⊢
        rw [List.map_cons, List.sum_cons, this, List.map_cons, List.sum_cons]
        omega
  · rw [if_neg (by rw [List.any_eq_true]; rintro ⟨p, h1, h2⟩; exact ht (List.mem_map.mpr ⟨p, h1, of_decide_eq_true h2⟩)), get0_not ht]
    unfold sumG
    rw [List.map_append, List.sum_append]
    show _ + ((0 + c) * g t + 0) = _
    rw [Int.zero_add, Int.add_zero]
theorem sumG_fold {next : List Nat → List Nat} {c : Int} {st : List Nat} {g : List Nat → Int} : ∀ (sg : List Nat) (kv : Cn), (kv.map (·.1)).Nodup → sumG (sg.foldl (fun kv s => addKv kv (next (st ++ [s])) c) kv) g = sumG kv g + c * (sg.map fun s => g (next (st ++ [s]))).sum ∧ ((sg.foldl (fun kv s => addKv kv (next (st ++ [s])) c) kv).map (·.1)).Nodup
  | [], kv, n => ⟨by show sumG kv g = sumG kv g + c * 0; rw [Int.mul_zero, Int.add_zero], n⟩
  | s :: sg, kv, n => by
    obtain ⟨h1, h2⟩ := sumG_fold (next := next) (c := c) (st := st) (g := g) sg (addKv kv (next (st ++ [s])) c) (putL_nodup n)
    refine ⟨?_, h2⟩
    rw [List.foldl_cons, h1, sumG_add n, List.map_cons, List.sum_cons, Int.mul_add]
    omega
/-- what comes of a state -/
def aft (next : List Nat → List Nat) (sg : List Nat) (ws : List (List Nat)) (g : List Nat → Int) (st : List Nat) : Int := if st ∈ ws then 0 else (sg.map fun s => g (next (st ++ [s]))).sum
theorem sumG_keys {cnt : Cn} (hn : (cnt.map (·.1)).Nodup) (G : List Nat → Int) : ((cnt.map (·.1)).map fun st => get0 cnt st * G st).sum = sumG cnt G := by
  unfold sumG
  rw [List.map_map]
  congr 1
  refine List.map_congr_left fun p hp => ?_
  show get0 cnt p.1 * G p.1 = p.2 * G p.1
  congr 1
  induction cnt with
  | nil => exact nomatch hp
  | cons q cnt ih =>
    obtain ⟨k, v⟩ := q
    obtain ⟨n1, n2⟩ := List.nodup_cons.mp hn
    have n1 : k ∉ cnt.map (·.1) := n1
    unfold get0
    rw [List.lookup_cons]
    rcases List.mem_cons.mp hp with rfl | hp
    · simp
    · have : (p.1 == k) = false := beq_eq_false_iff_ne.mpr fun e => n1 (by rw [← e]; exact List.mem_map.mpr ⟨p, hp, rfl⟩)
      rw [this]
      exact ih n2 hp
theorem sumG_long {next : List Nat → List Nat} {sg : List Nat} {ws : List (List Nat)} {cnt : Cn} (hn : (cnt.map (·.1)).Nodup) (g : List Nat → Int) : sumG (longL next sg ws cnt) g = sumG cnt (aft next sg ws g) := by
  rw [← sumG_keys hn]
  unfold longL
  have key : ∀ (l : List (List Nat)) (kv : Cn), (kv.map (·.1)).Nodup → sumG (l.foldl (longSt next sg ws cnt) kv) g = sumG kv g + (l.map fun st => get0 cnt st * aft next sg ws g st).sum := by
    intro l
    induction l with
    | nil => intro kv _; show sumG kv g = sumG kv g + 0; rw [Int.add_zero]
    | cons st l ih =>
      intro kv n
      rw [List.foldl_cons, List.map_cons, List.sum_cons]
      by_cases hw : st ∈ ws
      · have e : longSt next sg ws cnt kv st = kv := if_pos hw
        have e2 : aft next sg ws g st = 0 := if_pos hw
        rw [e, e2, ih kv n, Int.mul_zero, Int.zero_add]
      · have e : longSt next sg ws cnt kv st = sg.foldl (fun kv s => addKv kv (next (st ++ [s])) (get0 cnt st)) kv := if_neg hw
        have e2 : aft next sg ws g st = (sg.map fun s => g (next (st ++ [s]))).sum := if_neg hw
        obtain ⟨h1, h2⟩ := sumG_fold (next := next) (c := get0 cnt st) (st := st) (g := g) sg kv n
        rw [e, e2, ih _ h2, h1]
        omega
  have := key (cnt.map (·.1)) [] List.Pairwise.nil
  rw [this]
  show 0 + _ = _
  rw [Int.zero_add]
/-! ### the rows themselves -/
def extR (sg : List Nat) (R : List (List Nat)) : List (List Nat) := R.flatMap fun r => sg.map fun s => r ++ [s]
def Rows (sg : List Nat) (ws : List (List Nat)) : Nat → List (List Nat)
  | 0 => [[]]
  | m + 1 => extR sg ((Rows sg ws m).filter fun r => openT ws (stateL ws r))
theorem sum_flatMap {α β : Type} (f : β → Int) (h : α → List β) : ∀ l : List α, ((l.flatMap h).map f).sum = (l.map fun a => ((h a).map f).sum).sum
  | [] => rfl
  | a :: l => by rw [List.flatMap_cons, List.map_append, List.sum_append, sum_flatMap f h l, List.map_cons, List.sum_cons]
theorem sum_filter {α : Type} (p : α → Bool) (f : α → Int) : ∀ l : List α, ((l.filter p).map f).sum = (l.map fun a => if p a = true then f a else 0).sum
  | [] => rfl
  | a :: l => by
    rw [List.map_cons, List.sum_cons]
    by_cases h : p a = true
    · rw [List.filter_cons_of_pos h, List.map_cons, List.sum_cons, sum_filter p f l, if_pos h]
    · rw [List.filter_cons_of_neg h, sum_filter p f l, if_neg h, Int.zero_add]
theorem state_nil (ws : List (List Nat)) : stateL ws [] = [] := List.eq_nil_of_suffix_nil (state_spec ws []).2.1
theorem rep {ws : List (List Nat)} (hne : ws ≠ []) (sg : List Nat) (g : List Nat → Int) : ∀ m : Nat, sumG (countL (longestEnd (beginsL ws)) sg ws m) g = ((Rows sg ws m).map fun r => g (stateL ws r)).sum := by
  have key : ∀ (m : Nat) (g : List Nat → Int), sumG (countL (longestEnd (beginsL ws)) sg ws m) g = ((Rows sg ws m).map fun r => g (stateL ws r)).sum := by
    intro m
    induction m with
    | zero =>
      intro g
      show 1 * g [] + 0 = g (stateL ws []) + 0
      rw [state_nil, Int.one_mul]
    | succ m ih =>
      intro g
      have e : countL (longestEnd (beginsL ws)) sg ws (m + 1) = longL (longestEnd (beginsL ws)) sg ws (countL (longestEnd (beginsL ws)) sg ws m) := by
        unfold countL
        rw [List.range_succ, List.foldl_append]; rfl
      rw [e, sumG_long (countL_ok (long_in hne) (nil_in hne) sg ws m).1, ih]
      show _ = ((extR sg ((Rows sg ws m).filter fun r => openT ws (stateL ws r))).map fun r => g (stateL ws r)).sum
      unfold extR
      rw [sum_flatMap, sum_filter]
      congr 1
      refine List.map_congr_left fun r _ => ?_
      unfold aft openT
      by_cases hw : stateL ws r ∈ ws
      · rw [if_pos hw, decide_eq_true hw]; rfl
      · rw [if_neg hw, decide_eq_false hw]
        show _ = ((sg.map fun s => r ++ [s]).map fun r => g (stateL ws r)).sum
        rw [List.map_map]
        congr 1
        refine List.map_congr_left fun s _ => ?_
        show g _ = g (stateL ws (r ++ [s]))
        rw [longest_state, ← state_snoc hne]
  exact fun m => key m g
theorem sum_ones {α : Type} (p : α → Bool) : ∀ l : List α, (l.map fun a => if p a = true then (1 : Int) else 0).sum = ((l.filter p).length : Int)
  | [] => rfl
  | a :: l => by
    rw [List.map_cons, List.sum_cons, sum_ones p l]
    by_cases h : p a = true
    · rw [if_pos h, List.filter_cons_of_pos h, List.length_cons]; omega
    · rw [if_neg h, List.filter_cons_of_neg h]; omega
theorem openN_rows {ws : List (List Nat)} (hne : ws ≠ []) (n m : Nat) : openN ws (cntP n ws m) = (((Rows (sgC n) ws m).filter fun r => openT ws (stateL ws r)).length : Int) := by
  have nd := (cntP_ok (n := n) hne m).1
  unfold openN
  rw [sum_filter]
  have e : ((cntP n ws m).map (·.1)).map (fun a => if openT ws a = true then get0 (cntP n ws m) a else 0) = ((cntP n ws m).map (·.1)).map fun st => get0 (cntP n ws m) st * (if openT ws st = true then 1 else 0) := by
    refine List.map_congr_left fun a _ => ?_
    split
    · rw [Int.mul_one]
    · rw [Int.mul_zero]
  rw [e, sumG_keys nd, rep hne, sum_ones]
theorem get0_rows {ws : List (List Nat)} (hne : ws ≠ []) (n m : Nat) (t : List Nat) : get0 (cntP n ws m) t = (((Rows (sgC n) ws m).filter fun r => decide (stateL ws r = t)).length : Int) := by
  have nd := (cntP_ok (n := n) hne m).1
  have e : get0 (cntP n ws m) t = sumG (cntP n ws m) fun u => if decide (u = t) = true then 1 else 0 := by
    rw [← sumG_keys nd]
    generalize cntP n ws m = cnt at nd
    by_cases ht : t ∈ cnt.map (·.1)
    · have key : ∀ l : List (List Nat), l.Nodup → t ∈ l → (l.map fun st => get0 cnt st * (if decide (st = t) = true then 1 else 0)).sum = get0 cnt t := by
        intro l
        induction l with
        | nil => intro _ h; exact nomatch h
        | cons a l ih =>
          intro n h
          obtain ⟨n1, n2⟩ := List.nodup_cons.mp n
          rw [List.map_cons, List.sum_cons]
          by_cases e : a = t
          · subst e
            have z : (l.map fun st => get0 cnt st * (if decide (st = a) = true then 1 else 0)).sum = 0 := by
              have : ∀ l : List (List Nat), a ∉ l → (l.map fun st => get0 cnt st * (if decide (st = a) = true then 1 else 0)).sum = 0 := by
                intro l
                induction l with
                | nil => intro _; rfl
                | cons b l ih =>
                  intro h
                  rw [List.map_cons, List.sum_cons, ih fun m => h (List.mem_cons_of_mem _ m), if_neg (by rw [decide_eq_true_eq]; exact fun e => h (by rw [e]; exact List.mem_cons_self)), Int.mul_zero]; rfl
              exact this l n1
            rw [z, decide_eq_true rfl, if_pos rfl, Int.mul_one, Int.add_zero]
          · rw [if_neg (by rw [decide_eq_true_eq]; exact e), Int.mul_zero, Int.zero_add]
            refine ih n2 ?_
            rcases List.mem_cons.mp h with h | h
            · exact absurd h.symm e
            · exact h
      exact (key _ nd ht).symm
    · rw [get0_not ht]
      have key : ∀ l : List (List Nat), t ∉ l → (l.map fun st => get0 cnt st * (if decide (st = t) = true then 1 else 0)).sum = 0 := by
        intro l
        induction l with
        | nil => intro _; rfl
        | cons b l ih =>
          intro h
          rw [List.map_cons, List.sum_cons, ih fun m => h (List.mem_cons_of_mem _ m), if_neg (by rw [decide_eq_true_eq]; exact fun e => h (by rw [e]; exact List.mem_cons_self)), Int.mul_zero]; rfl
      exact (key _ ht).symm
  rw [e, rep hne, sum_ones]
end Vs

/-! What the defs compute: all rows, gone through. -/
namespace Vs
open PySem PySem.Spec L2
def allStep (n : Nat) (f : List (List Nat)) : List (List Nat) := f.foldl (fun acc t => acc ++ (sgC n).map fun s => t ++ [s]) []
def allL (n m : Nat) : List (List Nat) := (List.range m).foldl (fun f _ => allStep n f) [[]]
abbrev S__law_all (ds : List D) (r : Out) : Prop := ∃ n m : Nat, ds = [iD n, iD m] ∧ n ≤ 4 ∧ m ≤ 10 ∧ (∀ k ≤ m, n ^ k ≤ 1000) ∧ r = .rt (txts (allL n m))
theorem S__law_all_len {ds : List D} {r : Out} (h : S__law_all ds r) : ds.length = 2 := by obtain ⟨_, _, rfl, _⟩ := h; rfl
theorem all_fold (sg : List Nat) : ∀ (f acc : List (List Nat)), f.foldl (fun acc t => acc ++ sg.map fun s => t ++ [s]) acc = acc ++ extR sg f
  | [], acc => (List.append_nil _).symm
  | t :: f, acc => by
    rw [List.foldl_cons, all_fold sg f]
    unfold extR
    rw [List.flatMap_cons, List.append_assoc]
theorem allStep_eq (n : Nat) (f : List (List Nat)) : allStep n f = extR (sgC n) f := by
  unfold allStep
  rw [all_fold]; rfl
theorem allL_succ (n m : Nat) : allL n (m + 1) = extR (sgC n) (allL n m) := by
  rw [← allStep_eq]
  unfold allL
  rw [List.range_succ, List.foldl_append]; rfl
theorem extR_len (sg : List Nat) : ∀ R : List (List Nat), (extR sg R).length = R.length * sg.length
  | [] => by show 0 = _; rw [List.length_nil, Nat.zero_mul]
  | r :: R => by
    have := extR_len sg R
    unfold extR at this ⊢
    rw [List.flatMap_cons, List.length_append, this, List.length_map, List.length_cons, Nat.add_mul]
    omega
theorem sgC_len' {n : Nat} (h : n ≤ 4) : (sgC n).length = n := by
  rw [sgC_eq, List.length_take]
  show min n 4 = n
  omega
theorem allL_len {n : Nat} (h : n ≤ 4) : ∀ m, (allL n m).length = n ^ m
  | 0 => rfl
  | m + 1 => by rw [allL_succ, extR_len, allL_len h m, sgC_len' h, Nat.pow_succ]
theorem allL_each {n : Nat} : ∀ m, ∀ t ∈ allL n m, t.length = m
  | 0, t, h => by rw [List.mem_singleton.mp h]; rfl
  | m + 1, t, h => by
    rw [allL_succ] at h
    obtain ⟨r, hr, ht⟩ := List.mem_flatMap.mp h
    obtain ⟨s, _, rfl⟩ := List.mem_map.mp ht
    rw [List.length_append, allL_each m r hr]; rfl
/-! ### rows without a word -/
def stillT (ws : List (List Nat)) (r : List Nat) : Bool := !((ws.map fun w => decide (w <:+: r)).any fun t => t)
def dueT (ws : List (List Nat)) (w r : List Nat) : Bool := decide (w <:+ r) && !((ws.map fun one => decide (one <:+: cutL r none (some (-1)))).any fun t => t)
theorem stillT_iff {ws : List (List Nat)} {r : List Nat} : stillT ws r = true ↔ ∀ w ∈ ws, ¬ w <:+: r := by
  unfold stillT
  rw [Bool.not_eq_true', Bool.eq_false_iff]
  constructor
  · intro h w hw hi
    exact h (List.any_eq_true.mpr ⟨true, List.mem_map.mpr ⟨w, hw, decide_eq_true hi⟩, rfl⟩)
  · intro h q
    obtain ⟨b, hb, rfl⟩ := List.any_eq_true.mp q
    obtain ⟨w, hw, e⟩ := List.mem_map.mp hb
    exact h w hw (of_decide_eq_true e)
theorem infix_snoc {w r : List Nat} {s : Nat} : w <:+: r ++ [s] ↔ w <:+: r ∨ w <:+ r ++ [s] := by
  constructor
  · rintro ⟨a, b, e⟩
    rcases List.eq_nil_or_concat b with rfl | ⟨b', c, rfl⟩
    · exact .inr ⟨a, by rw [List.append_nil] at e; exact e⟩
    · rw [List.concat_eq_append, ← List.append_assoc] at e
      exact .inl ⟨a, b', (List.append_inj' e rfl).1⟩
  · rintro (h | h)
    · exact h.trans (List.prefix_append r [s]).isInfix
    · exact h.isInfix
theorem ends_iff {ws : List (List Nat)} (ha : apart ws) (hn : ws ≠ []) {w : List Nat} (hw : w ∈ ws) (t : List Nat) : w <:+ t ↔ stateL ws t = w := by
  obtain ⟨k, hk, e⟩ := List.mem_iff_getElem.mp hw
  have h := endT_state ha hn t hk
  unfold endT at h
  rw [getD_lt hk, e, Bool.eq_iff_iff, decide_eq_true_eq, decide_eq_true_eq] at h
  rw [h]
  exact eq_comm
theorem still_snoc {ws : List (List Nat)} (ha : apart ws) (hn : ws ≠ []) (r : List Nat) (s : Nat) : stillT ws (r ++ [s]) = (stillT ws r && openT ws (stateL ws (r ++ [s]))) := by
  rw [Bool.eq_iff_iff, Bool.and_eq_true, stillT_iff, stillT_iff]
  unfold openT
  rw [Bool.not_eq_true', decide_eq_false_iff_not]
  constructor
  · intro h
    refine ⟨fun w hw q => h w hw (infix_snoc.mpr (.inl q)), fun m => h _ m (infix_snoc.mpr (.inr ((ends_iff ha hn m _).mpr rfl)))⟩
  · rintro ⟨h1, h2⟩ w hw q
    rcases infix_snoc.mp q with q | q
    · exact h1 w hw q
    · exact h2 (by rw [(ends_iff ha hn hw _).mp q]; exact hw)
theorem due_snoc {ws : List (List Nat)} (ha : apart ws) (hn : ws ≠ []) {w : List Nat} (hw : w ∈ ws) (r : List Nat) (s : Nat) : dueT ws w (r ++ [s]) = (stillT ws r && decide (stateL ws (r ++ [s]) = w)) := by
  unfold dueT
  rw [cutL_last, List.dropLast_concat, Bool.and_comm]
  show (stillT ws r && _) = _
  congr 1
  exact decide_eq_decide.mpr (ends_iff ha hn hw _)
theorem filter_ext {sg : List Nat} {p q' : List Nat → Bool} {q : List Nat → Bool} (h : ∀ r s, p (r ++ [s]) = (q r && q' (r ++ [s]))) : ∀ R : List (List Nat), (extR sg R).filter p = (extR sg (R.filter q)).filter q'
  | [] => rfl
  | r :: R => by
    have ih := filter_ext (sg := sg) h R
    unfold extR at ih ⊢
    rw [List.flatMap_cons, List.filter_append, ih]
    cases hq : q r with
    | true =>
      rw [List.filter_cons_of_pos hq, List.flatMap_cons, List.filter_append]
      congr 1
      refine List.filter_congr fun t ht => ?_
      obtain ⟨s, _, rfl⟩ := List.mem_map.mp ht
      rw [h, hq, Bool.true_and]
    | false =>
      rw [List.filter_cons_of_neg (by rw [hq]; decide)]
      have : (sg.map fun s => r ++ [s]).filter p = [] := by
        rw [List.filter_eq_nil_iff]
        intro t ht
        obtain ⟨s, _, rfl⟩ := List.mem_map.mp ht
        rw [h, hq, Bool.false_and]; decide
      rw [this, List.nil_append]
theorem still_rows {ws : List (List Nat)} (ha : apart ws) (hn : ws ≠ []) (h1 : ∀ w ∈ ws, 1 ≤ w.length) (n : Nat) : ∀ m, (allL n m).filter (stillT ws) = (Rows (sgC n) ws m).filter fun r => openT ws (stateL ws r)
  | 0 => by
    show ([[]] : List (List Nat)).filter _ = ([[]] : List (List Nat)).filter _
    have e1 : stillT ws [] = true := stillT_iff.mpr fun w hw hi => by
      have := h1 w hw
      have := hi.length_le
      rw [List.length_nil] at this
      omega
    have e2 : openT ws (stateL ws []) = true := by
      unfold openT
      rw [state_nil, Bool.not_eq_true', decide_eq_false_iff_not]
      intro m
      have := h1 _ m
      exact absurd this (by decide)
    have e3 : (fun r => openT ws (stateL ws r)) [] = true := e2
    rw [List.filter_cons_of_pos e1, List.filter_cons_of_pos (p := fun r => openT ws (stateL ws r)) e3]; rfl
  | m + 1 => by
    rw [allL_succ, filter_ext (q := stillT ws) (q' := fun r => openT ws (stateL ws r)) (still_snoc ha hn), still_rows ha hn h1 n m]; rfl
theorem due_rows {ws : List (List Nat)} (ha : apart ws) (hn : ws ≠ []) (h1 : ∀ w ∈ ws, 1 ≤ w.length) {w : List Nat} (hw : w ∈ ws) (n : Nat) : ∀ m, (allL n m).filter (dueT ws w) = (Rows (sgC n) ws m).filter fun r => decide (stateL ws r = w)
  | 0 => by
    show ([[]] : List (List Nat)).filter _ = ([[]] : List (List Nat)).filter _
    have hl := h1 w hw
    have e1 : dueT ws w [] = false := by
      unfold dueT
      rw [decide_eq_false (fun h => by have := h.length_le; rw [List.length_nil] at this; omega), Bool.false_and]
    have e2 : decide (stateL ws [] = w) = false := by
      rw [state_nil]
      exact decide_eq_false fun e => by rw [← e] at hl; exact absurd hl (by decide)
    rw [List.filter_cons_of_neg (by rw [e1]; decide), List.filter_cons_of_neg (by rw [e2]; decide)]; rfl
  | m + 1 => by
    rw [allL_succ, filter_ext (q := stillT ws) (q' := fun r => decide (stateL ws r = w)) (due_snoc ha hn hw), still_rows ha hn h1 n m]; rfl
/-! ### counts hang together -/
theorem ws_nodup {ws : List (List Nat)} (ha : apart ws) : ws.Nodup := by
  unfold List.Nodup
  rw [List.pairwise_iff_getElem]
  intro i j hi hj hij e
  refine ha i j hi hj (by omega) ?_
  rw [getD_lt hi, getD_lt hj, e]
  exact List.infix_refl _
theorem flen {α : Type} (p : α → Bool) (r : α) (R : List α) : (((r :: R).filter p).length : Int) = (if p r = true then 1 else 0) + ((R.filter p).length : Int) := by
  by_cases h : p r = true
  · rw [if_pos h, List.filter_cons_of_pos h, List.length_cons]; omega
  · rw [if_neg h, List.filter_cons_of_neg h]; omega
theorem one_of {ws : List (List Nat)} (n : ws.Nodup) (t : List Nat) : (ws.map fun w => if decide (t = w) = true then (1 : Int) else 0).sum = if t ∈ ws then 1 else 0 := by
  induction ws with
  | nil => rfl
  | cons w ws ih =>
    obtain ⟨n1, n2⟩ := List.nodup_cons.mp n
    rw [List.map_cons, List.sum_cons, ih n2]
    by_cases e : t = w
    · subst e
      rw [decide_eq_true rfl, if_pos rfl, if_neg n1, if_pos List.mem_cons_self]; rfl
    · rw [if_neg (by rw [decide_eq_true_eq]; exact e), Int.zero_add]
      by_cases h : t ∈ ws
      · rw [if_pos h, if_pos (List.mem_cons_of_mem _ h)]
      · rw [if_neg h, if_neg (fun q => (List.mem_cons.mp q).elim e h)]
theorem split_rows {ws : List (List Nat)} (n : ws.Nodup) : ∀ R : List (List Nat), ((R.filter fun r => openT ws (stateL ws r)).length : Int) + (ws.map fun w => ((R.filter fun r => decide (stateL ws r = w)).length : Int)).sum = R.length
  | [] => by
    have : (ws.map fun w => ((([] : List (List Nat)).filter fun r => decide (stateL ws r = w)).length : Int)).sum = 0 := by
      have : ∀ l : List (List Nat), (l.map fun w => ((([] : List (List Nat)).filter fun r => decide (stateL ws r = w)).length : Int)).sum = 0 := by
        intro l
        induction l with
        | nil => rfl
        | cons a l ih => rw [List.map_cons, List.sum_cons, ih]; rfl
      exact this ws
    rw [this]; rfl
  | r :: R => by
    have ih := split_rows n R
    have o := one_of n (stateL ws r)
    have e : (ws.map fun w => (((r :: R).filter fun r => decide (stateL ws r = w)).length : Int)).sum = (ws.map fun w => if decide (stateL ws r = w) = true then (1 : Int) else 0).sum + (ws.map fun w => ((R.filter fun r => decide (stateL ws r = w)).length : Int)).sum := by
      have : ∀ l : List (List Nat), (l.map fun w => (((r :: R).filter fun r => decide (stateL ws r = w)).length : Int)).sum = (l.map fun w => if decide (stateL ws r = w) = true then (1 : Int) else 0).sum + (l.map fun w => ((R.filter fun r => decide (stateL ws r = w)).length : Int)).sum := by
        intro l
        induction l with
        | nil => rfl
        | cons a l ih =>
          rw [List.map_cons, List.sum_cons, ih, List.map_cons, List.sum_cons, List.map_cons, List.sum_cons]
          have f := flen (fun r => decide (stateL ws r = a)) r R
          rw [f]
          show (if decide (stateL ws r = a) = true then (1 : Int) else 0) + _ + _ = _
          omega
      exact this ws
    rw [e, o, List.length_cons]
    by_cases h : stateL ws r ∈ ws
    · rw [if_pos h, List.filter_cons_of_neg (by unfold openT; rw [decide_eq_true h]; decide)]; omega
    · rw [if_neg h, List.filter_cons_of_pos (by unfold openT; rw [decide_eq_false h]; rfl), List.length_cons]; omega
theorem hang {ws : List (List Nat)} (ha : apart ws) (hne : ws ≠ []) {n : Nat} (h4 : n ≤ 4) (m : Nat) : (n : Int) * openN ws (cntP n ws m) = openN ws (cntP n ws (m + 1)) + (endsN ws (cntP n ws (m + 1))).sum := by
  have e : endsN ws (cntP n ws (m + 1)) = ws.map fun w => (((Rows (sgC n) ws (m + 1)).filter fun r => decide (stateL ws r = w)).length : Int) := by
    unfold endsN
    exact List.map_congr_left fun w _ => get0_rows hne n (m + 1) w
  rw [e, openN_rows hne, openN_rows hne, split_rows (ws_nodup ha)]
  show _ = ((extR (sgC n) ((Rows (sgC n) ws m).filter fun r => openT ws (stateL ws r))).length : Int)
  rw [extR_len, sgC_len' h4, Int.natCast_mul, Int.mul_comm]
theorem openN_nn {ws : List (List Nat)} (hne : ws ≠ []) (n m : Nat) : 0 ≤ openN ws (cntP n ws m) := by
  rw [openN_rows hne]; omega
theorem endsN_nn {ws : List (List Nat)} (hne : ws ≠ []) (n m : Nat) : ∀ x ∈ endsN ws (cntP n ws m), 0 ≤ x := by
  intro x hx
  obtain ⟨w, _, rfl⟩ := List.mem_map.mp hx
  rw [get0_rows hne]; omega
theorem minL_nn {ns : List Int} (h : ∀ x ∈ ns, 0 ≤ x) : 0 ≤ minL ns := by
  unfold minL
  cases e : ns.min? with
  | none => exact Int.le_refl 0
  | some m => exact h m (List.min?_mem e)
theorem open0 {ws : List (List Nat)} (h1 : ∀ w ∈ ws, 1 ≤ w.length) (n : Nat) : openN ws (cntP n ws 0) = 1 := by
  have : openT ws [] = true := by
    unfold openT
    rw [Bool.not_eq_true', decide_eq_false_iff_not]
    intro m
    exact absurd (h1 _ m) (by decide)
  show ((([[]] : List (List Nat)).filter (openT ws)).map (get0 [([], 1)])).sum = 1
  rw [List.filter_cons_of_pos this]; rfl
theorem ends0 {ws : List (List Nat)} (h1 : ∀ w ∈ ws, 1 ≤ w.length) (n : Nat) : endsN ws (cntP n ws 0) = ws.map fun _ => 0 := by
  unfold endsN
  refine List.map_congr_left fun w hw => get0_not ?_
  intro m
  rw [List.mem_singleton.mp m] at hw
  exact absurd (h1 _ hw) (by decide)
theorem getD_take {ws : List (List Nat)} {k i : Nat} (h : i < k) : (ws.take k).getD i [] = ws.getD i [] := by
  rw [List.getD_eq_getElem?_getD, List.getD_eq_getElem?_getD, List.getElem?_take_of_lt h]
theorem okRace.take {die : List Int} {ws : List (List Nat)} (ok : okRace die ws) {k : Nat} (hk : 1 ≤ k) : okRace die (ws.take k) := by
  obtain ⟨o1, o2, o3, o4, o5⟩ := ok
  refine ⟨o1, fun w hw => o2 w (List.mem_of_mem_take hw), by rw [List.length_take]; omega, by rw [List.length_take]; omega, fun i j hi hj ne => ?_⟩
  rw [List.length_take] at hi hj
  rw [getD_take (by omega), getD_take (by omega)]
  exact o5 i j (by omega) (by omega) ne
theorem okRace.cut {die : List Int} {ws : List (List Nat)} (ok : okRace die ws) {k : Int} (hk : 1 ≤ k) : okRace die (cutL ws none (some k)) := by
  rw [cut_to _ (by omega)]
  exact ok.take (by omega)
theorem okRace.die {a b : List Int} {ws : List (List Nat)} (ok : okRace a ws) (hb : okDie b) (e : b.length = a.length) : okRace b ws := by
  obtain ⟨o1, o2, o3, o4, o5⟩ := ok
  exact ⟨hb, fun w hw => by rw [e]; exact o2 w hw, o3, o4, o5⟩
/-! ### the laws' own counts -/
abbrev S__law_longer (ds : List D) (r : Out) : Prop := ∃ (n : Nat) (ws : List (List Nat)) (cnt : Cn), ds = [iD n, txts ws, dD iD cnt] ∧ ws.length ≤ 1000 ∧ cnt.length ≤ 1000 ∧ (∀ t ∈ cnt.map (·.1), t.length ≤ 900) ∧ r = .rm (dkv iD (longL (stateL ws) (sgC n) ws cnt))
theorem S__law_longer_len {ds : List D} {r : Out} (h : S__law_longer ds r) : ds.length = 3 := by obtain ⟨_, _, _, rfl, _⟩ := h; rfl
theorem count_state (ws : List (List Nat)) (n m : Nat) : countL (stateL ws) (sgC n) ws m = cntP n ws m := by
  have : stateL ws = longestEnd (beginsL ws) := funext fun t => (longest_state ws t).symm
  rw [this]
end Vs

/-! Odds of two words, the best answer. -/
namespace Vs
open PySem PySem.Spec L2
theorem foldl_add {α : Type} (f : α → Rat) : ∀ (l : List α) (q : Rat), l.foldl (fun q a => q + f a) q = q + (l.map f).sum
  | [], q => by show q = q + 0; grind
  | a :: l, q => by
    rw [List.foldl_cons, foldl_add f l, List.map_cons, List.sum_cons]
    grind
theorem sum_filterQ {α : Type} (p : α → Bool) (f : α → Rat) : ∀ l : List α, ((l.filter p).map f).sum = (l.map fun a => if p a = true then f a else 0).sum
  | [] => rfl
  | a :: l => by
    rw [List.map_cons, List.sum_cons]
    by_cases h : p a = true
    · rw [List.filter_cons_of_pos h, List.map_cons, List.sum_cons, sum_filterQ p f l, if_pos h]
    · rw [List.filter_cons_of_neg h, sum_filterQ p f l, if_neg h]; grind
theorem sum_range_ext {f : Nat → Rat} {n m : Nat} (h : n ≤ m) (z : ∀ k, n ≤ k → k < m → f k = 0) : ((List.range m).map f).sum = ((List.range n).map f).sum := by
  obtain ⟨d, rfl⟩ := Nat.exists_eq_add_of_le h
  rw [List.range_add, List.map_append, List.sum_append]
  have : (((List.range d).map (n + ·)).map f).sum = 0 := zero_sum fun k hk => by
    obtain ⟨j, hj, rfl⟩ := List.mem_map.mp hk
    have := List.mem_range.mp hj
    exact z _ (by omega) (by omega)
  rw [this]; grind
theorem meet_u (die : List Int) (a b : List Nat) : meetQ die a b = uF die b a := by
  unfold meetQ meetFold
  rw [foldl_add, overlaps_eq]
  unfold lawOverlaps
  rw [List.map_map, sum_filterQ]
  unfold uF
  have e1 : ((a.length : Int) + 1 - 1).toNat = a.length := by omega
  rw [e1]
  have cut : ∀ k : Nat, cutL b none (some (1 + (k : Int))) = b.take (k + 1) := fun k => by
    have : 1 + (k : Int) = ((k + 1 : Nat) : Int) := by omega
    rw [this, cutL_to]
  have key : ∀ k : Nat, (if lawOvT a b k = true then (worthQ die ∘ fun k => cutL b none (some k)) (1 + (k : Int)) else 0) = if k < b.length then hT die b a (k + 1) else 0 := fun k => by
    unfold lawOvT hT
    show (if _ then worthQ die (cutL b none (some (1 + (k : Int)))) else 0) = _
    rw [cut]
    by_cases h : k < b.length
    · rw [if_pos h]
      by_cases h2 : b.take (k + 1) <:+ a
      · rw [if_pos h2, if_pos (by rw [decide_eq_true h2, decide_eq_true (by omega)]; rfl)]
      · rw [if_neg h2, if_neg (by rw [decide_eq_false h2, Bool.and_false]; decide)]
    · rw [if_neg h, if_neg (by rw [decide_eq_false (by omega), Bool.false_and]; decide)]
  have e2 : ((List.range a.length).map fun k => if lawOvT a b k = true then ((fun q => worthQ die (cutL b none (some q))) ∘ fun (k : Nat) => 1 + (k : Int)) k else 0) = (List.range a.length).map fun k => if k < b.length then hT die b a (k + 1) else 0 := List.map_congr_left fun k _ => key k
  rw [e2]
  have e3 : ((List.range b.length).map fun k => hT die b a (k + 1)) = (List.range b.length).map fun k => if k < b.length then hT die b a (k + 1) else 0 := List.map_congr_left fun k hk => by rw [if_pos (List.mem_range.mp hk)]
  rw [e3]
  by_cases h : a.length ≤ b.length
  · have := sum_range_ext (f := fun k => if k < b.length then hT die b a (k + 1) else 0) h fun k h1 h2 => by
      show (if k < b.length then hT die b a (k + 1) else 0) = 0
      rw [if_pos h2]
      unfold hT
      refine if_neg fun q => ?_
      have := q.length_le
      rw [List.length_take] at this
      omega
    rw [this]; grind
  · have := sum_range_ext (f := fun k => if k < b.length then hT die b a (k + 1) else 0) (show b.length ≤ a.length by omega) fun k h1 h2 => if_neg (by omega)
    rw [this]; grind
/-- behind any text that the word does not end one waits -/
theorem wait_pos {die : List Int} (hd : okDie die) {b t : List Nat} (hb : okWord die.length b) (h : ¬ b <:+ t) : uF die b t < uF die b b := by
  have hne : [b] ≠ [] := by simp
  have step : ∀ t, ¬ b <:+ t → Em die (fun c => uF die b (stateL [b] (t ++ [c]))) = 1 + uF die b t := fun t ht => by
    rw [← u_open hd hb ht]
    exact Em_congr fun c _ => (u_state List.mem_cons_self die (t ++ [c])).symm
  obtain ⟨w, hw, q⟩ := max_word hd hne (fun w hw => by rw [List.mem_singleton.mp hw]; exact hb.2.2) (uF die b) fun t ⟨w, hw, hp⟩ hn => by
    rw [List.mem_singleton.mp hw] at hp
    rw [step t fun hs => hn (by
      have : t = b := hp.eq_of_length (by have := hs.length_le; have := hp.length_le; omega)
      rw [this]; exact List.mem_cons_self)]
    grind
  rw [List.mem_singleton.mp hw] at q
  have m := Em_mono hd (f := fun c => uF die b (stateL [b] (t ++ [c]))) (g := fun _ => uF die b b) fun c _ => q _ (state_pre hne _)
  rw [step t h, Em_const hd] at m
  grind
/-! ### odds -/
def forQ (die : List Int) (a b : List Nat) : Rat := meetQ die b b - meetQ die b a
def oddsQ (die : List Int) (a b : List Nat) : Rat := forQ die a b / (forQ die a b + forQ die b a)
theorem for_pos {die : List Int} (hd : okDie die) {a b : List Nat} (ha : okWord die.length a) (hb : okWord die.length b) (hl : a.length = b.length) (hne : a ≠ b) : 0 < forQ die a b + forQ die b a := by
  have h1 := wait_pos hd hb (t := a) fun h => hne (h.eq_of_length hl.symm).symm
  have h2 := wait_pos hd ha (t := b) fun h => hne (h.eq_of_length hl)
  unfold forQ
  rw [meet_u, meet_u, meet_u, meet_u]
  grind
theorem for_fit {die : List Int} (hd : okDie die) {a b : List Nat} (ha : okWord die.length a) (hb : okWord die.length b) : fit 459 (forQ die a b) := fit_sub (meet_fit hd hb hb) (meet_fit hd hb ha)
abbrev oddsOk (die : List Int) (a b : List Nat) : Prop := okDie die ∧ okWord die.length a ∧ okWord die.length b ∧ a.length = b.length ∧ a ≠ b
abbrev S_odds_of (ds : List D) (r : Out) : Prop := ∃ (die : List Int) (a b : List Nat), ds = [nums die, sD a, sD b] ∧ oddsOk die a b ∧ r = .rt (qD (oddsQ die a b))
theorem S_odds_of_len {ds : List D} {r : Out} (h : S_odds_of ds r) : ds.length = 3 := by obtain ⟨_, _, _, rfl, _⟩ := h; rfl
theorem odds_fit {die : List Int} {a b : List Nat} (h : oddsOk die a b) : fit 1378 (oddsQ die a b) := by
  obtain ⟨hd, ha, hb, hl, hne⟩ := h
  have p := for_pos hd ha hb hl hne
  exact fit_div (for_fit hd ha hb) (fit_add (for_fit hd ha hb) (for_fit hd hb ha)) (by grind)
/-! ### the best answer -/
abbrev Bst := Option (List Nat) × Rat
def bestStep (die : List Int) (w : List Nat) (p : Bst) (o : List Nat) : Bst := if o = w then p else if p.1 = none ∨ p.2 < oddsQ die o w then (some o, oddsQ die o w) else p
def bestL (die : List Int) (w : List Nat) : Bst := (allL die.length w.length).foldl (bestStep die w) (none, 0)
abbrev oSD : Option (List Nat) → D
  | none => .none
  | some t => sD t
abbrev S_words_of (ds : List D) (r : Out) : Prop := ∃ (die : List Int) (m : Nat), ds = [nums die, iD m] ∧ die.length ≤ 4 ∧ m ≤ 10 ∧ (∀ k ≤ m, die.length ^ k ≤ 1000) ∧ r = .rt (txts (allL die.length m))
theorem S_words_of_len {ds : List D} {r : Out} (h : S_words_of ds r) : ds.length = 2 := by obtain ⟨_, _, rfl, _⟩ := h; rfl
abbrev S_answer (ds : List D) (r : Out) : Prop := ∃ (die : List Int) (w : List Nat), ds = [nums die, sD w] ∧ okDie die ∧ okWord die.length w ∧ die.length ^ w.length ≤ 32 ∧ r = .rt (oSD (bestL die w).1)
theorem S_answer_len {ds : List D} {r : Out} (h : S_answer ds r) : ds.length = 2 := by obtain ⟨_, _, rfl, _⟩ := h; rfl
theorem extR_ok {n : Nat} : ∀ m, ∀ t ∈ allL n m, okText n t
  | 0, t, h => by rw [List.mem_singleton.mp h]; exact fun _ h => nomatch h
  | m + 1, t, h => by
    rw [allL_succ] at h
    obtain ⟨r, hr, ht⟩ := List.mem_flatMap.mp h
    obtain ⟨s, hs, rfl⟩ := List.mem_map.mp ht
    intro c hc
    rcases List.mem_append.mp hc with hc | hc
    · exact extR_ok m r hr c hc
    · rw [List.mem_singleton.mp hc, ← sgC_eq]; exact hs
theorem all_word {die : List Int} {w o : List Nat} (hw : okWord die.length w) (h : o ∈ allL die.length w.length) : okWord die.length o ∧ o.length = w.length := by
  have l := allL_each _ o h
  exact ⟨⟨by rw [l]; exact hw.1, by rw [l]; exact hw.2.1, extR_ok _ o h⟩, l⟩
theorem pow_le_of {n m k : Nat} (hn : 1 ≤ n) (h : n ^ m ≤ 32) (hk : k ≤ m) : n ^ k ≤ 1000 := Nat.le_trans (Nat.pow_le_pow_right hn hk) (by omega)
/-- there is another word -/
theorem best_some {die : List Int} (hd : okDie die) {w : List Nat} (hw : okWord die.length w) : ∃ o, (bestL die w).1 = some o ∧ o ∈ allL die.length w.length ∧ o ≠ w := by
  have key : ∀ (l : List (List Nat)) (p : Bst), (∀ o, p.1 = some o → o ≠ w) → (∀ o, (l.foldl (bestStep die w) p).1 = some o → (p.1 = some o ∨ o ∈ l) ∧ o ≠ w) ∧ ((p.1 ≠ none ∨ ∃ o ∈ l, o ≠ w) → (l.foldl (bestStep die w) p).1 ≠ none) := by
    intro l
    induction l with
    | nil => intro p hp; exact ⟨fun o h => ⟨.inl h, hp o h⟩, fun h => h.elim id fun ⟨_, h, _⟩ => nomatch h⟩
    | cons a l ih =>
      intro p hp
      rw [List.foldl_cons]
      have hp' : ∀ o, (bestStep die w p a).1 = some o → o ≠ w := fun o h => by
        unfold bestStep at h
        split at h
        · exact hp o h
        · rename_i hn
          split at h
          · rw [← Option.some.inj h]; exact hn
          · exact hp o h
      obtain ⟨i1, i2⟩ := ih (bestStep die w p a) hp'
      refine ⟨fun o h => ?_, fun h => i2 ?_⟩
      · obtain ⟨q1, q2⟩ := i1 o h
        refine ⟨?_, q2⟩
        rcases q1 with q1 | q1
        · unfold bestStep at q1
          split at q1
          · exact .inl q1
          · split at q1
            · exact .inr (by rw [← Option.some.inj q1]; exact List.mem_cons_self)
            · exact .inl q1
        · exact .inr (List.mem_cons_of_mem _ q1)
      · by_cases hn : (bestStep die w p a).1 = none
        · right
          rcases h with h | ⟨o, ho, hne⟩
          · exfalso
            unfold bestStep at hn
            split at hn
            · exact h hn
            · split at hn
              · cases hn
              · exact h hn
          · rcases List.mem_cons.mp ho with rfl | ho
            · exfalso
              unfold bestStep at hn
              rw [if_neg hne] at hn
              split at hn
              · cases hn
              · rename_i h2
                exact h2 (.inl hn)
            · exact ⟨o, ho, hne⟩
        · exact .inl hn
  obtain ⟨k1, k2⟩ := key (allL die.length w.length) (none, 0) (fun _ h => nomatch h)
  have other : ∃ o ∈ allL die.length w.length, o ≠ w := by
    have l2 : 2 ≤ (allL die.length w.length).length := by
      rw [allL_len hd.2.1]
      exact Nat.le_trans (show 2 ≤ die.length ^ 1 by rw [Nat.pow_one]; exact hd.1) (Nat.pow_le_pow_right (by have := hd.1; omega) hw.1)
    have nd : ∀ m, (allL die.length m).Nodup := by
      intro m
      induction m with
      | zero => exact List.pairwise_singleton _ _
      | succ m ih =>
        rw [allL_succ]
        unfold extR
        have ns : (sgC die.length).Nodup := by rw [sgC_eq]; exact (show abcd.Nodup by decide).sublist (List.take_sublist _ _)
        generalize sgC die.length = sg at ns
        generalize allL die.length m = R at ih
        induction R with
        | nil => exact List.Pairwise.nil
        | cons r R ihR =>
          obtain ⟨n1, n2⟩ := List.nodup_cons.mp ih
          rw [List.flatMap_cons, List.nodup_append]
          refine ⟨?_, ihR n2, fun a ha b hb e => ?_⟩
          · unfold List.Nodup
            rw [List.pairwise_map]
            exact ns.imp fun {a b} h e => by
              have e : r ++ [a] = r ++ [b] := e
              exact h (List.cons.inj (List.append_inj' e rfl).2).1
          · obtain ⟨s, _, rfl⟩ := List.mem_map.mp ha
            obtain ⟨r', hr', hb⟩ := List.mem_flatMap.mp hb
            obtain ⟨s', _, rfl⟩ := List.mem_map.mp hb
            have := (List.append_inj' e rfl).1
            exact n1 (by rw [this]; exact hr')
    have nd' := nd w.length
    cases hL : allL die.length w.length with
    | nil => rw [hL] at l2; simp at l2
    | cons a r =>
      cases r with
      | nil => rw [hL] at l2; simp at l2
      | cons b r =>
        rw [hL] at nd'
        obtain ⟨n1, _⟩ := List.nodup_cons.mp nd'
        by_cases e : a = w
        · exact ⟨b, by simp, fun e2 => n1 (by rw [e, ← e2]; exact List.mem_cons_self)⟩
        · exact ⟨a, List.mem_cons_self, e⟩
  have nn := k2 (.inr other)
  unfold bestL
  cases hb : ((allL die.length w.length).foldl (bestStep die w) (none, 0)).1 with
  | none => exact absurd hb nn
  | some o =>
    obtain ⟨q1, q2⟩ := k1 o hb
    exact ⟨o, rfl, q1.elim (fun h => nomatch h) id, q2⟩
/-! ### the law's own odds -/
def rP (p : Int × Int) : Rat := Rat.divInt p.1 p.2
def lessP (p q : Int × Int) : Int × Int := (p.1 * q.2 - q.1 * p.2, p.2 * q.2)
abbrev S__law_less (ds : List D) (r : Out) : Prop := ∃ (p q : Int × Int), ds = [pD p, pD q] ∧ bt 300 p.1 ∧ bt 300 p.2 ∧ bt 300 q.1 ∧ bt 300 q.2 ∧ r = .rt (pD (lessP p q))
theorem S__law_less_len {ds : List D} {r : Out} (h : S__law_less ds r) : ds.length = 2 := by obtain ⟨_, _, rfl, _⟩ := h; rfl
theorem bt_mul {i j : Int} {n m : Nat} (h1 : bt n i) (h2 : bt m j) : bt (n + m) (i * j) := by
  unfold bt
  rw [Int.natAbs_mul]
  exact lt_two_pow_add h1 h2
theorem bt_sub {i j : Int} {n : Nat} (h1 : bt n i) (h2 : bt n j) : bt (n + 1) (i - j) := by
  unfold bt at *
  have := Int.natAbs_sub_le i j
  rw [Nat.pow_succ]; omega
theorem bt_add {i j : Int} {n : Nat} (h1 : bt n i) (h2 : bt n j) : bt (n + 1) (i + j) := by
  unfold bt at *
  have := Int.natAbs_add_le i j
  rw [Nat.pow_succ]; omega
theorem less_ok {p q : Int × Int} (hp : 0 < p.2) (hq : 0 < q.2) : 0 < (lessP p q).2 ∧ rP (lessP p q) = rP p - rP q := by
  refine ⟨Int.mul_pos hp hq, ?_⟩
  unfold rP lessP
  rw [Rat.divInt_sub_divInt _ _ (by omega) (by omega)]
theorem less_bt {p q : Int × Int} (h1 : bt 229 p.1) (h2 : bt 229 p.2) (h3 : bt 229 q.1) (h4 : bt 229 q.2) : bt 459 (lessP p q).1 ∧ bt 459 (lessP p q).2 :=
  ⟨bt_sub (bt_mul h1 h4) (bt_mul h3 h2), (bt_mul h2 h4).mono (by decide)⟩
def lawFor (die : List Int) (a b : List Nat) : Int × Int := lessP (lawMeet die b b) (lawMeet die b a)
def lawOdds (die : List Int) (a b : List Nat) : Int × Int := ((lawFor die a b).1 * (lawFor die b a).2, (lawFor die a b).1 * (lawFor die b a).2 + (lawFor die b a).1 * (lawFor die a b).2)
abbrev S__law_odds (ds : List D) (r : Out) : Prop := ∃ (die : List Int) (a b : List Nat), ds = [nums die, sD a, sD b] ∧ oddsOk die a b ∧ r = .rt (pD (lawOdds die a b))
theorem S__law_odds_len {ds : List D} {r : Out} (h : S__law_odds ds r) : ds.length = 3 := by obtain ⟨_, _, _, rfl, _⟩ := h; rfl
theorem lawFor_ok {die : List Int} (hd : okDie die) {a b : List Nat} (ha : okWord die.length a) (hb : okWord die.length b) : 0 < (lawFor die a b).2 ∧ rP (lawFor die a b) = forQ die a b ∧ bt 459 (lawFor die a b).1 ∧ bt 459 (lawFor die a b).2 := by
  obtain ⟨_, p1, b1, c1, e1⟩ := lawMeet_ok hd hb hb
  obtain ⟨_, p2, b2, c2, e2⟩ := lawMeet_ok hd hb ha
  obtain ⟨q1, q2⟩ := less_ok p1 p2
  refine ⟨q1, ?_, less_bt b1 c1 b2 c2⟩
  unfold lawFor forQ
  rw [q2, ← e1, ← e2]; rfl
theorem rP_div {p : Int × Int} (h : 0 < p.2) : rP p = (p.1 : Rat) / (p.2 : Rat) ∧ (0 : Rat) < (p.2 : Rat) := ⟨by unfold rP; rw [Rat.divInt_eq_div], by exact_mod_cast h⟩
theorem lawOdds_ok {die : List Int} {a b : List Nat} (h : oddsOk die a b) : 0 < (lawOdds die a b).2 ∧ rP (lawOdds die a b) = oddsQ die a b ∧ bt 919 (lawOdds die a b).1 ∧ bt 919 (lawOdds die a b).2 := by
  obtain ⟨hd, ha, hb, hl, hne⟩ := h
  have p := for_pos hd ha hb hl hne
  obtain ⟨f1, f2, f3, f4⟩ := lawFor_ok hd ha hb
  obtain ⟨g1, g2, g3, g4⟩ := lawFor_ok hd hb ha
  obtain ⟨x1, x2⟩ := rP_div f1
  obtain ⟨y1, y2⟩ := rP_div g1
  have t1 : bt 918 ((lawFor die a b).1 * (lawFor die b a).2) := bt_mul f3 g4
  have t2 : bt 918 ((lawFor die b a).1 * (lawFor die a b).2) := bt_mul g3 f4
  have pos : 0 < (lawOdds die a b).2 := by
    have : (0 : Rat) < ((lawOdds die a b).2 : Rat) := by
      unfold lawOdds
      show (0 : Rat) < (((lawFor die a b).1 * (lawFor die b a).2 + (lawFor die b a).1 * (lawFor die a b).2 : Int) : Rat)
      rw [Rat.intCast_add, Rat.intCast_mul, Rat.intCast_mul]
      have e : ((lawFor die a b).1 : Rat) * ((lawFor die b a).2 : Rat) + ((lawFor die b a).1 : Rat) * ((lawFor die a b).2 : Rat) = (forQ die a b + forQ die b a) * (((lawFor die a b).2 : Rat) * ((lawFor die b a).2 : Rat)) := by
        rw [← f2, ← g2, x1, y1]
        grind
      rw [e]
      exact Rat.mul_pos p (Rat.mul_pos x2 y2)
    exact_mod_cast this
  refine ⟨pos, ?_, t1.mono (by decide), bt_add t1 t2⟩
  obtain ⟨z1, z2⟩ := rP_div pos
  rw [z1]
  unfold oddsQ
  have e1 : ((lawOdds die a b).1 : Rat) = ((lawFor die a b).1 : Rat) * ((lawFor die b a).2 : Rat) := by
    unfold lawOdds
    rw [Rat.intCast_mul]
  have e2 : ((lawOdds die a b).2 : Rat) = ((lawFor die a b).1 : Rat) * ((lawFor die b a).2 : Rat) + ((lawFor die b a).1 : Rat) * ((lawFor die a b).2 : Rat) := by
    unfold lawOdds
    rw [Rat.intCast_add, Rat.intCast_mul, Rat.intCast_mul]
  rw [e2] at z2
  rw [e1, e2, ← f2, ← g2, x1, y1]
  rw [← f2, ← g2, x1, y1] at p
  grind
theorem gt_qP {x y : Rat} : decide (y.num * (x.den : Int) < x.num * (y.den : Int)) = decide (y < x) := decide_eq_decide.mpr (Rat.lt_iff y x).symm
theorem gt_rP {p q : Int × Int} (hp : 0 < p.2) (hq : 0 < q.2) : decide (q.1 * p.2 < p.1 * q.2) = decide (rP q < rP p) := by
  refine decide_eq_decide.mpr ?_
  obtain ⟨x1, x2⟩ := rP_div hp
  obtain ⟨y1, y2⟩ := rP_div hq
  rw [x1, y1, Rat.div_lt_iff y2]
  have : (p.1 : Rat) / (p.2 : Rat) * (q.2 : Rat) = (p.1 : Rat) * (q.2 : Rat) / (p.2 : Rat) := by grind
  rw [this, Rat.lt_div_iff x2]
  constructor
  · intro h; exact_mod_cast h
  · intro h; exact_mod_cast h
end Vs

/-! Linear equations: few vectors are dependent; the race's equations have one solution. -/
namespace Vs
open PySem PySem.Spec L2
def sm : Nat → (Nat → Rat) → Rat
  | 0, _ => 0
  | n + 1, f => sm n f + f n
theorem sm_congr {f g : Nat → Rat} : ∀ {n : Nat}, (∀ i, i < n → f i = g i) → sm n f = sm n g
  | 0, _ => rfl
  | n + 1, h => by
    show sm n f + f n = sm n g + g n
    rw [sm_congr fun i hi => h i (by omega), h n (by omega)]
theorem sm_zero {f : Nat → Rat} : ∀ {n : Nat}, (∀ i, i < n → f i = 0) → sm n f = 0
  | 0, _ => rfl
  | n + 1, h => by
    show sm n f + f n = 0
    rw [sm_zero fun i hi => h i (by omega), h n (by omega)]; grind
theorem sm_add (f g : Nat → Rat) : ∀ n, sm n (fun i => f i + g i) = sm n f + sm n g
  | 0 => by show (0 : Rat) = 0 + 0; grind
  | n + 1 => by
    have := sm_add f g n
    show sm n (fun i => f i + g i) + (f n + g n) = (sm n f + f n) + (sm n g + g n)
    grind
theorem sm_mul (k : Rat) (f : Nat → Rat) : ∀ n, sm n (fun i => k * f i) = k * sm n f
  | 0 => by show (0 : Rat) = k * 0; grind
  | n + 1 => by
    have := sm_mul k f n
    show sm n (fun i => k * f i) + k * f n = k * (sm n f + f n)
    grind
theorem sm_swap (F : Nat → Nat → Rat) : ∀ n m, sm n (fun i => sm m (F i)) = sm m (fun j => sm n fun i => F i j)
  | 0, m => (sm_zero fun _ _ => rfl).symm
  | n + 1, m => by
    have := sm_swap F n m
    show sm n (fun i => sm m (F i)) + sm m (F n) = sm m (fun j => sm n (fun i => F i j) + F n j)
    rw [sm_add, this]
def skip (p i : Nat) : Nat := if i < p then i else i + 1
theorem sm_skip (f : Nat → Rat) (p : Nat) : ∀ m, p ≤ m → sm (m + 1) f = sm m (fun i => f (skip p i)) + f p
  | 0, h => by
    have : p = 0 := by omega
    subst this; rfl
  | m + 1, h => by
    by_cases e : p = m + 1
    · subst e
      show sm (m + 1) f + f (m + 1) = _
      congr 1
      refine sm_congr fun i hi => ?_
      unfold skip
      rw [if_pos hi]
    · have ih := sm_skip f p m (by omega)
      show sm (m + 1) f + f (m + 1) = sm m (fun i => f (skip p i)) + f (skip p m) + f p
      have : skip p m = m + 1 := by unfold skip; rw [if_neg (by omega)]
      rw [ih, this]
      grind
/-- more vectors than places are dependent -/
theorem dep : ∀ (n m : Nat), n < m → ∀ v : Nat → Nat → Rat, ∃ y : Nat → Rat, (∃ i, i < m ∧ y i ≠ 0) ∧ ∀ j, j < n → sm m (fun i => y i * v i j) = 0
  | 0, m, h, v => ⟨fun _ => 1, ⟨0, h, by decide⟩, fun j hj => absurd hj (Nat.not_lt_zero j)⟩
  | n + 1, m, h, v => by
    by_cases hA : ∀ i, i < m → v i n = 0
    · obtain ⟨y, hy, q⟩ := dep n m (by omega) v
      refine ⟨y, hy, fun j hj => ?_⟩
      by_cases e : j = n
      · subst e
        exact sm_zero fun i hi => by rw [hA i hi]; grind
      · exact q j (by omega)
    · have : ∃ p, p < m ∧ v p n ≠ 0 := by
        apply Classical.byContradiction
        intro hc
        exact hA fun i hi => Classical.byContradiction fun hv => hc ⟨i, hi, hv⟩
      obtain ⟨p, hp, ha⟩ := this
      obtain ⟨m', rfl⟩ : ∃ m', m = m' + 1 := ⟨m - 1, by omega⟩
      obtain ⟨y', ⟨i0, hi0, hne⟩, q⟩ := dep n m' (by omega) fun i j => v (skip p i) j - v (skip p i) n / v p n * v p j
      let c : Rat := -(sm m' fun i => y' i * (v (skip p i) n / v p n))
      let y : Nat → Rat := fun i => if i < p then y' i else if i = p then c else y' (i - 1)
      have ys : ∀ i, y (skip p i) = y' i := fun i => by
        show (if skip p i < p then y' (skip p i) else if skip p i = p then c else y' (skip p i - 1)) = y' i
        unfold skip
        by_cases h : i < p
        · rw [if_pos h, if_pos h]
        · rw [if_neg h, if_neg (by omega), if_neg (by omega)]; rfl
      have yp : y p = c := by
        show (if p < p then y' p else if p = p then c else y' (p - 1)) = c
        rw [if_neg (Nat.lt_irrefl p), if_pos rfl]
      refine ⟨y, ⟨skip p i0, by unfold skip; split <;> omega, by rw [ys]; exact hne⟩, fun j hj => ?_⟩
      rw [sm_skip _ p m' (by omega), yp]
      have e1 : sm m' (fun i => y (skip p i) * v (skip p i) j) = sm m' fun i => y' i * v (skip p i) j := sm_congr fun i _ => by rw [ys]
      rw [e1]
      have e2 : c * v p j = -(sm m' fun i => y' i * (v (skip p i) n / v p n) * v p j) := by
        have : sm m' (fun i => y' i * (v (skip p i) n / v p n) * v p j) = v p j * sm m' fun i => y' i * (v (skip p i) n / v p n) := by
          rw [← sm_mul]
          exact sm_congr fun i _ => by grind
        rw [this]
        show -(sm m' fun i => y' i * (v (skip p i) n / v p n)) * v p j = _
        grind
      have e3 : sm m' (fun i => y' i * (v (skip p i) j - v (skip p i) n / v p n * v p j)) = sm m' (fun i => y' i * v (skip p i) j) + -(sm m' fun i => y' i * (v (skip p i) n / v p n) * v p j) := by
        have : sm m' (fun i => y' i * (v (skip p i) j - v (skip p i) n / v p n * v p j)) = sm m' (fun i => y' i * v (skip p i) j + (-1) * (y' i * (v (skip p i) n / v p n) * v p j)) := sm_congr fun i _ => by grind
        rw [this, sm_add, sm_mul]
        grind
      rw [e2, ← e3]
      by_cases e : j = n
      · subst e
        exact sm_zero fun i _ => by grind
      · exact q j (by omega)
/-- rows independent: one solution at most -/
theorem right_of_left {N : Nat} {A : Nat → Nat → Rat} (hl : ∀ y : Nat → Rat, (∀ j, j < N → sm N (fun i => y i * A i j) = 0) → ∀ i, i < N → y i = 0) (x : Nat → Rat) (hx : ∀ i, i < N → sm N (fun j => A i j * x j) = 0) : ∀ j, j < N → x j = 0 := by
  intro q hq
  apply Classical.byContradiction
  intro hne
  obtain ⟨N', rfl⟩ : ∃ N', N = N' + 1 := ⟨N - 1, by omega⟩
  obtain ⟨y, ⟨i0, hi0, hy0⟩, hy⟩ := dep N' (N' + 1) (by omega) fun i j => A i (skip q j)
  refine hy0 (hl y (fun j hj => ?_) i0 hi0)
  have hcol : ∀ j, j < N' + 1 → j ≠ q → sm (N' + 1) (fun i => y i * A i j) = 0 := fun j hj hjq => by
    by_cases h : j < q
    · have := hy j (by omega)
      have e : skip q j = j := by unfold skip; rw [if_pos h]
      rw [e] at this
      exact this
    · have := hy (j - 1) (by omega)
      have e : skip q (j - 1) = j := by unfold skip; rw [if_neg (by omega)]; omega
      rw [e] at this
      exact this
  by_cases e : j = q
  · subst e
    have tot : sm (N' + 1) (fun i => y i * sm (N' + 1) fun k => A i k * x k) = 0 := sm_zero fun i hi => by rw [hx i hi]; grind
    have e1 : sm (N' + 1) (fun i => y i * sm (N' + 1) fun k => A i k * x k) = sm (N' + 1) fun k => x k * sm (N' + 1) fun i => y i * A i k := by
      have e2 : sm (N' + 1) (fun i => y i * sm (N' + 1) fun k => A i k * x k) = sm (N' + 1) (fun i => sm (N' + 1) fun k => y i * (A i k * x k)) := sm_congr fun i _ => (sm_mul _ _ _).symm
      rw [e2, sm_swap]
      refine sm_congr fun k _ => ?_
      rw [← sm_mul]
      exact sm_congr fun i _ => by grind
    rw [e1, sm_skip _ j N' (by omega)] at tot
    have z : sm N' (fun i => x (skip j i) * sm (N' + 1) fun i_1 => y i_1 * A i_1 (skip j i)) = 0 := sm_zero fun i hi => by
      rw [hcol (skip j i) (by unfold skip; split <;> omega) (by unfold skip; split <;> omega)]
      grind
    rw [z] at tot
    have : x j * sm (N' + 1) (fun i => y i * A i j) = 0 := by grind
    rcases Rat.mul_eq_zero.mp this with h | h
    · exact absurd h hne
    · exact h
  · exact hcol j hj e
/-! ### the race's rows are independent -/
section
variable {die : List Int} {ws : List (List Nat)}
abbrev wA (ws : List (List Nat)) (i : Nat) : List Nat := ws.getD i []
/-- place i, j of the race's equations; r words, the mean at place r -/
def cA (die : List Int) (ws : List (List Nat)) (i j : Nat) : Rat := if i < ws.length then (if j < ws.length then uF die (wA ws i) (wA ws j) else -1) else (if j < ws.length then 1 else 0)
theorem Em_sm {die : List Int} (F : Nat → Nat → Rat) : ∀ n, Em die (fun c => sm n (F c)) = sm n fun i => Em die fun c => F c i
  | 0 => Em_zero
  | n + 1 => by
    show Em die (fun c => sm n (F c) + F c n) = sm n (fun i => Em die fun c => F c i) + Em die fun c => F c n
    rw [Em_add, Em_sm F n]
theorem state_open (ha : apart ws) (hn : ws ≠ []) {t : List Nat} (ht : ∃ w ∈ ws, t <+: w) (hno : t ∉ ws) : ∀ w ∈ ws, ¬ w <:+ t := fun w hw hs => by
  have := (ends_iff ha hn hw t).mp hs
  rw [state_self ht] at this
  exact hno (by rw [this]; exact hw)
/-- the ends of a text that begin w -/
def gT (die : List Int) (w t : List Nat) (l : Nat) : Rat := if t.drop (t.length - l) <+: w then worthQ die (t.drop (t.length - l)) else 0
theorem u_ends (die : List Int) (w t : List Nat) : uF die w t = ((List.range t.length).map fun l => gT die w t (l + 1)).sum := by
  have same : ∀ l, l < w.length → l < t.length → hT die w t (l + 1) = gT die w t (l + 1) := fun l h1 h2 => by
    unfold hT gT
    have lw : (w.take (l + 1)).length = l + 1 := by rw [List.length_take]; omega
    have lt : (t.drop (t.length - (l + 1))).length = l + 1 := by rw [List.length_drop]; omega
    by_cases h : w.take (l + 1) <:+ t
    · have e : w.take (l + 1) = t.drop (t.length - (l + 1)) := by
        have := List.suffix_iff_eq_drop.mp h
        rw [lw] at this
        exact this
      rw [if_pos h, if_pos (by rw [← e]; exact List.take_prefix _ _), e]
    · rw [if_neg h, if_neg]
      intro q
      have e := List.prefix_iff_eq_take.mp q
      rw [lt] at e
      exact h (by rw [← e]; exact List.drop_suffix _ _)
  unfold uF
  have z1 : ∀ k, t.length ≤ k → hT die w t (k + 1) = 0 ∨ w.length ≤ k := fun k hk => by
    by_cases h : w.length ≤ k
    · exact .inr h
    · left
      unfold hT
      refine if_neg fun q => ?_
      have := q.length_le
      rw [List.length_take] at this
      omega
  have z2 : ∀ k, w.length ≤ k → k < t.length → gT die w t (k + 1) = 0 := fun k hk hk2 => by
    unfold gT
    refine if_neg fun q => ?_
    have := q.length_le
    rw [List.length_drop] at this
    omega
  by_cases h : t.length ≤ w.length
  · rw [sum_range_ext (f := fun k => hT die w t (k + 1)) h fun k h1 h2 => (z1 k h1).resolve_right (by omega)]
    congr 1
    exact List.map_congr_left fun k hk => same k (by have := List.mem_range.mp hk; omega) (List.mem_range.mp hk)
  · rw [sum_range_ext (f := fun k => gT die w t (k + 1)) (show w.length ≤ t.length by omega) fun k h1 h2 => z2 k h1 h2]
    congr 1
    exact List.map_congr_left fun k hk => same k (List.mem_range.mp hk) (by have := List.mem_range.mp hk; omega)
theorem rate_pos (hd : okDie die) {c : Nat} (hc : c ∈ sgn die.length) : 0 < rate die c := by
  have p := prob_pos hd hc
  have q := prob_rate hd hc
  apply Classical.byContradiction
  intro h
  have h' : rate die c ≤ 0 := Rat.not_lt.mp h
  have := Rat.mul_le_mul_of_nonneg_left h' (Rat.le_of_lt p)
  grind
theorem worth_pos (hd : okDie die) : ∀ {t : List Nat}, okText die.length t → 0 < worthQ die t := by
  have key : ∀ (l : List Nat) (q : Rat), 0 < q → okText die.length l → 0 < l.foldl (fun q c => q * rate die c) q := by
    intro l
    induction l with
    | nil => intro q h _; exact h
    | cons c l ih =>
      intro q h ht
      exact ih _ (Rat.mul_pos h (rate_pos hd (ht c List.mem_cons_self))) fun x hx => ht x (List.mem_cons_of_mem _ hx)
  exact fun {t} ht => key t 1 (by decide) ht
theorem lists_sm (f : Nat → Rat) : ∀ n, ((List.range n).map f).sum = sm n f
  | 0 => rfl
  | n + 1 => by rw [sum_range_succ, lists_sm f n]; rfl
theorem race_left (ok : okRace die ws) (y : Nat → Rat) (hy : ∀ j, j < ws.length + 1 → sm (ws.length + 1) (fun i => y i * cA die ws i j) = 0) : ∀ i, i < ws.length + 1 → y i = 0 := by
  have hd := ok.1
  have hne := ok.ne
  have ha := ok.2.2.2.2
  have hw := ok.2.1
  -- the function that the rows' combination makes
  let h : List Nat → Rat := fun t => sm ws.length fun i => y i * uF die (wA ws i) t
  have hsum : sm ws.length y = 0 := by
    have := hy ws.length (by omega)
    have e : sm (ws.length + 1) (fun i => y i * cA die ws i ws.length) = sm ws.length (fun i => (-1) * y i) + y ws.length * 0 := by
      show sm ws.length (fun i => y i * cA die ws i ws.length) + y ws.length * cA die ws ws.length ws.length = _
      congr 1
      · refine sm_congr fun i hi => ?_
        unfold cA
        rw [if_pos hi, if_neg (Nat.lt_irrefl _)]
        grind
      · unfold cA
        rw [if_neg (Nat.lt_irrefl _), if_neg (Nat.lt_irrefl _)]
    rw [e, sm_mul] at this
    grind
  have hword : ∀ j, j < ws.length → h (wA ws j) = -y ws.length := fun j hj => by
    have := hy j (by omega)
    have e : sm (ws.length + 1) (fun i => y i * cA die ws i j) = h (wA ws j) + y ws.length := by
      show sm ws.length (fun i => y i * cA die ws i j) + y ws.length * cA die ws ws.length j = _
      have e1 : cA die ws ws.length j = 1 := by unfold cA; rw [if_neg (Nat.lt_irrefl _), if_pos hj]
      have e2 : sm ws.length (fun i => y i * cA die ws i j) = h (wA ws j) := sm_congr fun i hi => by
        unfold cA
        rw [if_pos hi, if_pos hj]
      rw [e1, e2]
      grind
    rw [e] at this
    grind
  have hword' : ∀ w ∈ ws, h w = -y ws.length := fun w hw => by
    obtain ⟨j, hj, e⟩ := List.mem_iff_getElem.mp hw
    have e0 : wA ws j = w := by show ws.getD j [] = w; rw [getD_lt hj, e]
    rw [← e0]
    exact hword j hj
  have hmem : ∀ i, i < ws.length → wA ws i ∈ ws := fun i hi => getD_mem hi
  have harm : ∀ t, (∃ w ∈ ws, t <+: w) → t ∉ ws → Em die (fun c => h (stateL ws (t ++ [c]))) = h t := fun t ht hno => by
    have op := state_open ha hne ht hno
    have e1 : Em die (fun c => h (stateL ws (t ++ [c]))) = Em die fun c => sm ws.length fun i => y i * uF die (wA ws i) (t ++ [c]) := Em_congr fun c _ => sm_congr fun i hi => by rw [← u_state (hmem i hi)]
    rw [e1, Em_sm]
    have e2 : sm ws.length (fun i => Em die fun c => y i * uF die (wA ws i) (t ++ [c])) = sm ws.length fun i => y i + y i * uF die (wA ws i) t := sm_congr fun i hi => by
      rw [Em_mul, u_open hd (hw _ (hmem i hi)) (op _ (hmem i hi))]
      grind
    rw [e2, sm_add, hsum]
    show 0 + h t = h t
    grind
  have up : ∀ t, (∃ w ∈ ws, t <+: w) → h t ≤ -y ws.length := fun t ht => by
    obtain ⟨w, hw1, q⟩ := max_word hd hne (fun w hw1 => (hw w hw1).2.2) h fun t ht hno => by rw [harm t ht hno]; exact Rat.le_refl
    have := q t ht
    rw [hword' w hw1] at this
    exact this
  have dn : ∀ t, (∃ w ∈ ws, t <+: w) → -y ws.length ≤ h t := fun t ht => by
    obtain ⟨w, hw1, q⟩ := max_word hd hne (fun w hw1 => (hw w hw1).2.2) (fun t => (-1) * h t) fun t ht hno => by
      rw [Em_mul, harm t ht hno]; exact Rat.le_refl
    have := q t ht
    rw [hword' w hw1] at this
    grind
  have hall : ∀ t, (∃ w ∈ ws, t <+: w) → h t = -y ws.length := fun t ht => Rat.le_antisymm (up t ht) (dn t ht)
  have h0 : h [] = 0 := sm_zero fun i _ => by rw [u_nil]; grind
  have yr : y ws.length = 0 := by
    have := hall [] (by
      have := begins_mem.mp (nil_in hne)
      exact this)
    rw [h0] at this
    grind
  have hz : ∀ t, (∃ w ∈ ws, t <+: w) → h t = 0 := fun t ht => by rw [hall t ht, yr]; grind
  -- the words that a text begins, weighed
  let Y : List Nat → Rat := fun s => sm ws.length fun i => if s <+: wA ws i then y i else 0
  have ht2 : ∀ t, h t = sm t.length fun l => worthQ die (t.drop (t.length - (l + 1))) * Y (t.drop (t.length - (l + 1))) := fun t => by
    show sm ws.length (fun i => y i * uF die (wA ws i) t) = _
    have e1 : sm ws.length (fun i => y i * uF die (wA ws i) t) = sm ws.length fun i => sm t.length fun l => y i * gT die (wA ws i) t (l + 1) := sm_congr fun i _ => by
      rw [u_ends, lists_sm, sm_mul]
    rw [e1, sm_swap]
    refine sm_congr fun l _ => ?_
    show _ = worthQ die (t.drop (t.length - (l + 1))) * sm ws.length fun i => if t.drop (t.length - (l + 1)) <+: wA ws i then y i else 0
    rw [← sm_mul]
    refine sm_congr fun i _ => ?_
    unfold gT
    split <;> grind
  have Yno : ∀ s, (¬ ∃ w ∈ ws, s <+: w) → Y s = 0 := fun s hs => sm_zero fun i hi => if_neg fun q => hs ⟨_, hmem i hi, q⟩
  have Yz : ∀ n, ∀ t, t.length = n → t ≠ [] → (∃ w ∈ ws, t <+: w) → Y t = 0 := by
    intro n
    induction n using Nat.strongRecOn with
    | ind n ih =>
      intro t hn' hne' ht
      have e := ht2 t
      rw [hz t ht] at e
      obtain ⟨m, hm⟩ : ∃ m, t.length = m + 1 := ⟨t.length - 1, by have := List.length_pos_iff.mpr hne'; omega⟩
      have e2 : sm t.length (fun l => worthQ die (t.drop (t.length - (l + 1))) * Y (t.drop (t.length - (l + 1)))) = worthQ die t * Y t := by
        rw [hm]
        show sm m _ + worthQ die (t.drop (m + 1 - (m + 1))) * Y (t.drop (m + 1 - (m + 1))) = _
        rw [Nat.sub_self, List.drop_zero]
        have z : sm m (fun l => worthQ die (t.drop (m + 1 - (l + 1))) * Y (t.drop (m + 1 - (l + 1)))) = 0 := sm_zero fun l hl => by
          have Yl : Y (t.drop (m + 1 - (l + 1))) = 0 := by
            by_cases hp : ∃ w ∈ ws, t.drop (m + 1 - (l + 1)) <+: w
            · have ll : (t.drop (m + 1 - (l + 1))).length = l + 1 := by rw [List.length_drop]; omega
              exact ih (l + 1) (by omega) _ ll (fun q => by rw [q] at ll; simp at ll) hp
            · exact Yno _ hp
          rw [Yl]; grind
        rw [z]; grind
      rw [e2] at e
      obtain ⟨w, hw1, hp⟩ := ht
      have wp := worth_pos hd (t := t) fun c hc => (hw w hw1).2.2 c (hp.subset hc)
      rcases Rat.mul_eq_zero.mp e.symm with q | q
      · grind
      · exact q
  intro i hi
  by_cases e : i = ws.length
  · rw [e]; exact yr
  · have hi' : i < ws.length := by omega
    have ne : wA ws i ≠ [] := fun q => by
      have := (hw _ (hmem i hi')).1
      rw [q] at this
      exact absurd this (by decide)
    have z := Yz _ _ rfl ne ⟨_, hmem i hi', List.prefix_refl _⟩
    obtain ⟨r, hr⟩ : ∃ r, ws.length = r + 1 := ⟨ws.length - 1, by omega⟩
    have e2 : Y (wA ws i) = y i := by
      show sm ws.length (fun j => if wA ws i <+: wA ws j then y j else 0) = y i
      rw [hr, sm_skip _ i r (by omega), if_pos (List.prefix_refl _)]
      have : sm r (fun j => if wA ws i <+: wA ws (skip i j) then y (skip i j) else 0) = 0 := sm_zero fun j hj => if_neg fun q => ha i (skip i j) hi' (by unfold skip; split <;> omega) (by unfold skip; split <;> omega) q.isInfix
      rw [this]; grind
    rw [← e2]; exact z
/-- .. so one solution at most -/
theorem race_one (ok : okRace die ws) (x : Nat → Rat) (hx : ∀ i, i < ws.length + 1 → sm (ws.length + 1) (fun j => cA die ws i j * x j) = 0) : ∀ j, j < ws.length + 1 → x j = 0 := right_of_left (race_left ok) x hx
end
end Vs

/-! Elimination: the program's way to the solution. -/
namespace Vs
open PySem PySem.Spec L2
abbrev Mx := List (List Rat)
def cell (m : Mx) (k j : Nat) : Rat := (m.getD k []).getD j 0
def Wd (n : Nat) (m : Mx) : Prop := ∀ r ∈ m, r.length = n
def Sol (n : Nat) (m : Mx) (z : Nat → Rat) : Prop := ∀ k, k < m.length → sm n (fun j => cell m k j * z j) = 0
def Piv (m : Mx) (at_ p : Nat) : Prop := at_ ≤ p ∧ p < m.length ∧ cell m p at_ ≠ 0 ∧ ∀ q, at_ ≤ q → q < p → cell m q at_ = 0
def pivF (m : Mx) (at_ : Nat) : Nat := ((List.range m.length).find? fun p => decide (at_ ≤ p) && !decide (cell m p at_ = 0)).getD 0
theorem piv_of {m : Mx} {at_ : Nat} (h : ∃ p, at_ ≤ p ∧ p < m.length ∧ cell m p at_ ≠ 0) : Piv m at_ (pivF m at_) := by
  obtain ⟨p, h1, h2, h3⟩ := h
  unfold pivF
  cases e : (List.range m.length).find? fun p => decide (at_ ≤ p) && !decide (cell m p at_ = 0) with
  | none =>
    have := List.find?_eq_none.mp e p (List.mem_range.mpr h2)
    rw [decide_eq_true h1, decide_eq_false h3] at this
    exact absurd rfl this
  | some q =>
    rw [List.find?_range_eq_some] at e
    obtain ⟨e1, e2, e3⟩ := e
    rw [Bool.and_eq_true, decide_eq_true_eq, Bool.not_eq_true', decide_eq_false_iff_not] at e1
    refine ⟨e1.1, List.mem_range.mp e2, e1.2, fun k hk1 hk2 => ?_⟩
    have := e3 k hk2
    rw [decide_eq_true hk1, Bool.true_and, Bool.not_not, decide_eq_true_eq] at this
    exact this
def headL (m : Mx) (at_ p : Nat) : List Rat := (m.getD p []).map fun x => x / (m.getD p []).getD at_ 0
def srcL (m : Mx) (at_ p k : Nat) : List Rat := if k = p then m.getD at_ [] else m.getD k []
def newRow (m : Mx) (at_ p k : Nat) : List Rat := (List.range (headL m at_ p).length).map fun j => (srcL m at_ p k).getD j 0 - (srcL m at_ p k).getD at_ 0 * (headL m at_ p).getD j 0
def clearedL (m : Mx) (at_ p : Nat) : Mx := (List.range m.length).map fun k => if k = at_ then headL m at_ p else newRow m at_ p k
theorem getD_map_range {α : Type} (f : Nat → α) (z : α) {n k : Nat} (h : k < n) : ((List.range n).map f).getD k z = f k := by
  rw [getD_lt (by rw [List.length_map, List.length_range]; exact h), List.getElem_map, List.getElem_range]
theorem getD_map {α β : Type} (f : α → β) (z : β) (y : α) {l : List α} {k : Nat} (h : k < l.length) : (l.map f).getD k z = f (l.getD k y) := by
  rw [getD_lt (by rw [List.length_map]; exact h), List.getElem_map, getD_lt h]
section
variable {m : Mx} {n at_ p : Nat}
theorem wd_get (w : Wd n m) {k : Nat} (h : k < m.length) : (m.getD k []).length = n := w _ (getD_mem h)
theorem head_len (w : Wd n m) (hp : p < m.length) : (headL m at_ p).length = n := by unfold headL; rw [List.length_map, wd_get w hp]
theorem head_get (w : Wd n m) (hp : p < m.length) {j : Nat} (hj : j < n) : (headL m at_ p).getD j 0 = cell m p j / cell m p at_ := by
  unfold headL
  rw [getD_map _ 0 0 (by rw [wd_get w hp]; exact hj)]; rfl
theorem cleared_len : (clearedL m at_ p).length = m.length := by unfold clearedL; rw [List.length_map, List.length_range]
theorem cleared_wd (w : Wd n m) (hp : p < m.length) : Wd n (clearedL m at_ p) := fun r hr => by
  unfold clearedL at hr
  obtain ⟨k, _, rfl⟩ := List.mem_map.mp hr
  show (if k = at_ then headL m at_ p else newRow m at_ p k).length = n
  split
  · exact head_len w hp
  · unfold newRow; rw [List.length_map, List.length_range, head_len w hp]
def srcC (m : Mx) (at_ p k j : Nat) : Rat := if k = p then cell m at_ j else cell m k j
theorem cleared_cell (w : Wd n m) (hp : p < m.length) {k j : Nat} (hk : k < m.length) (hj : j < n) :
    cell (clearedL m at_ p) k j = if k = at_ then cell m p j / cell m p at_ else srcC m at_ p k j - srcC m at_ p k at_ * (cell m p j / cell m p at_) := by
  unfold cell clearedL
  rw [getD_map_range _ _ hk]
  by_cases h : k = at_
  · rw [if_pos h, if_pos h]
    exact head_get w hp hj
  · rw [if_neg h, if_neg h]
    unfold newRow
    rw [getD_map_range _ _ (by rw [head_len w hp]; exact hj), head_get w hp hj]
    unfold srcL srcC cell
    split <;> rfl
theorem cleared_sol (w : Wd n m) (hat : at_ < m.length) (hp : Piv m at_ p) (z : Nat → Rat) : Sol n m z ↔ Sol n (clearedL m at_ p) z := by
  obtain ⟨p1, p2, p3, _⟩ := hp
  have dh : sm n (fun j => cell (clearedL m at_ p) at_ j * z j) = (cell m p at_)⁻¹ * sm n fun j => cell m p j * z j := by
    rw [← sm_mul]
    refine sm_congr fun j hj => ?_
    rw [cleared_cell w p2 hat hj, if_pos rfl]
    grind
  have dk : ∀ k, k < m.length → k ≠ at_ → sm n (fun j => cell (clearedL m at_ p) k j * z j) = (sm n fun j => srcC m at_ p k j * z j) - srcC m at_ p k at_ * ((cell m p at_)⁻¹ * sm n fun j => cell m p j * z j) := fun k hk hne => by
    have e1 : sm n (fun j => cell (clearedL m at_ p) k j * z j) = sm n fun j => srcC m at_ p k j * z j + (-(srcC m at_ p k at_ * (cell m p at_)⁻¹)) * (cell m p j * z j) := sm_congr fun j hj => by
      rw [cleared_cell w p2 hk hj, if_neg hne]
      grind
    rw [e1, sm_add, sm_mul]
    grind
  have src : ∀ k, k ≠ p → sm n (fun j => srcC m at_ p k j * z j) = sm n fun j => cell m k j * z j := fun k hk => sm_congr fun j _ => by unfold srcC; rw [if_neg hk]
  have srcp : sm n (fun j => srcC m at_ p p j * z j) = sm n fun j => cell m at_ j * z j := sm_congr fun j _ => by unfold srcC; rw [if_pos rfl]
  constructor
  · intro h k hk
    rw [cleared_len] at hk
    by_cases e : k = at_
    · rw [e, dh, h p p2]; grind
    · rw [dk k hk e, h p p2]
      by_cases e2 : k = p
      · rw [e2, srcp, h at_ hat]; grind
      · rw [src k e2, h k hk]; grind
  · intro h
    have hpz : sm n (fun j => cell m p j * z j) = 0 := by
      have := h at_ (by rw [cleared_len]; exact hat)
      rw [dh] at this
      rcases Rat.mul_eq_zero.mp this with q | q
      · exfalso
        have := Rat.mul_inv_cancel _ p3
        rw [q] at this
        grind
      · exact q
    have hz : ∀ k, k < m.length → k ≠ at_ → sm n (fun j => srcC m at_ p k j * z j) = 0 := fun k hk hne => by
      have := h k (by rw [cleared_len]; exact hk)
      rw [dk k hk hne, hpz] at this
      grind
    intro k hk
    by_cases e : k = p
    · rw [e]; exact hpz
    · by_cases e2 : k = at_
      · rw [e2, ← srcp]
        exact hz p p2 fun q => e (by rw [e2, q])
      · rw [← src k e]
        exact hz k hk e2
/-- the first columns are cleared -/
def Un (m : Mx) (a : Nat) : Prop := ∀ k j, k < m.length → j < a → cell m k j = if k = j then 1 else 0
theorem cleared_un (w : Wd n m) (hn : m.length < n) (hat : at_ < m.length) (hp : Piv m at_ p) (u : Un m at_) : Un (clearedL m at_ p) (at_ + 1) := by
  obtain ⟨p1, p2, p3, _⟩ := hp
  intro k j hk hj
  rw [cleared_len] at hk
  rw [cleared_cell w p2 hk (by omega)]
  by_cases e : j = at_
  · subst e
    by_cases e2 : k = j
    · rw [if_pos e2, if_pos e2]; grind
    · rw [if_neg e2, if_neg e2]; grind
  · have hj' : j < at_ := by omega
    have z : cell m p j = 0 := by rw [u p j p2 hj', if_neg (by omega)]
    rw [z]
    by_cases e2 : k = at_
    · rw [if_pos e2, if_neg (by omega)]; grind
    · rw [if_neg e2]
      unfold srcC
      by_cases e3 : k = p
      · rw [if_pos e3, if_pos e3, u at_ j hat hj', if_neg (by omega), if_neg (by omega)]; grind
      · rw [if_neg e3, if_neg e3, u k j hk hj']; grind
theorem sm_ext {f : Nat → Rat} {a b : Nat} (h : a ≤ b) (z : ∀ j, a ≤ j → j < b → f j = 0) : sm b f = sm a f := by
  obtain ⟨d, rfl⟩ := Nat.exists_eq_add_of_le h
  clear h
  induction d with
  | zero => rfl
  | succ d ih =>
    show sm (a + d) f + f (a + d) = sm a f
    rw [ih fun j h1 h2 => z j h1 (by omega), z (a + d) (by omega) (by omega)]
    grind
theorem sm_one (c : Nat → Rat) (k : Nat) : ∀ n, sm n (fun j => if k = j then c j else 0) = if k < n then c k else 0
  | 0 => by rw [if_neg (Nat.not_lt_zero k)]; rfl
  | n + 1 => by
    show sm n (fun j => if k = j then c j else 0) + (if k = n then c n else 0) = _
    rw [sm_one c k n]
    by_cases e : k = n
    · subst e
      rw [if_neg (Nat.lt_irrefl k), if_pos rfl, if_pos (Nat.lt_succ_self k)]; grind
    · rw [if_neg e]
      by_cases h : k < n
      · rw [if_pos h, if_pos (by omega)]; grind
      · rw [if_neg h, if_neg (by omega)]; grind
/-- no solution but nought of the equations with nought behind -/
def Ns (n : Nat) (m : Mx) : Prop := ∀ z : Nat → Rat, z m.length = 0 → Sol n m z → ∀ j, j < m.length → z j = 0
theorem piv_ex (hn : n = m.length + 1) (hat : at_ < m.length) (u : Un m at_) (ns : Ns n m) : ∃ p, at_ ≤ p ∧ p < m.length ∧ cell m p at_ ≠ 0 := by
  apply Classical.byContradiction
  intro hc
  have hz : ∀ k, at_ ≤ k → k < m.length → cell m k at_ = 0 := fun k h1 h2 => Classical.byContradiction fun h => hc ⟨k, h1, h2, h⟩
  let z : Nat → Rat := fun j => if j < at_ then -cell m j at_ else if j = at_ then 1 else 0
  have zat : z at_ = 1 := by show (if at_ < at_ then _ else if at_ = at_ then (1 : Rat) else 0) = 1; rw [if_neg (Nat.lt_irrefl _), if_pos rfl]
  have := ns z (by show (if m.length < at_ then _ else if m.length = at_ then (1 : Rat) else 0) = 0; rw [if_neg (by omega), if_neg (by omega)]) (fun k hk => by
    rw [sm_ext (a := at_ + 1) (by omega) fun j h1 h2 => by
      have : z j = 0 := by show (if j < at_ then _ else if j = at_ then (1 : Rat) else 0) = 0; rw [if_neg (by omega), if_neg (by omega)]
      rw [this]; grind]
    show sm at_ (fun j => cell m k j * z j) + cell m k at_ * z at_ = 0
    have e : sm at_ (fun j => cell m k j * z j) = sm at_ fun j => if k = j then -cell m j at_ else 0 := sm_congr fun j hj => by
      have : z j = -cell m j at_ := if_pos hj
      rw [this, u k j hk hj]
      split <;> grind
    rw [e, sm_one, zat]
    by_cases h : k < at_
    · rw [if_pos h]; grind
    · rw [if_neg h, hz k (by omega) hk]; grind) at_ hat
  rw [zat] at this
  exact absurd this (by decide)
theorem un_sol (hn : n = m.length + 1) (u : Un m m.length) {z : Nat → Rat} (hz : z m.length = -1) : Sol n m z ↔ ∀ k, k < m.length → z k = cell m k m.length := by
  have key : ∀ k, k < m.length → sm n (fun j => cell m k j * z j) = z k - cell m k m.length := fun k hk => by
    rw [hn]
    show sm m.length (fun j => cell m k j * z j) + cell m k m.length * z m.length = _
    have e : sm m.length (fun j => cell m k j * z j) = sm m.length fun j => if k = j then z j else 0 := sm_congr fun j hj => by
      rw [u k j hk hj]
      split <;> grind
    rw [e, sm_one, if_pos hk, hz]; grind
  constructor
  · intro h k hk
    have := h k hk
    rw [key k hk] at this
    grind
  · intro h k hk
    rw [key k hk, h k hk]; grind
end
/-! ### step by step -/
def stepM (m : Mx) (i : Nat) : Mx := clearedL m i (pivF m i)
def runM (m : Mx) (i : Nat) : Mx := (List.range i).foldl stepM m
theorem runM_succ (m : Mx) (i : Nat) : runM m (i + 1) = stepM (runM m i) i := by unfold runM; rw [List.range_succ, List.foldl_append]; rfl
/-- a row of so many bits -/
def RowB (b : Nat) (row : List Rat) : Prop := ∃ d : Int, d ≠ 0 ∧ bt b d ∧ ∀ j, ∃ x : Int, bt b x ∧ row.getD j 0 = Rat.divInt x d
structure Good (n b : Nat) (m : Mx) : Prop where
  wd : Wd n m
  bits : ∀ k, k < m.length → RowB b (m.getD k [])
theorem bt_zero (b : Nat) : bt b 0 := by show (0 : Int).natAbs < 2 ^ b; exact Nat.two_pow_pos b
theorem RowB.fit {b : Nat} {row : List Rat} (h : RowB b row) (j : Nat) : fit b (row.getD j 0) := by
  obtain ⟨d, d0, db, q⟩ := h
  obtain ⟨x, xb, e⟩ := q j
  rw [e]
  exact fit_divInt xb d0 db
theorem row_head {b : Nat} {row : List Rat} (h : RowB b row) {a : Nat} (ha : row.getD a 0 ≠ 0) : RowB b (row.map fun x => x / row.getD a 0) := by
  obtain ⟨d, d0, db, q⟩ := h
  obtain ⟨x, xb, e⟩ := q a
  have x0 : x ≠ 0 := fun z => ha (by rw [e, z, Rat.zero_divInt])
  refine ⟨x, x0, xb, fun j => ?_⟩
  by_cases hj : j < row.length
  · obtain ⟨y, yb, e2⟩ := q j
    refine ⟨y, yb, ?_⟩
    rw [getD_map _ 0 0 hj, e2, e, Rat.divInt_eq_div, Rat.divInt_eq_div, Rat.divInt_eq_div]
    have h1 : (d : Rat) ≠ 0 := by intro z; exact d0 (by exact_mod_cast z)
    have h2 : (x : Rat) ≠ 0 := by intro z; exact x0 (by exact_mod_cast z)
    grind
  · refine ⟨0, bt_zero _, ?_⟩
    rw [List.getD_eq_getElem?_getD, List.getElem?_eq_none (by rw [List.length_map]; omega), Rat.zero_divInt]; rfl
theorem row_new {b : Nat} {src hd : List Rat} (hs : RowB b src) (hh : ∃ a : Int, a ≠ 0 ∧ bt b a ∧ ∀ j, ∃ x : Int, bt b x ∧ hd.getD j 0 = Rat.divInt x a) (a : Nat) (n : Nat) (hn : hd.length = n) : RowB (2 * b + 1) ((List.range n).map fun j => src.getD j 0 - src.getD a 0 * hd.getD j 0) := by
  obtain ⟨d, d0, db, q⟩ := hs
  obtain ⟨e, e0, eb, q2⟩ := hh
  obtain ⟨f, fb, hf⟩ := q a
  have b2 : ∀ {i j : Int}, bt b i → bt b j → bt (2 * b) (i * j) := fun {i j} h1 h2 => by
    have := bt_mul h1 h2
    rw [show b + b = 2 * b by omega] at this
    exact this
  refine ⟨d * e, Int.mul_ne_zero d0 e0, (b2 db eb).mono (by omega), fun j => ?_⟩
  by_cases hj : j < n
  · obtain ⟨x, xb, hx⟩ := q j
    obtain ⟨y, yb, hy⟩ := q2 j
    refine ⟨x * e - f * y, bt_sub (b2 xb eb) (b2 fb yb), ?_⟩
    rw [getD_map_range _ _ hj, hx, hf, hy, Rat.divInt_eq_div, Rat.divInt_eq_div, Rat.divInt_eq_div, Rat.divInt_eq_div]
    have h1 : (d : Rat) ≠ 0 := by intro z; exact d0 (by exact_mod_cast z)
    have h2 : (e : Rat) ≠ 0 := by intro z; exact e0 (by exact_mod_cast z)
    rw [Rat.intCast_sub, Rat.intCast_mul, Rat.intCast_mul, Rat.intCast_mul]
    grind
  · refine ⟨0, bt_zero _, ?_⟩
    rw [List.getD_eq_getElem?_getD, List.getElem?_eq_none (by rw [List.length_map, List.length_range]; omega), Rat.zero_divInt]; rfl
theorem RowB.mono {b c : Nat} {row : List Rat} (h : RowB b row) (l : b ≤ c) : RowB c row := by
  obtain ⟨d, d0, db, q⟩ := h
  exact ⟨d, d0, db.mono l, fun j => let ⟨x, xb, e⟩ := q j; ⟨x, xb.mono l, e⟩⟩
theorem cleared_good {n b at_ p : Nat} {m : Mx} (g : Good n b m) (hat : at_ < m.length) (hp : Piv m at_ p) : Good n (2 * b + 1) (clearedL m at_ p) := by
  obtain ⟨p1, p2, p3, _⟩ := hp
  refine ⟨cleared_wd g.wd p2, fun k hk => ?_⟩
  rw [cleared_len] at hk
  unfold clearedL
  rw [getD_map_range _ _ hk]
  have hh : RowB b (headL m at_ p) := row_head (g.bits p p2) p3
  split
  · exact hh.mono (by omega)
  · unfold newRow
    have hs : RowB b (srcL m at_ p k) := by unfold srcL; split; exact g.bits at_ hat; exact g.bits k hk
    obtain ⟨d, d0, db, q⟩ := hh
    exact row_new hs ⟨d, d0, db, q⟩ at_ _ rfl
structure StepOk (n b i : Nat) (m0 m : Mx) : Prop where
  len : m.length = m0.length
  good : Good n b m
  un : Un m i
  sol : ∀ z, Sol n m0 z ↔ Sol n m z
theorem step_ok {n b i : Nat} {m0 m : Mx} (hn : n = m0.length + 1) (ns : Ns n m0) (h : StepOk n b i m0 m) (hi : i < m0.length) : Piv m i (pivF m i) ∧ StepOk n (2 * b + 1) (i + 1) m0 (stepM m i) := by
  have hi' : i < m.length := by rw [h.len]; exact hi
  have ns' : Ns n m := fun z z0 hz j hj => by
    rw [h.len] at z0 hj
    exact ns z z0 ((h.sol z).mpr hz) j hj
  have pv := piv_of (piv_ex (by rw [h.len]; exact hn) hi' h.un ns')
  exact ⟨pv, ⟨by unfold stepM; rw [cleared_len, h.len], cleared_good h.good hi' pv, cleared_un h.good.wd (by rw [h.len]; omega) hi' pv h.un, fun z => (h.sol z).trans (cleared_sol h.good.wd hi' pv z)⟩⟩
def bAt : Nat → Nat
  | 0 => 80
  | n + 1 => 2 * bAt n + 1
theorem run_ok {n : Nat} {m0 : Mx} (hn : n = m0.length + 1) (ns : Ns n m0) (g : Good n 80 m0) : ∀ i, i ≤ m0.length → StepOk n (bAt i) i m0 (runM m0 i)
  | 0, _ => ⟨rfl, g, fun k j _ hj => absurd hj (Nat.not_lt_zero j), fun z => Iff.rfl⟩
  | i + 1, hi => by
    rw [runM_succ]
    exact (step_ok hn ns (run_ok hn ns g i (by omega)) (by omega)).2
theorem bAt_le : ∀ i, i ≤ 4 → bAt i ≤ 1300 := by decide
def solL (m : Mx) : List Rat := (runM m m.length).map fun row => row.getLastD 0
/-- what comes out solves the equations -/
theorem sol_ok {n : Nat} {m0 : Mx} (hn : n = m0.length + 1) (ns : Ns n m0) (g : Good n 80 m0) : (solL m0).length = m0.length ∧ Sol n m0 (fun j => if j < m0.length then (solL m0).getD j 0 else -1) := by
  have S := run_ok hn ns g m0.length (Nat.le_refl _)
  have len : (solL m0).length = m0.length := by unfold solL; rw [List.length_map, S.len]
  refine ⟨len, (S.sol _).mpr ((un_sol (by rw [S.len]; exact hn) (by rw [S.len]; exact S.un) (by rw [S.len, if_neg (Nat.lt_irrefl _)])).mpr fun k hk => ?_)⟩
  have hk' : k < m0.length := by rw [← S.len]; exact hk
  rw [if_pos hk']
  unfold solL cell
  rw [getD_map _ 0 [] hk]
  have wl := wd_get S.good.wd hk
  rw [List.getLastD_eq_getLast?, List.getLast?_eq_getElem?, wl, hn, S.len, List.getD_eq_getElem?_getD]; rfl
theorem sol_uniq {n : Nat} {m0 : Mx} (hn : n = m0.length + 1) (ns : Ns n m0) {x y : Nat → Rat} (hx : Sol n m0 x) (hy : Sol n m0 y) (e : x m0.length = y m0.length) : ∀ j, j < m0.length → x j = y j := by
  have := ns (fun j => x j + (-1) * y j) (by show x m0.length + (-1) * y m0.length = 0; rw [e]; grind) (fun k hk => by
    have e1 : sm n (fun j => cell m0 k j * (x j + (-1) * y j)) = sm n fun j => cell m0 k j * x j + (-1) * (cell m0 k j * y j) := sm_congr fun j _ => by grind
    rw [e1, sm_add, sm_mul, hx k hk, hy k hk]; grind)
  intro j hj
  have q : x j + (-1) * y j = 0 := this j hj
  grind
end Vs

/-! The race's outcome: what the program's solution means. -/
namespace Vs
open PySem PySem.Spec L2
def heldStep (die : List Int) (row w : List Nat) (q : Rat) (k : Nat) : Rat := if cutL w none (some (1 + (k : Int))) <:+ row then q + worthQ die (cutL w none (some (1 + (k : Int)))) else q
def heldQ (die : List Int) (row w : List Nat) : Rat := (List.range ((w.length : Int) - 1).toNat).foldl (heldStep die row w) 0
theorem cut1 (w : List Nat) (k : Nat) : cutL w none (some (1 + (k : Int))) = w.take (k + 1) := by
  have : 1 + (k : Int) = ((k + 1 : Nat) : Int) := by omega
  rw [this, cutL_to]
theorem held_sum (die : List Int) (row w : List Nat) : ∀ (l : List Nat) (q : Rat), l.foldl (heldStep die row w) q = q + (l.map fun k => hT die w row (k + 1)).sum
  | [], q => by show q = q + 0; grind
  | k :: l, q => by
    rw [List.foldl_cons, held_sum die row w l, List.map_cons, List.sum_cons]
    unfold heldStep hT
    rw [cut1]
    split <;> grind
theorem held_eq (die : List Int) (row w : List Nat) : heldQ die row w = ((List.range (w.length - 1)).map fun k => hT die w row (k + 1)).sum := by
  unfold heldQ
  rw [held_sum, show ((w.length : Int) - 1).toNat = w.length - 1 by omega]
  grind
theorem held_u {die : List Int} {row w : List Nat} (h1 : 1 ≤ w.length) (h : ¬ w <:+ row) : heldQ die row w = uF die w row := by
  rw [held_eq]
  unfold uF
  obtain ⟨n, hn⟩ : ∃ n, w.length = n + 1 := ⟨w.length - 1, by omega⟩
  rw [hn, sum_range_succ, Nat.add_sub_cancel]
  have : hT die w row (n + 1) = 0 := by unfold hT; rw [← hn, List.take_length, if_neg h]
  rw [this]; grind
/-! ### the rows -/
def lineQ (die : List Int) (ws : List (List Nat)) (row w : List Nat) : List Rat := (ws.map fun one => meetQ die one w) ++ [-1, heldQ die row w]
def lastQ (ws : List (List Nat)) : List Rat := (ws.map fun _ => (1 : Rat)) ++ [0, 1]
def linesQ (die : List Int) (ws : List (List Nat)) (row : List Nat) : Mx := ws.map (lineQ die ws row) ++ [lastQ ws]
def outQ (die : List Int) (ws : List (List Nat)) (row : List Nat) : List Rat := solL (linesQ die ws row)
theorem getD_app {α : Type} {l l' : List α} {k : Nat} {z : α} (h : k < l.length) : (l ++ l').getD k z = l.getD k z := by
  rw [List.getD_eq_getElem?_getD, List.getD_eq_getElem?_getD, List.getElem?_append_left h]
theorem getD_app2 {α : Type} {l l' : List α} {k : Nat} {z : α} : (l ++ l').getD (l.length + k) z = l'.getD k z := by
  rw [List.getD_eq_getElem?_getD, List.getD_eq_getElem?_getD, List.getElem?_append_right (by omega), Nat.add_sub_cancel_left]
section
variable {die : List Int} {ws : List (List Nat)} {row : List Nat}
theorem lines_len : (linesQ die ws row).length = ws.length + 1 := by unfold linesQ; rw [List.length_append, List.length_map]; rfl
theorem lines_wd : Wd (ws.length + 2) (linesQ die ws row) := fun r hr => by
  unfold linesQ at hr
  rcases List.mem_append.mp hr with h | h
  · obtain ⟨w, _, rfl⟩ := List.mem_map.mp h
    unfold lineQ; rw [List.length_append, List.length_map]; rfl
  · rw [List.mem_singleton.mp h]
    unfold lastQ; rw [List.length_append, List.length_map]; rfl
theorem lines_get {k : Nat} (h : k < ws.length) : (linesQ die ws row).getD k [] = lineQ die ws row (wA ws k) := by
  unfold linesQ
  rw [getD_app (by rw [List.length_map]; exact h), getD_map _ [] [] h]
theorem lines_last : (linesQ die ws row).getD ws.length [] = lastQ ws := by
  have := getD_app2 (l := ws.map (lineQ die ws row)) (l' := [lastQ ws]) (k := 0) (z := [])
  rw [List.length_map] at this
  exact this
theorem cell_A {i j : Nat} (hi : i < ws.length + 1) (hj : j < ws.length + 1) : cell (linesQ die ws row) i j = cA die ws i j := by
  unfold cell cA
  by_cases h : i < ws.length
  · rw [if_pos h, lines_get h]
    unfold lineQ
    by_cases h2 : j < ws.length
    · rw [if_pos h2, getD_app (by rw [List.length_map]; exact h2), getD_map _ 0 [] h2, meet_u]
    · have e : j = ws.length := by omega
      subst e
      rw [if_neg h2]
      have := getD_app2 (l := ws.map fun one => meetQ die one (wA ws i)) (l' := [-1, heldQ die row (wA ws i)]) (k := 0) (z := 0)
      rw [List.length_map] at this
      exact this
  · have e : i = ws.length := by omega
    subst e
    rw [if_neg h, lines_last]
    unfold lastQ
    by_cases h2 : j < ws.length
    · rw [if_pos h2, getD_app (by rw [List.length_map]; exact h2), getD_map _ 0 [] h2]
    · have e : j = ws.length := by omega
      subst e
      rw [if_neg h2]
      have := getD_app2 (l := ws.map fun _ => (1 : Rat)) (l' := [0, 1]) (k := 0) (z := 0)
      rw [List.length_map] at this
      exact this
def rhs (die : List Int) (ws : List (List Nat)) (row : List Nat) (i : Nat) : Rat := if i < ws.length then heldQ die row (wA ws i) else 1
theorem cell_rhs {i : Nat} (hi : i < ws.length + 1) : cell (linesQ die ws row) i (ws.length + 1) = rhs die ws row i := by
  unfold cell rhs
  by_cases h : i < ws.length
  · rw [if_pos h, lines_get h]
    unfold lineQ
    have := getD_app2 (l := ws.map fun one => meetQ die one (wA ws i)) (l' := [-1, heldQ die row (wA ws i)]) (k := 1) (z := 0)
    rw [List.length_map] at this
    exact this
  · have e : i = ws.length := by omega
    subst e
    rw [if_neg h, lines_last]
    unfold lastQ
    have := getD_app2 (l := ws.map fun _ => (1 : Rat)) (l' := [0, 1]) (k := 1) (z := 0)
    rw [List.length_map] at this
    exact this
theorem sol_iff (z : Nat → Rat) : Sol (ws.length + 2) (linesQ die ws row) z ↔ ∀ i, i < ws.length + 1 → sm (ws.length + 1) (fun j => cA die ws i j * z j) + rhs die ws row i * z (ws.length + 1) = 0 := by
  unfold Sol
  rw [lines_len]
  have e : ∀ i, i < ws.length + 1 → sm (ws.length + 2) (fun j => cell (linesQ die ws row) i j * z j) = sm (ws.length + 1) (fun j => cA die ws i j * z j) + rhs die ws row i * z (ws.length + 1) := fun i hi => by
    show sm (ws.length + 1) (fun j => cell (linesQ die ws row) i j * z j) + cell (linesQ die ws row) i (ws.length + 1) * z (ws.length + 1) = _
    rw [cell_rhs hi]
    congr 1
    exact sm_congr fun j hj => by rw [cell_A hi hj]
  exact ⟨fun h i hi => (e i hi).symm.trans (h i hi), fun h i hi => (e i hi).trans (h i hi)⟩
theorem lines_ns (ok : okRace die ws) : Ns (ws.length + 2) (linesQ die ws row) := fun z z0 hz => by
  rw [lines_len] at z0 ⊢
  refine race_one ok z fun i hi => ?_
  have := (sol_iff z).mp hz i hi
  rw [z0] at this
  grind
/-! ### bits of the rows -/
theorem ab_mul (die : List Int) : ∀ (l : List Nat) (p : Int × Int), (l.foldl (abStep die) p).2 = p.2 * (l.foldl (abStep die) (1, 1)).2
  | [], p => (Int.mul_one _).symm
  | c :: l, p => by
    rw [List.foldl_cons, List.foldl_cons, ab_mul die l, ab_mul die l (abStep die (1, 1) c)]
    show p.2 * wgt die c * _ = p.2 * (1 * wgt die c * _)
    rw [Int.one_mul, Int.mul_assoc]
abbrev wD (die : List Int) (w : List Nat) : Int := (w.foldl (abStep die) (1, 1)).2
theorem ab_of (hd : okDie die) {p : List Nat} (hp : okText die.length p) (hl : p.length ≤ 6) : 0 < (p.foldl (abStep die) (1, 1)).1 ∧ 0 < wD die p ∧ bt 37 (p.foldl (abStep die) (1, 1)).1 ∧ bt 37 (wD die p) ∧ Rat.divInt (p.foldl (abStep die) (1, 1)).1 (wD die p) = worthQ die p := by
  obtain ⟨a1, a2, a3, a4, a5⟩ := ab_ok hd p (1, 1) 1 hp (by decide) (by decide) (by decide) (by decide)
  have le : (2 : Int) ^ (1 + 6 * p.length) ≤ 2 ^ 37 := by
    have : (2 : Nat) ^ (1 + 6 * p.length) ≤ 2 ^ 37 := Nat.pow_le_pow_right (by decide) (by omega)
    exact_mod_cast this
  have e37 : (2 : Int) ^ 37 = 137438953472 := by decide
  have e37' : (2 : Nat) ^ 37 = 137438953472 := by decide
  refine ⟨a1, a2, ?_, ?_, a5⟩
  · show ((p.foldl (abStep die) (1, 1)).1).natAbs < 2 ^ 37; omega
  · show ((p.foldl (abStep die) (1, 1)).2).natAbs < 2 ^ 37; omega
theorem worth_frac (hd : okDie die) {w : List Nat} (hw : okWord die.length w) (k : Nat) : ∃ x : Int, bt 74 x ∧ worthQ die (w.take k) = Rat.divInt x (wD die w) := by
  have l6 := hw.2.1
  obtain ⟨a1, a2, a3, a4, a5⟩ := ab_of hd (p := w.take k) (hw.2.2.sub fun c h => List.mem_of_mem_take h) (by rw [List.length_take]; omega)
  obtain ⟨b1, b2, b3, b4, _⟩ := ab_of hd (p := w.drop k) (hw.2.2.sub fun c h => List.mem_of_mem_drop h) (by rw [List.length_drop]; omega)
  refine ⟨_, bt_mul a3 b4, ?_⟩
  have e : wD die w = wD die (w.take k) * wD die (w.drop k) := by
    show (w.foldl (abStep die) (1, 1)).2 = _
    conv => lhs; rw [← List.take_append_drop k w, List.foldl_append]
    exact ab_mul die _ _
  rw [e, Rat.divInt_mul_right (by omega), a5]
theorem frac_sum {d : Int} (f : Nat → Rat) : ∀ n, (∀ k, k < n → ∃ x : Int, bt 74 x ∧ f k = Rat.divInt x d) → d ≠ 0 → ∃ x : Int, bt (74 + n) x ∧ ((List.range n).map f).sum = Rat.divInt x d
  | 0, _, _ => ⟨0, bt_zero _, by rw [Rat.zero_divInt]; rfl⟩
  | n + 1, h, h0 => by
    obtain ⟨x, xb, e⟩ := frac_sum f n (fun k hk => h k (by omega)) h0
    obtain ⟨y, yb, e2⟩ := h n (by omega)
    refine ⟨x + y, (bt_add xb (yb.mono (Nat.le_add_right 74 n))), ?_⟩
    rw [sum_range_succ, e, e2, Rat.divInt_eq_div, Rat.divInt_eq_div, Rat.divInt_eq_div, Rat.intCast_add]
    have h1 : (d : Rat) ≠ 0 := by intro z; exact h0 (by exact_mod_cast z)
    grind
theorem hT_frac (hd : okDie die) {w : List Nat} (hw : okWord die.length w) (t : List Nat) (k : Nat) : ∃ x : Int, bt 74 x ∧ hT die w t k = Rat.divInt x (wD die w) := by
  unfold hT
  split
  · exact worth_frac hd hw k
  · exact ⟨0, bt_zero _, (Rat.zero_divInt _).symm⟩
theorem row_of {d : Int} (h0 : d ≠ 0) (hb : bt 80 d) {l : List Rat} (h : ∀ x ∈ l, ∃ y : Int, bt 80 y ∧ x = Rat.divInt y d) : RowB 80 l := ⟨d, h0, hb, fun j => by
  by_cases hj : j < l.length
  · exact h _ (getD_mem hj)
  · refine ⟨0, bt_zero _, ?_⟩
    rw [List.getD_eq_getElem?_getD, List.getElem?_eq_none (by omega), Rat.zero_divInt]; rfl⟩
theorem lines_good (ok : okRace die ws) : Good (ws.length + 2) 80 (linesQ die ws row) := by
  refine ⟨lines_wd, fun k hk => ?_⟩
  rw [lines_len] at hk
  have hd := ok.1
  by_cases h : k < ws.length
  · rw [lines_get h]
    have hw := ok.2.1 _ (getD_mem (z := []) h)
    have hw : okWord die.length (wA ws k) := hw
    generalize wA ws k = w at hw
    have l6 := hw.2.1
    obtain ⟨_, b2, _, b4, _⟩ := ab_of hd hw.2.2 l6
    refine row_of (d := wD die w) (by omega) (b4.mono (by decide)) fun x hx => ?_
    unfold lineQ at hx
    rcases List.mem_append.mp hx with hx | hx
    · obtain ⟨one, _, rfl⟩ := List.mem_map.mp hx
      rw [meet_u]
      obtain ⟨y, yb, e⟩ := frac_sum (fun k => hT die w one (k + 1)) w.length (fun k _ => hT_frac hd hw one (k + 1)) (by omega)
      exact ⟨y, yb.mono (by omega), e⟩
    · rcases List.mem_cons.mp hx with rfl | hx
      · refine ⟨-wD die w, ?_, ?_⟩
        · show (-wD die w).natAbs < _
          rw [Int.natAbs_neg]
          exact b4.mono (by decide)
        · rw [Rat.divInt_eq_div, Rat.intCast_neg]
          have h1 : (wD die w : Rat) ≠ 0 := by intro z; have : wD die w = 0 := by exact_mod_cast z
                                               omega
          grind
      · rw [List.mem_singleton.mp hx, held_eq]
        obtain ⟨y, yb, e⟩ := frac_sum (fun k => hT die w row (k + 1)) (w.length - 1) (fun k _ => hT_frac hd hw row (k + 1)) (by omega)
        exact ⟨y, yb.mono (by omega), e⟩
  · have e : k = ws.length := by omega
    subst e
    rw [lines_last]
    have one : ∃ y : Int, bt 80 y ∧ (1 : Rat) = Rat.divInt y 1 := ⟨1, by show (1 : Int).natAbs < 2 ^ 80; decide, by decide⟩
    refine row_of (d := 1) (by decide) (by show (1 : Int).natAbs < 2 ^ 80; decide) fun x hx => ?_
    unfold lastQ at hx
    rcases List.mem_append.mp hx with hx | hx
    · obtain ⟨_, _, rfl⟩ := List.mem_map.mp hx
      exact one
    · rcases List.mem_cons.mp hx with rfl | hx
      · exact ⟨0, bt_zero _, by decide⟩
      · rw [List.mem_singleton.mp hx]; exact one
/-! ### what comes out -/
theorem out_len (ok : okRace die ws) : (outQ die ws row).length = ws.length + 1 := by
  have := (sol_ok (n := ws.length + 2) (m0 := linesQ die ws row) (by rw [lines_len]) (lines_ns ok) (lines_good ok)).1
  rw [lines_len] at this
  exact this
theorem out_eq (ok : okRace die ws) : ∀ i, i < ws.length + 1 → sm (ws.length + 1) (fun j => cA die ws i j * (outQ die ws row).getD j 0) = rhs die ws row i := by
  have h := (sol_ok (n := ws.length + 2) (m0 := linesQ die ws row) (by rw [lines_len]) (lines_ns ok) (lines_good ok)).2
  intro i hi
  have := (sol_iff _).mp h i hi
  rw [lines_len] at this
  have e : sm (ws.length + 1) (fun j => cA die ws i j * (if j < ws.length + 1 then (solL (linesQ die ws row)).getD j 0 else -1)) = sm (ws.length + 1) fun j => cA die ws i j * (outQ die ws row).getD j 0 := sm_congr fun j hj => by rw [if_pos hj]; rfl
  rw [e, if_neg (Nat.lt_irrefl _)] at this
  grind
theorem out_uniq (ok : okRace die ws) {x : Nat → Rat} (hx : ∀ i, i < ws.length + 1 → sm (ws.length + 1) (fun j => cA die ws i j * x j) = rhs die ws row i) : ∀ j, j < ws.length + 1 → x j = (outQ die ws row).getD j 0 := by
  have := race_one ok (fun j => x j + (-1) * (outQ die ws row).getD j 0) fun i hi => by
    have e : sm (ws.length + 1) (fun j => cA die ws i j * (x j + (-1) * (outQ die ws row).getD j 0)) = sm (ws.length + 1) fun j => cA die ws i j * x j + (-1) * (cA die ws i j * (outQ die ws row).getD j 0) := sm_congr fun j _ => by grind
    rw [e, sm_add, sm_mul, hx i hi, out_eq ok i hi]
    grind
  intro j hj
  have q : x j + (-1) * (outQ die ws row).getD j 0 = 0 := this j hj
  grind
theorem out_fit (ok : okRace die ws) (j : Nat) : fit 2600 ((outQ die ws row).getD j 0) := by
  have S := run_ok (n := ws.length + 2) (m0 := linesQ die ws row) (by rw [lines_len]) (lines_ns ok) (lines_good ok) (ws.length + 1) (by rw [lines_len]; exact Nat.le_refl _)
  have h4 := ok.four
  have hb : bAt (ws.length + 1) ≤ 2600 := by
    have : ∀ i, i ≤ 5 → bAt i ≤ 2600 := by decide
    exact this _ (by omega)
  by_cases hj : j < (outQ die ws row).length
  · unfold outQ solL at hj ⊢
    rw [lines_len] at hj ⊢
    rw [List.length_map] at hj
    rw [getD_map _ 0 [] hj]
    have wl := wd_get S.good.wd hj
    have := (S.good.bits j hj).fit (ws.length + 1)
    rw [List.getLastD_eq_getLast?, List.getLast?_eq_getElem?, wl]
    rw [List.getD_eq_getElem?_getD] at this
    exact fit.mono this hb
  · rw [List.getD_eq_getElem?_getD, List.getElem?_eq_none (by omega)]
    exact fit_zero.mono (by decide)
/-! ### open rows -/
def opn (ws : List (List Nat)) (row : List Nat) : Prop := ∀ w ∈ ws, ¬ w <:+ row
theorem rhs_open (ok : okRace die ws) (h : opn ws row) (i : Nat) : rhs die ws row i = if i < ws.length then uF die (wA ws i) row else 1 := by
  unfold rhs
  by_cases hi : i < ws.length
  · rw [if_pos hi, if_pos hi, held_u (ok.2.1 _ (getD_mem hi)).1 (h _ (getD_mem hi))]
  · rw [if_neg hi, if_neg hi]
theorem opn_of_none (ok : okRace die ws) (h : firstEnd ws row = none) : opn ws row := by
  have hne := ok.ne
  have ha := ok.2.2.2.2
  intro w hw hs
  have l1 := ok.one w hw
  have ll := hs.length_le
  obtain ⟨n, hn⟩ : ∃ n, row.length = n + 1 := ⟨row.length - 1, by omega⟩
  unfold firstEnd at h
  rw [show ((row.length : Int) + 1 - 1).toNat = row.length by omega, hn] at h
  have := fs_none.mp h n (by omega)
  unfold firstStep at this
  have e : cutL row none (some (1 + (n : Int))) = row := by rw [cut1, ← hn, List.take_length]
  rw [e, Option.map_eq_none_iff, endAt_state ha hne] at this
  have hst := (ends_iff ha hne hw row).mp hs
  rw [if_pos (by rw [hst]; exact hw)] at this
  cases this
theorem out_state (ok : okRace die ws) (h : opn ws row) : outQ die ws row = outQ die ws (stateL ws row) := by
  have hne := ok.ne
  have ha := ok.2.2.2.2
  have h2 : opn ws (stateL ws row) := fun w hw hs => h w hw (hs.trans (state_spec ws row).2.1)
  have : linesQ die ws row = linesQ die ws (stateL ws row) := by
    unfold linesQ
    congr 1
    refine List.map_congr_left fun w hw => ?_
    unfold lineQ
    have l1 := ok.one w hw
    rw [held_u l1 (h w hw), held_u l1 (h2 w hw), u_state hw]
  unfold outQ
  rw [this]
/-- what is behind a state: of a word, its own share alone -/
def beh (die : List Int) (ws : List (List Nat)) (t : List Nat) (j : Nat) : Rat := if t ∈ ws then (if j < ws.length ∧ wA ws j = t then 1 else 0) else (outQ die ws t).getD j 0
theorem beh_eq (ok : okRace die ws) {t : List Nat} (ht : ∃ w ∈ ws, t <+: w) (i : Nat) (hi : i < ws.length + 1) : sm (ws.length + 1) (fun j => cA die ws i j * beh die ws t j) = if i < ws.length then uF die (wA ws i) t else 1 := by
  have hne := ok.ne
  have ha := ok.2.2.2.2
  by_cases hw : t ∈ ws
  · obtain ⟨q, hq, e⟩ := List.mem_iff_getElem.mp hw
    have e' : wA ws q = t := by show ws.getD q [] = t; rw [getD_lt hq, e]
    have e1 : sm (ws.length + 1) (fun j => cA die ws i j * beh die ws t j) = sm (ws.length + 1) fun j => if q = j then cA die ws i j else 0 := sm_congr fun j hj => by
      unfold beh
      rw [if_pos hw]
      by_cases h : q = j
      · rw [if_pos h, if_pos ⟨by omega, by rw [← h, e']⟩]; grind
      · rw [if_neg h, if_neg]
        · grind
        · rintro ⟨hj2, ej⟩
          refine ha q j hq hj2 (fun z => h z.symm) ?_
          have : ws.getD q [] = ws.getD j [] := by rw [show ws.getD q [] = t from e', show ws.getD j [] = t from ej]
          rw [this]
          exact List.infix_refl _
    rw [e1, sm_one, if_pos (by omega)]
    unfold cA
    rw [if_pos hq, if_pos hq, e']
  · have op : opn ws t := state_open ha hne ht hw
    have e1 : sm (ws.length + 1) (fun j => cA die ws i j * beh die ws t j) = sm (ws.length + 1) fun j => cA die ws i j * (outQ die ws t).getD j 0 := sm_congr fun j _ => by unfold beh; rw [if_neg hw]
    rw [e1, out_eq ok i hi, rhs_open ok op]
/-- the equation between a state and the next ones -/
theorem harm (ok : okRace die ws) {t : List Nat} (op : opn ws t) (j : Nat) (hj : j < ws.length + 1) : (outQ die ws t).getD j 0 = Em die (fun c => beh die ws (stateL ws (t ++ [c])) j) + if j = ws.length then 1 else 0 := by
  have hd := ok.1
  have hne := ok.ne
  refine (out_uniq ok (x := fun j => Em die (fun c => beh die ws (stateL ws (t ++ [c])) j) + if j = ws.length then 1 else 0) (fun i hi => ?_) j hj).symm
  have e1 : sm (ws.length + 1) (fun j => cA die ws i j * (Em die (fun c => beh die ws (stateL ws (t ++ [c])) j) + if j = ws.length then 1 else 0)) = sm (ws.length + 1) (fun j => Em die fun c => cA die ws i j * beh die ws (stateL ws (t ++ [c])) j) + sm (ws.length + 1) fun j => if ws.length = j then cA die ws i j else 0 := by
    rw [← sm_add]
    refine sm_congr fun j _ => ?_
    rw [Em_mul]
    by_cases h : j = ws.length
    · rw [if_pos h, if_pos h.symm]; grind
    · rw [if_neg h, if_neg (fun z => h z.symm)]; grind
  rw [e1, ← Em_sm, sm_one, if_pos (Nat.lt_succ_self _), rhs_open ok op]
  have e2 : Em die (fun c => sm (ws.length + 1) fun j => cA die ws i j * beh die ws (stateL ws (t ++ [c])) j) = Em die fun c => if i < ws.length then uF die (wA ws i) (t ++ [c]) else 1 := Em_congr fun c _ => by
    rw [beh_eq ok (state_pre hne _) i hi]
    by_cases h : i < ws.length
    · rw [if_pos h, if_pos h, ← u_state (getD_mem h)]
    · rw [if_neg h, if_neg h]
  rw [e2]
  unfold cA
  by_cases h : i < ws.length
  · have e3 : Em die (fun c => if i < ws.length then uF die (wA ws i) (t ++ [c]) else 1) = Em die fun c => uF die (wA ws i) (t ++ [c]) := Em_congr fun c _ => if_pos h
    rw [e3, u_open hd (ok.2.1 _ (getD_mem h)) (op _ (getD_mem h)), if_pos h, if_pos h, if_neg (Nat.lt_irrefl _)]
    grind
  · have e3 : Em die (fun c => if i < ws.length then uF die (wA ws i) (t ++ [c]) else 1) = Em die fun _ => 1 := Em_congr fun c _ => if_neg h
    rw [e3, Em_const hd, if_neg h, if_neg h, if_neg (Nat.lt_irrefl _)]
    grind
/-- shares are not below nought -/
theorem out_nn (ok : okRace die ws) {t : List Nat} (ht : ∃ w ∈ ws, t <+: w) (hno : t ∉ ws) {j : Nat} (hj : j < ws.length) : 0 ≤ (outQ die ws t).getD j 0 := by
  have hd := ok.1
  have hne := ok.ne
  have ha := ok.2.2.2.2
  obtain ⟨w, hw, q⟩ := max_word hd hne (fun w hw => (ok.2.1 w hw).2.2) (fun t => (-1) * beh die ws t j) fun t ht hno => by
    have op : opn ws t := state_open ha hne ht hno
    have := harm ok op j (by omega)
    rw [if_neg (by omega)] at this
    rw [Em_mul]
    have e : beh die ws t j = (outQ die ws t).getD j 0 := by unfold beh; rw [if_neg hno]
    rw [e, this]
    grind
  have := q t ht
  have e : beh die ws t j = (outQ die ws t).getD j 0 := by unfold beh; rw [if_neg hno]
  have e2 : 0 ≤ beh die ws w j := by
    unfold beh
    rw [if_pos hw]
    split <;> grind
  rw [e] at this
  grind
theorem out_sum (ok : okRace die ws) : sm ws.length (fun j => (outQ die ws row).getD j 0) = 1 := by
  have := out_eq ok (row := row) ws.length (by omega)
  unfold rhs at this
  rw [if_neg (Nat.lt_irrefl _)] at this
  have e : sm (ws.length + 1) (fun j => cA die ws ws.length j * (outQ die ws row).getD j 0) = sm ws.length (fun j => (outQ die ws row).getD j 0) + 0 := by
    show sm ws.length (fun j => cA die ws ws.length j * (outQ die ws row).getD j 0) + cA die ws ws.length ws.length * _ = _
    congr 1
    · refine sm_congr fun j hj => ?_
      unfold cA
      rw [if_neg (Nat.lt_irrefl _), if_pos hj]; grind
    · unfold cA
      rw [if_neg (Nat.lt_irrefl _), if_neg (Nat.lt_irrefl _)]; grind
  rw [e] at this
  grind
end
end Vs

/-! What the defs of the elimination compute. -/
namespace Vs
open PySem PySem.Spec L2
abbrev S_held (ds : List D) (r : Out) : Prop := ∃ (die : List Int) (row w : List Nat), ds = [nums die, sD row, sD w] ∧ okDie die ∧ okWord die.length w ∧ row.length ≤ 1000 ∧ r = .rt (qD (heldQ die row w))
theorem S_held_len {ds : List D} {r : Out} (h : S_held ds r) : ds.length = 3 := by obtain ⟨_, _, _, rfl, _⟩ := h; rfl
structure ClOk (m : Mx) (at_ n b : Nat) : Prop where
  hat : at_ < m.length
  piv : Piv m at_ (pivF m at_)
  good : Good n b m
  hb : b ≤ 1300
  five : m.length ≤ 5
  hn : n = m.length + 1
abbrev S_cleared (ds : List D) (r : Out) : Prop := ∃ (m : Mx) (at_ n b : Nat), ds = [qmD m, iD at_] ∧ ClOk m at_ n b ∧ r = .rn ((clearedL m at_ (pivF m at_)).map qsD)
theorem S_cleared_len {ds : List D} {r : Out} (h : S_cleared ds r) : ds.length = 2 := by obtain ⟨_, _, _, _, rfl, _⟩ := h; rfl
structure SoOk (m : Mx) (n : Nat) : Prop where
  hn : n = m.length + 1
  five : m.length ≤ 5
  ns : Ns n m
  good : Good n 80 m
abbrev S_solved (ds : List D) (r : Out) : Prop := ∃ (m : Mx) (n : Nat), ds = [qmD m] ∧ SoOk m n ∧ r = .rn ((solL m).map qD)
theorem S_solved_len {ds : List D} {r : Out} (h : S_solved ds r) : ds.length = 1 := by obtain ⟨_, _, rfl, _⟩ := h; rfl
def opOk (die : List Int) (ws : List (List Nat)) (row : List Nat) : Prop := okRace die ws ∧ okRow die.length row ∧ firstEnd ws row = none
abbrev S_outcome (ds : List D) (r : Out) : Prop := ∃ (die : List Int) (ws : List (List Nat)) (row : List Nat), ds = [nums die, txts ws, sD row] ∧ opOk die ws row ∧ r = .rn ((outQ die ws row).map qD)
theorem S_outcome_len {ds : List D} {r : Out} (h : S_outcome ds r) : ds.length = 3 := by obtain ⟨_, _, _, rfl, _⟩ := h; rfl
abbrev shQ (die : List Int) (ws : List (List Nat)) (row : List Nat) : List Rat := cutL (outQ die ws row) none (some (-1))
abbrev S_shares (ds : List D) (r : Out) : Prop := ∃ (die : List Int) (ws : List (List Nat)) (row : List Nat), ds = [nums die, txts ws, sD row] ∧ opOk die ws row ∧ r = .rn ((shQ die ws row).map qD)
theorem S_shares_len {ds : List D} {r : Out} (h : S_shares ds r) : ds.length = 3 := by obtain ⟨_, _, _, rfl, _⟩ := h; rfl
abbrev meQ (die : List Int) (ws : List (List Nat)) (row : List Nat) : Rat := (outQ die ws row).getLastD 0
abbrev S_mean (ds : List D) (r : Out) : Prop := ∃ (die : List Int) (ws : List (List Nat)) (row : List Nat), ds = [nums die, txts ws, sD row] ∧ opOk die ws row ∧ r = .rt (qD (meQ die ws row))
theorem S_mean_len {ds : List D} {r : Out} (h : S_mean ds r) : ds.length = 3 := by obtain ⟨_, _, _, rfl, _⟩ := h; rfl
theorem held_fold_fit {die : List Int} (hd : okDie die) {row w : List Nat} (hw : okWord die.length w) (k : Nat) {q : Rat} {n : Nat} (hq : fit n q) : fit (n + 38) (heldStep die row w q k) := by
  unfold heldStep
  have hc := hw.cut (some (1 + (k : Int)))
  split
  · exact fit_add hq (worth_fit hd hc.1 hc.2)
  · exact hq.mono (by omega)
theorem row_mem {b : Nat} {row : List Rat} (h : RowB b row) {x : Rat} (hx : x ∈ row) : fit b x := by
  obtain ⟨k, hk, e⟩ := List.mem_iff_getElem.mp hx
  have := h.fit k
  rw [getD_lt hk, e] at this
  exact this
/-! ### the rows on the way -/
def stF (m : Mx) (at_ p i : Nat) : Mx := (List.range m.length).map fun k => if k < i ∧ k ≠ at_ then newRow m at_ p k else srcL m at_ p k
section
variable {m : Mx} {at_ p i : Nat}
theorem stF_len : (stF m at_ p i).length = m.length := by unfold stF; rw [List.length_map, List.length_range]
theorem stF_get {k : Nat} (h : k < m.length) : (stF m at_ p i).getD k [] = if k < i ∧ k ≠ at_ then newRow m at_ p k else srcL m at_ p k := by
  unfold stF
  rw [getD_map_range _ _ h]
theorem stF_zero : stF m at_ p 0 = (List.range m.length).map (srcL m at_ p) := by
  unfold stF
  exact List.map_congr_left fun k _ => if_neg fun h => absurd h.1 (Nat.not_lt_zero k)
theorem stF_at (h : i = at_) : stF m at_ p (i + 1) = stF m at_ p i := by
  unfold stF
  refine List.map_congr_left fun k _ => ?_
  by_cases h1 : k < i ∧ k ≠ at_
  · rw [if_pos h1, if_pos ⟨by omega, h1.2⟩]
  · rw [if_neg h1, if_neg fun q => h1 ⟨by omega, q.2⟩]
theorem map_range_set {α : Type} (f : Nat → α) (i : Nat) (v : α) (n : Nat) : ((List.range n).map f).set i v = (List.range n).map fun k => if k = i then v else f k := by
  refine List.ext_getElem (by simp) fun j h1 h2 => ?_
  rw [List.getElem_set, List.getElem_map, List.getElem_map, List.getElem_range]
  by_cases h : i = j
  · rw [if_pos h, if_pos h.symm]
  · rw [if_neg h, if_neg (fun q => h q.symm)]
theorem stF_set (h : i ≠ at_) : (stF m at_ p i).set i (newRow m at_ p i) = stF m at_ p (i + 1) := by
  unfold stF
  rw [map_range_set]
  refine List.map_congr_left fun k _ => ?_
  by_cases e : k = i
  · subst e
    rw [if_pos rfl, if_pos ⟨by omega, h⟩]
  · rw [if_neg e]
    by_cases h1 : k < i ∧ k ≠ at_
    · rw [if_pos h1, if_pos ⟨by omega, h1.2⟩]
    · rw [if_neg h1, if_neg fun q => h1 ⟨by omega, q.2⟩]
theorem stF_done : (stF m at_ p m.length).set at_ (headL m at_ p) = clearedL m at_ p := by
  unfold stF clearedL
  rw [map_range_set]
  refine List.map_congr_left fun k hk => ?_
  have hk := List.mem_range.mp hk
  by_cases e : k = at_
  · rw [if_pos e, if_pos e]
  · rw [if_neg e, if_neg e, if_pos ⟨hk, e⟩]
end
theorem src_fit {n b : Nat} {m : Mx} {at_ p k : Nat} (g : Good n b m) (ha : at_ < m.length) (hk : k < m.length) (j : Nat) : fit b ((srcL m at_ p k).getD j 0) := by
  unfold srcL
  split
  · exact (g.bits at_ ha).fit j
  · exact (g.bits k hk).fit j
theorem src_len {n b : Nat} {m : Mx} {at_ p k : Nat} (g : Good n b m) (ha : at_ < m.length) (hk : k < m.length) : (srcL m at_ p k).length = n := by
  unfold srcL
  split
  · exact wd_get g.wd ha
  · exact wd_get g.wd hk
theorem head_fit {n b : Nat} {m : Mx} {at_ p : Nat} (g : Good n b m) (hp : Piv m at_ p) (j : Nat) : fit b ((headL m at_ p).getD j 0) := (row_head (g.bits p hp.2.1) hp.2.2.1).fit j
theorem out_so {die : List Int} {ws : List (List Nat)} {row : List Nat} (ok : okRace die ws) : SoOk (linesQ die ws row) (ws.length + 2) := ⟨by rw [lines_len], by rw [lines_len]; have := ok.four; omega, lines_ns ok, lines_good ok⟩
theorem so_step {m : Mx} {n i : Nat} (h : SoOk m n) (hi : i < m.length) : ClOk (runM m i) i n (bAt i) ∧ (runM m i).length = m.length := by
  have S := run_ok h.hn h.ns h.good i (by omega)
  have P := (step_ok h.hn h.ns S hi).1
  have h5 := h.five
  exact ⟨⟨by rw [S.len]; exact hi, P, S.good, bAt_le i (by omega), by rw [S.len]; exact h5, by rw [S.len]; exact h.hn⟩, S.len⟩
theorem so_end {m : Mx} {n : Nat} (h : SoOk m n) : (runM m m.length).length = m.length ∧ ∀ r ∈ runM m m.length, r.length = n := by
  have S := run_ok h.hn h.ns h.good m.length (Nat.le_refl _)
  exact ⟨S.len, S.good.wd⟩
end Vs

/-! The laws over shares and means: what they build, what they ask. -/
namespace Vs
open PySem PySem.Spec L2
/-! ### a list of one's own: copied, walked -/
section
variable {X : Cx} {W : WX} {N : List Str} {sc : Scope} {k : Nat} {ds ds' : Sls} {d : D} {xs : List D} {e c : Expr} {pos p p2 : Pos} {x y : Str} {m n : Nat} {st : Stmt} {rest body els : List Stmt} {t : Bool}
theorem evn_listO (A : Wh X N sc k) (m : Nat) (hi : N[m]? = some x) (hv : Vis sc x) (h : ds[m]? = some (.ow xs)) (hg : GlS sc "list") (hm : X.mg "list" = none) (hd : (x == ("__debug__" : Str)) = false := by decide) (hcd : (x == ("__classdict__" : Str)) = false := by decide) (he : starEach (.Name x p2 :: []) X.env = (false, eval (.Name x p2) X.env) :: starEach [] X.env := by rfl) : EvN X (.Call (.Name "list" p) [.Name x p2] [] pos) ds xs := fun F0 H0 F H σ r Q q => by
  obtain ⟨a, vs, e1, e2, e3, e4, e5⟩ := r.at_ m _ h
  refine toE (pe_callTy call_list_of (A.gl hg) hm (by decide +kernel) (pa_cons (pe_var (i := m) (by rw [A.hN]; exact hi) (by rw [A.hsc]; exact hv) hd hcd) pa_nil he) (by decide) (by decide) he (by rfl)) ⟨_, e1, ?_⟩
  exact ⟨a, vs, rfl, .inl (SqL.of e4), fun l hl => q l vs F _ (.newO r.fh hl) hl (r.fh.free hl) upd_same e5⟩
/-- .. and slot m keeps its value -/
def RunK (X : Cx) (m : Nat) (st : Stmt) (ds ds' : Sls) : Prop := ∀ (F0 H0 F H : Hp) (σ : St) (E : Ends), StR X.K F0 H0 F H σ ds → (∀ σ' F' H', StR X.K F0 H0 F' H' σ' ds' → Same F F' → σ'[m]? = σ[m]? → E.nx σ' H') → wpS X st E σ H
def RunBK (X : Cx) (m : Nat) (st : List Stmt) (ds ds' : Sls) : Prop := ∀ (F0 H0 F H : Hp) (σ : St) (E : Ends), StR X.K F0 H0 F H σ ds → (∀ σ' F' H', StR X.K F0 H0 F' H' σ' ds' → Same F F' → σ'[m]? = σ[m]? → E.nx σ' H') → wpB X st E σ H
theorem runBK_one (h : RunK X m st ds ds') : RunBK X m [st] ds ds' := fun F0 H0 F H σ E s q => toB (pss_one wpS_ps) (h F0 H0 F H σ E s q)
theorem runBK_nil : RunBK X m [] ds ds := fun F0 H0 F H σ E s q => toB pss_nil (q σ F H s (Same.refl _) rfl)
theorem runBK_cons {d2 : Sls} (h1 : RunK X m st ds d2) (h2 : RunBK X m rest d2 ds') : RunBK X m (st :: rest) ds ds' := fun F0 H0 F H σ E s q =>
  toB (pss_cons wpS_ps wpB_pss) (h1 F0 H0 F H σ _ s fun σ1 F1 H1 s1 sf e1 => h2 F0 H0 F1 H1 σ1 E s1 fun σ2 F2 H2 s2 sf2 e2 => q σ2 F2 H2 s2 (sf.trans sf2) (e2.trans e1))
theorem runK_ifF (hc : EvT X c ds t) (ht : t = false) (h : RunBK X m els ds ds') : RunK X m (.If c body els pos) ds ds' := fun F0 H0 F H σ E s q =>
  toS (ps_if wpT_pt wpB_pss wpB_pss) (hc F0 H0 F H σ s _ fun F' H' x => by
    rw [if_neg (by rw [ht]; decide)]
    exact h F0 H0 F' H' σ E (s.to x) fun σ2 F2 H2 s2 sf e2 => q σ2 F2 H2 s2 (x.f.trans sf) e2)
theorem runK_set (A : WhS X N sc k) (n : Nat) (hi : N[n]? = some x) (hx : L2.Loc sc x) (h : EvE X e ds d) (hne : n ≠ m) (hs : swapsWith e (some (.Name x p)) pos.line X.env = pure false := by rfl) : RunK X m (.Assign [.Name x p] e pos) ds (ds.set n (.va d)) := fun F0 H0 F H σ E s q =>
  toS (ps_set (i := n) (by rw [A.hN]; exact A.nd) (by rw [A.hN]; exact hi) (by rw [A.hsc]; exact hx) wpE_pe hs (.inl (A.fn x))) (h F0 H0 F H σ s _ fun v F' H' x r => q _ F' H' ((s.to x).set r) x.f (List.getElem?_set_ne hne))
theorem RunBK.clrO (j : Nat) {ds1 : Sls} (h : RunBK X m body ds ds1) : RunBK X m body ds (ds1.set j .no) := fun F0 H0 F H σ E s q =>
  h F0 H0 F H σ E s fun σ' F' H' s' sf e => q σ' F' H' (s'.forget (paired_len (fg_set ds1 j)) fun i t e => fg_get (fg_set ds1 j) e) sf e
/-- turn by turn -/
inductive ForK (X : Cx) (m n : Nat) (body : List Stmt) (own : Sl) : List D → Sls → Sls → Prop where
  | nil {ds : Sls} : ForK X m n body own [] ds ds
  | nx {d : D} {xs : List D} {ds d2 ds' : Sls} : d2[m]? = some own → RunBK X m body (ds.set n (.va d)) d2 → ForK X m n body own xs d2 ds' → ForK X m n body own (d :: xs) ds ds'
theorem run_forO (A : WhS X N sc k) (n : Nat) (hi : N[n]? = some x) (hx : L2.Loc sc x) (m : Nat) (hj : N[m]? = some y) (hv : Vis sc y) (hne : n ≠ m) (h0 : ds[m]? = some (.ow xs)) (h : ForK X m n body (.ow xs) xs ds ds') (hd : (y == ("__debug__" : Str)) = false := by decide) (hcd : (y == ("__classdict__" : Str)) = false := by decide) (hs : ∀ z, foldedSetIterable (.Name y p2) X.env z = pure z := by intro _; rfl) : Run X W (.For (.Name x p) (.Name y p2) body [] pos) ds (.nx ds') := fun F0 H0 F H σ E s q => by
  refine toS (ps_for A.hp A.calm (pi_list (pe_var (i := m) (by rw [A.hN]; exact hj) (by rw [A.hsc]; exact hv) hd hcd)) (pg_name (i := n) (by rw [A.hN]; exact A.nd) (by rw [A.hN]; exact hi) (by rw [A.hsc]; exact hx) (.inl (A.fn x))) wpB_pss hs) ?_
  obtain ⟨a, vs, e1, _, _, e4, e5⟩ := s.at_ m _ h0
  refine ⟨_, e1, a, rfl, ⟨vs, SqL.of e4⟩, ?_⟩
  let Pv : Nat → St → Hp → Prop := fun i σ2 H2 => ∃ F2 d2, Same F F2 ∧ StR X.K F0 H0 F2 H2 σ2 d2 ∧ d2[m]? = some (.ow xs) ∧ σ2[m]? = some (some (.ref a)) ∧ ForK X m n body (.ow xs) (xs.drop i) d2 ds'
  refine ⟨fun i k σ H => k = xs.length - i ∧ i ≤ xs.length ∧ Pv i σ H, ⟨xs.length, by simp, Nat.zero_le _, F, ds, Same.refl _, s, h0, e1, h⟩, ?_⟩
  rintro i k σ2 H2 ⟨rfl, hi', F2, d2, sF, s2, h2, e2, r⟩
  obtain ⟨a2, vs2, z1, _, _, z4, z5⟩ := s2.at_ m _ h2
  rw [e2] at z1
  cases z1
  have hsq : SqL X.K H2 a vs2 := SqL.of z4
  have ln := dpAll_len z5
  by_cases hlt : i < xs.length
  · have hlv : i < vs2.length := by omega
    refine .inr ⟨⟨vs2, vs2[i], hsq, List.getElem?_eq_getElem hlv⟩, Pv (i + 1), fun σ' H' p2 => ⟨xs.length - (i + 1), by omega, rfl, hlt, p2⟩, fun v H3 yy => ?_⟩
    obtain ⟨w1, w2⟩ := yy
    subst w1
    have ev := w2 vs2 hsq
    obtain ⟨v', ev', dv⟩ := dpAll_get z5 (List.getElem?_eq_getElem hlt)
    rw [ev] at ev'
    cases ev'
    have s3 := s2.set (i := n) (rp_of dv)
    rw [List.drop_eq_getElem_cons hlt] at r
    show wpB X body _ (σ2.set n (some v)) H3
    cases r with
    | nx r0 r1 r2 =>
      refine r1 F0 H0 F2 H3 _ _ s3 fun σ' F' H' s' sf eσ => ⟨F', _, sF.trans sf, s', r0, ?_, r2⟩
      rw [eσ, List.getElem?_set_ne hne]
      exact e2
  · have e : i = xs.length := by omega
    subst e
    rw [List.drop_length] at r
    cases r with
    | nil => exact .inl ⟨⟨vs2, hsq, by omega⟩, q σ2 F2 H2 s2 sF⟩
end
/-! ### open rows -/
theorem firstEnd_iff {ws : List (List Nat)} (h1 : ∀ w ∈ ws, 1 ≤ w.length) {t : List Nat} : firstEnd ws t = none ↔ ∀ w ∈ ws, ¬ w <:+: t := by
  have step : ∀ m, firstStep ws t m = none ↔ ∀ w ∈ ws, ¬ w <:+ t.take (m + 1) := fun m => by
    unfold firstStep endAt
    rw [Option.map_eq_none_iff, List.find?_eq_none, cut1]
    constructor
    · intro h w hw hs
      obtain ⟨k, hk, e⟩ := List.mem_iff_getElem.mp hw
      refine h k (List.mem_range.mpr hk) ?_
      unfold endT
      rw [getD_lt hk, e, decide_eq_true hs]
    · intro h k hk q
      unfold endT at q
      exact h _ (getD_mem (List.mem_range.mp hk)) (of_decide_eq_true q)
  unfold firstEnd
  rw [show ((t.length : Int) + 1 - 1).toNat = t.length by omega, fs_none]
  constructor
  · rintro h w hw ⟨a, b, e⟩
    have lw := h1 w hw
    have le := congrArg List.length e
    rw [List.length_append, List.length_append] at le
    refine (step (a.length + w.length - 1)).mp (h _ (by omega)) w hw ?_
    have : t.take (a.length + w.length - 1 + 1) = a ++ w := by
      rw [show a.length + w.length - 1 + 1 = (a ++ w).length by rw [List.length_append]; omega, ← e, List.take_left]
    rw [this]
    exact List.suffix_append _ _
  · intro h m _
    rw [step]
    exact fun w hw hs => h w hw (hs.isInfix.trans (List.take_prefix _ _).isInfix)
def opT (ws : List (List Nat)) (row : List Nat) (m : Nat) : Bool := (ws.map fun w => decide (w <:+ cutL row none (some (m : Int)))).any fun t => t
def openL (ws : List (List Nat)) (row : List Nat) : List Nat := match (List.range ((row.length : Int) + 1).toNat).find? (opT ws row) with
  | some m => cutL row none (some ((m : Int) - 1))
  | none => row
abbrev S__law_open (ds : List D) (r : Out) : Prop := ∃ (ws : List (List Nat)) (row : List Nat), ds = [txts ws, sD row] ∧ ws.length ≤ 1000 ∧ row.length ≤ 1000 ∧ r = .rt (sD (openL ws row))
theorem S__law_open_len {ds : List D} {r : Out} (h : S__law_open ds r) : ds.length = 2 := by obtain ⟨_, _, rfl, _⟩ := h; rfl
theorem opT_iff {ws : List (List Nat)} {row : List Nat} {m : Nat} : opT ws row m = true ↔ ∃ w ∈ ws, w <:+ row.take m := by
  unfold opT
  rw [cutL_to, List.any_eq_true]
  constructor
  · rintro ⟨b, hb, rfl⟩
    obtain ⟨w, hw, e⟩ := List.mem_map.mp hb
    exact ⟨w, hw, of_decide_eq_true e⟩
  · rintro ⟨w, hw, h⟩
    exact ⟨true, List.mem_map.mpr ⟨w, hw, decide_eq_true h⟩, rfl⟩
theorem open_ok {die : List Int} {ws : List (List Nat)} (ok : okRace die ws) {row : List Nat} (hr : okRow die.length row) : okRow die.length (openL ws row) ∧ firstEnd ws (openL ws row) = none := by
  have h1 := ok.one
  have key : ∀ n, (∀ m, m ≤ n → opT ws row m = false) → ∀ w ∈ ws, ¬ w <:+: row.take n := fun n h w hw ⟨a, b, e⟩ => by
    have le := congrArg List.length e
    rw [List.length_append, List.length_append, List.length_take] at le
    have q := h (a.length + w.length) (by omega)
    have : row.take (a.length + w.length) = a ++ w := by
      have e2 : (row.take n).take (a.length + w.length) = a ++ w := by rw [← e, show a.length + w.length = (a ++ w).length by rw [List.length_append], List.take_left]
      rw [List.take_take, show min (a.length + w.length) n = a.length + w.length by omega] at e2
      exact e2
    have t := opT_iff.mpr ⟨w, hw, by rw [this]; exact List.suffix_append _ _⟩
    rw [t] at q; cases q
  unfold openL
  cases hf : (List.range ((row.length : Int) + 1).toNat).find? (opT ws row) with
  | none =>
    refine ⟨hr, (firstEnd_iff h1).mpr ?_⟩
    have := key row.length fun m hm => by
      have := List.find?_eq_none.mp hf m (List.mem_range.mpr (by omega))
      exact Bool.eq_false_iff.mpr this
    rw [List.take_length] at this
    exact this
  | some m =>
    rw [List.find?_range_eq_some] at hf
    obtain ⟨f1, f2, f3⟩ := hf
    have m1 : 1 ≤ m := by
      obtain ⟨w, hw, hs⟩ := opT_iff.mp f1
      have := hs.length_le
      rw [List.length_take] at this
      have := h1 w hw
      omega
    have e : (m : Int) - 1 = ((m - 1 : Nat) : Int) := by omega
    show okRow die.length (cutL row none (some ((m : Int) - 1))) ∧ firstEnd ws (cutL row none (some ((m : Int) - 1))) = none
    rw [e, cutL_to]
    refine ⟨⟨by rw [List.length_take]; have := hr.1; omega, hr.2.sub fun c h => List.mem_of_mem_take h⟩, (firstEnd_iff h1).mpr (key (m - 1) fun j hj => ?_)⟩
    have := f3 j (by omega)
    rw [Bool.not_eq_true'] at this
    exact this
theorem open_len (ws : List (List Nat)) (row : List Nat) : (openL ws row).length ≤ row.length := by
  unfold openL
  split
  · exact cutL_len _ _ _
  · exact Nat.le_refl _
theorem state_opOk {die : List Int} {ws : List (List Nat)} {row : List Nat} (h : opOk die ws row) : opOk die ws (stateL ws row) := by
  obtain ⟨ok, hr, hf⟩ := h
  have h1 := ok.one
  have hs := (state_spec ws row).2.1
  refine ⟨ok, ⟨Nat.le_trans hs.length_le hr.1, hr.2.sub fun c h => hs.subset h⟩, (firstEnd_iff h1).mpr fun w hw q => ?_⟩
  exact (firstEnd_iff h1).mp hf w hw (q.trans hs.isInfix)
/-! ### what the race tells -/
theorem outs_state {die : List Int} {ws : List (List Nat)} {row : List Nat} (h : opOk die ws row) : outQ die ws (stateL ws row) = outQ die ws row := (out_state h.1 (opn_of_none h.1 h.2.2)).symm
theorem sh_len {die : List Int} {ws : List (List Nat)} {row : List Nat} (ok : okRace die ws) : (shQ die ws row).length = ws.length := by
  show (cutL _ none (some (-1))).length = _
  rw [cutL_last, List.length_dropLast, out_len ok, Nat.add_sub_cancel]
theorem sh_get {die : List Int} {ws : List (List Nat)} {row : List Nat} (ok : okRace die ws) {j : Nat} (hj : j < ws.length) : (shQ die ws row).getD j 0 = (outQ die ws row).getD j 0 := by
  show (cutL _ none (some (-1))).getD j 0 = _
  rw [cutL_last, List.dropLast_eq_take, List.getD_eq_getElem?_getD, List.getD_eq_getElem?_getD, List.getElem?_take_of_lt (by rw [out_len ok]; omega)]
theorem me_get {die : List Int} {ws : List (List Nat)} {row : List Nat} (ok : okRace die ws) : meQ die ws row = (outQ die ws row).getD ws.length 0 := by
  show (outQ die ws row).getLastD 0 = _
  rw [List.getLastD_eq_getLast?, List.getLast?_eq_getElem?, out_len ok, Nat.add_sub_cancel, List.getD_eq_getElem?_getD]
theorem sh_mem_fit {die : List Int} {ws : List (List Nat)} {row : List Nat} (ok : okRace die ws) {x : Rat} (hx : x ∈ shQ die ws row) : fit 2600 x := by
  obtain ⟨j, hj, e⟩ := List.mem_iff_getElem.mp hx
  have hj' : j < ws.length := by rw [← sh_len (row := row) ok]; exact hj
  rw [← e, ← getD_lt (z := 0) hj, sh_get ok hj']
  exact out_fit ok j
theorem me_fit {die : List Int} {ws : List (List Nat)} {row : List Nat} (ok : okRace die ws) : fit 2600 (meQ die ws row) := by
  rw [me_get ok]
  exact out_fit ok _
theorem list_sum_sm (f : Rat → Rat) : ∀ l : List Rat, (l.map f).sum = sm l.length fun j => f (l.getD j 0) := fun l => by
  have e : l = (List.range l.length).map fun j => l.getD j 0 := by
    refine List.ext_getElem (by simp) fun j h1 h2 => ?_
    rw [List.getElem_map, List.getElem_range, getD_lt h1]
  conv => lhs; rw [e, List.map_map]
  exact lists_sm _ _
theorem sh_sum {die : List Int} {ws : List (List Nat)} {row : List Nat} (ok : okRace die ws) : (shQ die ws row).sum = 1 := by
  have := list_sum_sm (fun x => x) (shQ die ws row)
  rw [List.map_id'] at this
  rw [this, sh_len ok, ← out_sum (row := row) ok]
  exact sm_congr fun j hj => sh_get ok hj
/-! ### sums of fractions, as the laws reckon them -/
def sumStep (p q : Int × Int) : Int × Int := (p.1 * q.2 + q.1 * p.2, p.2 * q.2)
theorem sum_step {p q : Int × Int} (hp : 0 < p.2) (hq : 0 < q.2) : 0 < (sumStep p q).2 ∧ rP (sumStep p q) = rP p + rP q := by
  refine ⟨Int.mul_pos hp hq, ?_⟩
  unfold rP sumStep
  rw [Rat.divInt_add_divInt _ _ (by omega) (by omega)]
theorem sum_bt {p q : Int × Int} {n m : Nat} (h1 : bt n p.1) (h2 : bt n p.2) (h3 : bt m q.1) (h4 : bt m q.2) : bt (n + m + 1) (sumStep p q).1 ∧ bt (n + m + 1) (sumStep p q).2 := by
  refine ⟨bt_add (bt_mul h1 h4) ?_, (bt_mul h2 h4).mono (by omega)⟩
  have := bt_mul h3 h2
  rw [Nat.add_comm m n] at this
  exact this
theorem sum_fold : ∀ (l : List (Int × Int)) (p : Int × Int) (n m : Nat), 0 < p.2 → bt n p.1 → bt n p.2 → (∀ q ∈ l, 0 < q.2 ∧ bt m q.1 ∧ bt m q.2) → 0 < (l.foldl sumStep p).2 ∧ rP (l.foldl sumStep p) = rP p + (l.map rP).sum ∧ bt (n + (m + 1) * l.length) (l.foldl sumStep p).1 ∧ bt (n + (m + 1) * l.length) (l.foldl sumStep p).2
  | [], p, n, m, h1, h2, h3, _ => ⟨h1, by show rP p = rP p + 0; grind, h2, h3⟩
  | q :: l, p, n, m, h1, h2, h3, h => by
    obtain ⟨q1, q2, q3⟩ := h q List.mem_cons_self
    obtain ⟨s1, s2⟩ := sum_step h1 q1
    obtain ⟨t1, t2⟩ := sum_bt h2 h3 q2 q3
    obtain ⟨a, b, c, d⟩ := sum_fold l (sumStep p q) (n + m + 1) m s1 t1 t2 fun r hr => h r (List.mem_cons_of_mem _ hr)
    rw [List.foldl_cons, List.map_cons, List.sum_cons, List.length_cons]
    refine ⟨a, by rw [b, s2]; grind, ?_, ?_⟩
    · rw [show n + (m + 1) * (l.length + 1) = n + m + 1 + (m + 1) * l.length by rw [Nat.mul_add]; omega]; exact c
    · rw [show n + (m + 1) * (l.length + 1) = n + m + 1 + (m + 1) * l.length by rw [Nat.mul_add]; omega]; exact d
theorem rP_qP (x : Rat) : rP (qP x) = x := Rat.num_divInt_den x
theorem qP_pos (x : Rat) : 0 < (qP x).2 := by have := den_pos x; show 0 < (x.den : Int); omega
/-- the laws' sum of the shares comes to one -/
theorem sh_one {die : List Int} {ws : List (List Nat)} {row : List Nat} (ok : okRace die ws) : (((shQ die ws row).map qP).foldl sumStep (0, 1)).1 = (((shQ die ws row).map qP).foldl sumStep (0, 1)).2 := by
  obtain ⟨a, b, _, _⟩ := sum_fold ((shQ die ws row).map qP) (0, 1) 2601 2600 (by decide) (bt_zero _) (by show (1 : Int).natAbs < 2 ^ 2601; exact Nat.one_lt_two_pow (by decide)) fun q hq => by
    obtain ⟨x, hx, rfl⟩ := List.mem_map.mp hq
    have f := sh_mem_fit ok hx
    exact ⟨qP_pos x, f.num, f.den⟩
  generalize ((shQ die ws row).map qP).foldl sumStep (0, 1) = s at a b
  have e1 : ((shQ die ws row).map qP).map rP = shQ die ws row := by
    rw [List.map_map]
    conv => rhs; rw [← List.map_id (shQ die ws row)]
    exact List.map_congr_left fun x _ => rP_qP x
  rw [e1, sh_sum ok] at b
  obtain ⟨z1, z2⟩ := rP_div a
  have z0 : rP ((0, 1) : Int × Int) = 0 := rfl
  rw [z0, z1] at b
  have : (s.1 : Rat) = (s.2 : Rat) := by grind
  exact_mod_cast this
theorem okRace.two {die : List Int} {ws : List (List Nat)} (ok : okRace die ws) : okRace die (cutL ws none (some 2)) := ok.cut (by decide)
/-! ### the race of two words of one length -/
theorem two_ok {die : List Int} {a b : List Nat} (h : oddsOk die a b) : opOk die [a, b] [] := by
  obtain ⟨hd, ha, hb, hl, hne⟩ := h
  have ap : apart [a, b] := fun i j hi hj ne => by
    simp only [List.length_cons, List.length_nil] at hi hj
    have : (i = 0 ∧ j = 1) ∨ (i = 1 ∧ j = 0) := by omega
    rcases this with ⟨rfl, rfl⟩ | ⟨rfl, rfl⟩
    · exact fun q => hne (q.eq_of_length hl)
    · exact fun q => hne (q.eq_of_length hl.symm).symm
  have ok : okRace die [a, b] := ⟨hd, fun w hw => by
    rcases List.mem_cons.mp hw with rfl | hw
    · exact ha
    · rw [List.mem_singleton.mp hw]; exact hb, by simp, by simp, ap⟩
  refine ⟨ok, ⟨by decide, fun _ h => nomatch h⟩, (firstEnd_iff ok.one).mpr fun w hw q => ?_⟩
  have := ok.one w hw
  have := q.length_le
  rw [List.length_nil] at this
  omega
theorem eq_div {x n y : Rat} (n0 : n ≠ 0) (h : x * n = y) : x = y / n := by rw [← h, Rat.mul_div_cancel n0]
theorem two_alg {x0 x1 m aa ab ba bb : Rat} (e0 : aa * x0 + ab * x1 + -1 * m = 0) (e1 : ba * x0 + bb * x1 + -1 * m = 0) (e2 : 1 * x0 + 1 * x1 + 0 * m = 1) (pos : 0 < (bb - ab) + (aa - ba)) : x0 = (bb - ab) / ((bb - ab) + (aa - ba)) ∧ x1 = (aa - ba) / ((aa - ba) + (bb - ab)) := by
  have e3 : x1 = 1 - x0 := by grind
  have h0 : x0 * ((bb - ab) + (aa - ba)) = bb - ab := by rw [e3] at e0 e1; grind
  have h1 : x1 * ((aa - ba) + (bb - ab)) = aa - ba := by rw [e3]; grind
  have n0 : (bb - ab) + (aa - ba) ≠ 0 := by grind
  have n1 : (aa - ba) + (bb - ab) ≠ 0 := by grind
  refine ⟨?_, ?_⟩
  · exact eq_div n0 h0
  · exact eq_div n1 h1
theorem sm3 (f : Nat → Rat) : sm 3 f = f 0 + f 1 + f 2 := by
  show 0 + f 0 + f 1 + f 2 = _
  grind
theorem two_row0 (die : List Int) (a b : List Nat) (f : Nat → Rat) : (sm 3 fun k => cA die [a, b] 0 k * f k) = uF die a a * f 0 + uF die a b * f 1 + -1 * f 2 := sm3 _
theorem two_row1 (die : List Int) (a b : List Nat) (f : Nat → Rat) : (sm 3 fun k => cA die [a, b] 1 k * f k) = uF die b a * f 0 + uF die b b * f 1 + -1 * f 2 := sm3 _
theorem two_row2 (die : List Int) (a b : List Nat) (f : Nat → Rat) : (sm 3 fun k => cA die [a, b] 2 k * f k) = 1 * f 0 + 1 * f 1 + 0 * f 2 := sm3 _
theorem list_two {s : List Rat} {x y : Rat} (h : s.length = 2) (h0 : s.getD 0 0 = x) (h1 : s.getD 1 0 = y) : s = [x, y] := by
  match s, h with
  | [u, v], _ =>
    have h0 : u = x := h0
    have h1 : v = y := h1
    rw [h0, h1]
theorem odds_u (die : List Int) (a b : List Nat) : oddsQ die a b = (uF die b b - uF die a b) / ((uF die b b - uF die a b) + (uF die a a - uF die b a)) := by
  unfold oddsQ forQ
  rw [meet_u, meet_u, meet_u, meet_u]
theorem for_pos_u {die : List Int} {a b : List Nat} (h : oddsOk die a b) : 0 < (uF die b b - uF die a b) + (uF die a a - uF die b a) := by
  obtain ⟨hd, ha, hb, hl, hne⟩ := h
  have pos := for_pos hd ha hb hl hne
  unfold forQ at pos
  rw [meet_u, meet_u, meet_u, meet_u] at pos
  exact pos
theorem two_shares {die : List Int} {a b : List Nat} (h : oddsOk die a b) : shQ die [a, b] [] = [oddsQ die a b, oddsQ die b a] := by
  have op := two_ok h
  have ok := op.1
  have pos := for_pos_u h
  have opn' := opn_of_none ok op.2.2
  have e0 := out_eq ok (row := []) 0 (by simp)
  have e1 := out_eq ok (row := []) 1 (by simp)
  have e2 := out_eq ok (row := []) 2 (by simp)
  rw [rhs_open ok opn', if_pos (by simp), u_nil] at e0 e1
  rw [rhs_open ok opn', if_neg (by simp)] at e2
  have e0 := (two_row0 die a b _).symm.trans e0
  have e1 := (two_row1 die a b _).symm.trans e1
  have e2 := (two_row2 die a b _).symm.trans e2
  have len := sh_len (row := []) ok
  have g0 := sh_get (row := []) ok (j := 0) (by simp)
  have g1 := sh_get (row := []) ok (j := 1) (by simp)
  obtain ⟨t0, t1⟩ := two_alg e0 e1 e2 pos
  refine list_two len (g0.trans (t0.trans (odds_u die a b).symm)) (g1.trans (t1.trans (odds_u die b a).symm))
theorem odds_other {die : List Int} {a b : List Nat} (h : oddsOk die a b) : oddsQ die b a = 1 - oddsQ die a b := by
  obtain ⟨hd, ha, hb, hl, hne⟩ := h
  have pos := for_pos hd ha hb hl hne
  unfold oddsQ
  generalize forQ die a b = x at pos
  generalize forQ die b a = y at pos
  grind
abbrev S_odds (ds : List D) (r : Out) : Prop := ∃ (die : List Int) (a b : List Nat), ds = [nums die, sD a, sD b] ∧ oddsOk die a b ∧ r = .rt (qD (oddsQ die a b))
theorem S_odds_len {ds : List D} {r : Out} (h : S_odds ds r) : ds.length = 3 := by obtain ⟨_, _, _, rfl, _⟩ := h; rfl
end Vs

/-! Two words of one length, as the law makes them. -/
namespace Vs
open PySem PySem.Spec L2
theorem one_less {a b : Int} (hb : 0 < b) : Rat.divInt (b - a) b = 1 - rP (a, b) := by
  obtain ⟨p1, p2⟩ := rP_div (p := (b - a, b)) hb
  obtain ⟨q1, q2⟩ := rP_div (p := (a, b)) hb
  have e : rP (b - a, b) = Rat.divInt (b - a) b := rfl
  rw [← e, p1, q1]
  show ((b - a : Int) : Rat) / (b : Rat) = 1 - (a : Rat) / (b : Rat)
  have p2 : (0 : Rat) < (b : Rat) := p2
  rw [Rat.intCast_sub]
  grind
/-- a, or b: another sign than the first one -/
def swapL (a : List Nat) : List Nat := [([97, 98] : List Nat).getD (if decide ([a.getD (0 : Int).toNat 0] = [97]) = true then (1 : Int) else 0).toNat 0] ++ cutL a (some 1) none
theorem swap_ok {die : List Int} (hd : okDie die) {a : List Nat} (ha : okWord die.length a) : oddsOk die a (swapL a) := by
  obtain ⟨h1, h6, ht⟩ := ha
  have e : swapL a = (if a.getD 0 0 = 97 then 98 else 97) :: a.drop 1 := by
    unfold swapL
    rw [show (some (1 : Int)) = some ((1 : Nat) : Int) from rfl, cutL_from]
    by_cases h : a.getD 0 0 = 97
    · rw [if_pos (by rw [show ((0 : Int).toNat) = 0 from rfl, h]; rfl), if_pos h]; rfl
    · rw [if_neg (by rw [show ((0 : Int).toNat) = 0 from rfl]; intro q; exact h (List.cons.inj (of_decide_eq_true q)).1), if_neg h]; rfl
  have e2 : a = a.getD 0 0 :: a.drop 1 := by
    match a, h1 with
    | c :: t, _ => rfl
  have in2 : ∀ c, c = 97 ∨ c = 98 → c ∈ sgn die.length := fun c hc => by
    have : die.length = 2 ∨ die.length = 3 ∨ die.length = 4 := by have := hd.1; have := hd.2.1; omega
    rcases this with q | q | q <;> rw [q] <;> rcases hc with rfl | rfl <;> decide
  have hl : a.length = (swapL a).length := by rw [e, List.length_cons, List.length_drop]; omega
  refine ⟨hd, ⟨h1, h6, ht⟩, ⟨by omega, by omega, ?_⟩, hl, ?_⟩
  · rw [e]
    intro c hc
    rcases List.mem_cons.mp hc with rfl | hc
    · refine in2 _ ?_
      split
      · exact .inr rfl
      · exact .inl rfl
    · exact ht c (List.mem_of_mem_drop hc)
  · intro q
    rw [e] at q
    rw [e2] at q
    have := (List.cons.inj q).1
    simp only [List.getD_cons_zero] at this
    split at this <;> omega
theorem swap_ix (a : List Nat) : (0 : Int) ≤ (if decide ([a.getD (0 : Int).toNat 0] = [97]) = true then (1 : Int) else 0) ∧ (if decide ([a.getD (0 : Int).toNat 0] = [97]) = true then (1 : Int) else 0) < (([97, 98] : List Nat).length : Int) := by
  split <;> exact ⟨by decide, by decide⟩
def frontL (c : Int) (n : Nat) (a : List Nat) : List Nat := cutL ([abcd.getD (c / 3 % (n : Int)).toNat 0] ++ a) none (some (a.length : Int))
theorem put_ok {n : Nat} (h1 : 1 ≤ n) (h4 : n ≤ 4) {a : List Nat} (ha : okWord n a) (c : Int) : okWord n (frontL c n a) ∧ a.length = (frontL c n a).length := by
  obtain ⟨h1', h6, ht⟩ := ha
  have b0 : 0 ≤ c / 3 % (n : Int) := Int.emod_nonneg _ (by omega)
  have b1 : c / 3 % (n : Int) < n := Int.emod_lt_of_pos _ (by omega)
  have hl : a.length = (frontL c n a).length := by
    unfold frontL
    rw [cutL_to, List.length_take, List.length_append, List.length_singleton]; omega
  refine ⟨⟨by omega, by omega, fun x hx => ?_⟩, hl⟩
  have hx := cutL_sub hx
  rcases List.mem_append.mp hx with h | h
  · rw [List.mem_singleton.mp h]
    exact abcd_sgn (by omega) h4
  · exact ht x h
end Vs

/-! A race as a text. -/
namespace Vs
open PySem PySem.Spec L2
theorem joinT_eq (l : List Nat) (ls : List (List Nat)) : joinT l ls = TL.joinL l ls := by
  unfold joinT
  have e := congrArg TL.tl (TL.join_eq (S l) (ls.map S))
  refine (show _ = TL.tl (Str.join (S l) (ls.map S)) from e).trans ?_
  rw [TL.tl_join, List.map_map]
  have : (TL.tl ∘ S) = fun t : List Nat => t := rfl
  rw [this, List.map_id']
theorem joinL_len (l : List Nat) : ∀ ls : List (List Nat), (TL.joinL l ls).length ≤ (ls.map (·.length)).sum + ls.length * l.length
  | [] => Nat.zero_le _
  | [a] => by show a.length ≤ (a.length + 0) + 1 * l.length; omega
  | a :: b :: r => by
    have ih := joinL_len l (b :: r)
    show (a ++ (l ++ TL.joinL l (b :: r))).length ≤ _
    rw [List.length_append, List.length_append, List.map_cons, List.sum_cons, List.length_cons, Nat.add_mul]
    omega
theorem sum_lens {n : Nat} : ∀ {ls : List (List Nat)}, (∀ w ∈ ls, w.length ≤ n) → (ls.map (·.length)).sum ≤ n * ls.length
  | [], _ => Nat.zero_le _
  | a :: r, h => by
    have := sum_lens fun w hw => h w (List.mem_cons_of_mem a hw)
    have := h a List.mem_cons_self
    rw [List.map_cons, List.sum_cons, List.length_cons, Nat.mul_add]
    omega
def figL (w : Int) : List Nat := [(48 + w).toNat]
theorem digit {w : Int} (h : 1 ≤ w ∧ w ≤ 9) : PyData.str (toString w) = sD (figL w) := by
  have : w = 1 ∨ w = 2 ∨ w = 3 ∨ w = 4 ∨ w = 5 ∨ w = 6 ∨ w = 7 ∨ w = 8 ∨ w = 9 := by omega
  rcases this with rfl | rfl | rfl | rfl | rfl | rfl | rfl | rfl | rfl <;> rfl
theorem small_log {w : Int} (h : 1 ≤ w ∧ w ≤ 9) : w.natAbs.log2 < 1920 := by
  have : w = 1 ∨ w = 2 ∨ w = 3 ∨ w = 4 ∨ w = 5 ∨ w = 6 ∨ w = 7 ∨ w = 8 ∨ w = 9 := by omega
  rcases this with rfl | rfl | rfl | rfl | rfl | rfl | rfl | rfl | rfl <;> decide
def shownL (die : List Int) (ws : List (List Nat)) : List Nat := TL.joinL [32] (die.map figL) ++ [58, 32] ++ TL.joinL [32] ws
abbrev S_shown (ds : List D) (r : Out) : Prop := ∃ (die : List Int) (ws : List (List Nat)), ds = [nums die, txts ws] ∧ okRace die ws ∧ r = .rt (sD (shownL die ws))
theorem S_shown_len {ds : List D} {r : Out} (h : S_shown ds r) : ds.length = 2 := by obtain ⟨_, _, rfl, _⟩ := h; rfl
theorem fig_len (die : List Int) : ∀ w ∈ die.map figL, w.length ≤ 1 := fun w h => by
  obtain ⟨_, _, rfl⟩ := List.mem_map.mp h
  exact Nat.le_refl _
theorem shw_sz {die : List Int} {ws : List (List Nat)} (d4 : die.length ≤ 4) (w4 : ws.length ≤ 4) (w6 : ∀ w ∈ ws, w.length ≤ 6) :
    ((die.map figL).map (·.length)).sum + (die.map figL).length * ([32] : List Nat).length ≤ 16777216 ∧ (ws.map (·.length)).sum + ws.length * ([32] : List Nat).length ≤ 16777216 ∧ (joinT [32] (die.map figL)).length ≤ 8 ∧ (joinT [32] ws).length ≤ 28 := by
  have z1 := sum_lens (fig_len die)
  have z2 := sum_lens w6
  have z3 := joinL_len [32] (die.map figL)
  have z4 := joinL_len [32] ws
  rw [joinT_eq, joinT_eq]
  rw [List.length_map] at z1 z3 ⊢
  have e1 : ([32] : List Nat).length = 1 := rfl
  rw [e1] at z3 z4 ⊢
  omega
theorem shw_2 {l : List Nat} (h : l.length ≤ 8) : l.length + ([58, 32] : List Nat).length ≤ sizeLine := by
  show l.length + 2 ≤ sizeLine
  rw [sizeLine_eq]; omega
theorem shw_3 {l m : List Nat} (h : l.length ≤ 8) (k : m.length ≤ 28) : (l ++ [58, 32]).length + m.length ≤ sizeLine := by
  rw [List.length_append]
  show l.length + 2 + m.length ≤ sizeLine
  rw [sizeLine_eq]; omega
end Vs

/-! The program's errors, and what the laws' own def says of them. -/
namespace Vs
open PySem PySem.Spec L2
/-- where the classes stand -/
structure Errs where
  base : Addr
  die : Addr
  word : Addr
  race : Addr
  row : Addr
  over : Addr
  many : Addr
  note : Addr
structure Clss (K : PySem.W.Frag) (mg : Str → Option Value) (E : Errs) : Prop where
  base : mg "RaceError" = some (.ref E.base)
  die : ErrC K mg "NoDie" E.die
  word : ErrC K mg "NoWord" E.word
  race : ErrC K mg "NoRace" E.race
  row : ErrC K mg "NoRow" E.row
  over : ErrC K mg "Over" E.over
  many : ErrC K mg "TooMany" E.many
  note : ErrC K mg "NoNote" E.note
  value : mg "ValueError" = none
/-- what isinstance says of an error of class D, the j-th one -/
structure KindC (K : PySem.W.Frag) (E : Errs) (D : Addr) (j : Nat) : Prop where
  xc : ExcC K D
  k0 : PySem.W.kitOne K (.ref D) (.ref E.die) = some (j == 0)
  k1 : PySem.W.kitOne K (.ref D) (.ref E.word) = some (j == 1)
  k2 : PySem.W.kitOne K (.ref D) (.ref E.race) = some (j == 2)
  k3 : PySem.W.kitOne K (.ref D) (.ref E.row) = some (j == 3)
  k4 : PySem.W.kitOne K (.ref D) (.ref E.over) = some (j == 4)
  k5 : PySem.W.kitOne K (.ref D) (.ref E.many) = some (j == 5)
  k6 : PySem.W.kitOne K (.ref D) (.ref E.note) = some (j == 6)
  kv : PySem.W.kitOne K (.ref D) (.type "ValueError") = some true
  ex : PySem.W.exmOne K (.ref D) (.ref E.base) = some true
  lt : j < 7
abbrev kinds7 : List (List Nat) := [[100, 105, 101], [119, 111, 114, 100], [114, 97, 99, 101], [114, 111, 119], [111, 118, 101, 114], [109, 97, 110, 121], [110, 111, 116, 101]]
def kindN (j : Nat) : List Nat := kinds7.getD j []
def bits7 (j : Nat) : List Bool := [j == 0, j == 1, j == 2, j == 3] ++ [j == 4, j == 5, j == 6]
theorem bits7_ok {j : Nat} (h : j < 7) : (bits7 j).count true = 1 ∧ true ∈ bits7 j ∧ (bits7 j).idxOf true = j := by
  have : j = 0 ∨ j = 1 ∨ j = 2 ∨ j = 3 ∨ j = 4 ∨ j = 5 ∨ j = 6 := by omega
  rcases this with rfl | rfl | rfl | rfl | rfl | rfl | rfl <;> decide
theorem thrownB_iff {n : Nat} {t : List Nat} : thrownB n t = true ↔ okText n t := by
  constructor
  · intro h c hc
    unfold thrownB at h
    have q := of_decide_eq_true (List.all_eq_true.mp h c hc)
    rw [cutL_to] at q
    exact q.subset (List.mem_singleton.mpr rfl)
  · exact thrownB_ok
/-! ### what is refused -/
/-- why a race is refused -/
inductive RaceX (E : Errs) (die : List Int) (ws : List (List Nat)) : Addr → Prop where
  | die : ¬ okDie die → RaceX E die ws E.die
  | word : okDie die → (∃ w ∈ ws, ¬ okWord die.length w) → RaceX E die ws E.word
  | race : okDie die → (∀ w ∈ ws, okWord die.length w) → ¬ (1 ≤ ws.length ∧ ws.length ≤ 4 ∧ apart ws) → RaceX E die ws E.race
/-- sizes that are never met -/
def szW (ws : List (List Nat)) : Prop := ws.length ≤ 100 ∧ ∀ w ∈ ws, w.length ≤ 100
abbrev XX_ask_die (E : Errs) (ds : List D) (r : Out) : Prop := ∃ die : List Int, ds = [nums die] ∧ ¬ okDie die ∧ r = .ex (.ref E.die)
abbrev XX_ask_word (E : Errs) (ds : List D) (r : Out) : Prop := ∃ (die : List Int) (t : List Nat), ds = [nums die, sD t] ∧ t.length ≤ 100 ∧ ¬ okWord die.length t ∧ r = .ex (.ref E.word)
abbrev XX_ask_row (E : Errs) (ds : List D) (r : Out) : Prop := ∃ (die : List Int) (t : List Nat), ds = [nums die, sD t] ∧ t.length ≤ 1000 ∧ ¬ okRow die.length t ∧ r = .ex (.ref E.row)
abbrev XX_ask_race (E : Errs) (ds : List D) (r : Out) : Prop := ∃ (die : List Int) (ws : List (List Nat)) (c : Addr), ds = [nums die, txts ws] ∧ szW ws ∧ RaceX E die ws c ∧ r = .ex (.ref c)
abbrev XX_overlaps (E : Errs) (ds : List D) (r : Out) : Prop := ∃ (die : List Int) (a b : List Nat) (c : Addr), ds = [nums die, sD a, sD b] ∧ a.length ≤ 100 ∧ b.length ≤ 100 ∧ ((¬ okDie die ∧ c = E.die) ∨ (okDie die ∧ (¬ okWord die.length a ∨ ¬ okWord die.length b) ∧ c = E.word)) ∧ r = .ex (.ref c)
abbrev XX_beginnings (E : Errs) (ds : List D) (r : Out) : Prop := XX_ask_race E ds r
abbrev XX_shown (E : Errs) (ds : List D) (r : Out) : Prop := XX_ask_race E ds r
/-- why a row is refused -/
def RowX (E : Errs) (die : List Int) (ws : List (List Nat)) (t : List Nat) (c : Addr) : Prop := RaceX E die ws c ∨ (okRace die ws ∧ ¬ okRow die.length t ∧ c = E.row)
def OverX (E : Errs) (die : List Int) (ws : List (List Nat)) (t : List Nat) (c : Addr) : Prop := RowX E die ws t c ∨ (okRace die ws ∧ okRow die.length t ∧ firstEnd ws t ≠ none ∧ c = E.over)
def ManyX (E : Errs) (die : List Int) (ws : List (List Nat)) (m : Int) (c : Addr) : Prop := RaceX E die ws c ∨ (okRace die ws ∧ ¬ (0 ≤ m ∧ m ≤ 60) ∧ c = E.row)
abbrev XX_state_of (E : Errs) (ds : List D) (r : Out) : Prop := ∃ (die : List Int) (ws : List (List Nat)) (t : List Nat) (c : Addr), ds = [nums die, txts ws, sD t] ∧ szW ws ∧ t.length ≤ 1000 ∧ RowX E die ws t c ∧ r = .ex (.ref c)
abbrev XX_ended (E : Errs) (ds : List D) (r : Out) : Prop := XX_state_of E ds r
abbrev XX_outcome (E : Errs) (ds : List D) (r : Out) : Prop := ∃ (die : List Int) (ws : List (List Nat)) (t : List Nat) (c : Addr), ds = [nums die, txts ws, sD t] ∧ szW ws ∧ t.length ≤ 1000 ∧ OverX E die ws t c ∧ r = .ex (.ref c)
abbrev XX_shares (E : Errs) (ds : List D) (r : Out) : Prop := XX_outcome E ds r
abbrev XX_mean (E : Errs) (ds : List D) (r : Out) : Prop := XX_outcome E ds r
abbrev XX_counted (E : Errs) (ds : List D) (r : Out) : Prop := ∃ (die : List Int) (ws : List (List Nat)) (m : Int) (c : Addr), ds = [nums die, txts ws, iD m] ∧ szW ws ∧ ManyX E die ws m c ∧ r = .ex (.ref c)
abbrev XX_open_rows (E : Errs) (ds : List D) (r : Out) : Prop := XX_counted E ds r
abbrev XX_ended_rows (E : Errs) (ds : List D) (r : Out) : Prop := XX_counted E ds r
abbrev XX_waiting (E : Errs) (ds : List D) (r : Out) : Prop := ∃ (die : List Int) (a : List Nat) (c : Addr), ds = [nums die, sD a] ∧ a.length ≤ 100 ∧ ((¬ okDie die ∧ c = E.die) ∨ (okDie die ∧ ¬ okWord die.length a ∧ c = E.word)) ∧ r = .ex (.ref c)
abbrev XX_odds (E : Errs) (ds : List D) (r : Out) : Prop := ∃ (die : List Int) (a b : List Nat) (c : Addr), ds = [nums die, sD a, sD b] ∧ a.length ≤ 100 ∧ b.length ≤ 100 ∧ ((¬ okDie die ∧ c = E.die) ∨ (okDie die ∧ (¬ okWord die.length a ∨ ¬ okWord die.length b) ∧ c = E.word) ∨ (okDie die ∧ okWord die.length a ∧ okWord die.length b ∧ (a.length ≠ b.length ∨ a = b) ∧ c = E.race)) ∧ r = .ex (.ref c)
abbrev XX_answer (E : Errs) (ds : List D) (r : Out) : Prop := ∃ (die : List Int) (a : List Nat) (c : Addr), ds = [nums die, sD a] ∧ a.length ≤ 100 ∧ ((¬ okDie die ∧ c = E.die) ∨ (okDie die ∧ ¬ okWord die.length a ∧ c = E.word) ∨ (okDie die ∧ okWord die.length a ∧ 32 < die.length ^ a.length ∧ c = E.many)) ∧ r = .ex (.ref c)
theorem XX_ask_die_len {E : Errs} {ds : List D} {r : Out} (h : XX_ask_die E ds r) : ds.length = 1 := by obtain ⟨_, rfl, _⟩ := h; rfl
theorem XX_ask_word_len {E : Errs} {ds : List D} {r : Out} (h : XX_ask_word E ds r) : ds.length = 2 := by obtain ⟨_, _, rfl, _⟩ := h; rfl
theorem XX_ask_row_len {E : Errs} {ds : List D} {r : Out} (h : XX_ask_row E ds r) : ds.length = 2 := by obtain ⟨_, _, rfl, _⟩ := h; rfl
theorem XX_ask_race_len {E : Errs} {ds : List D} {r : Out} (h : XX_ask_race E ds r) : ds.length = 2 := by obtain ⟨_, _, _, rfl, _⟩ := h; rfl
theorem XX_overlaps_len {E : Errs} {ds : List D} {r : Out} (h : XX_overlaps E ds r) : ds.length = 3 := by obtain ⟨_, _, _, _, rfl, _⟩ := h; rfl
theorem XX_beginnings_len {E : Errs} {ds : List D} {r : Out} (h : XX_beginnings E ds r) : ds.length = 2 := by obtain ⟨_, _, _, rfl, _⟩ := h; rfl
theorem XX_shown_len {E : Errs} {ds : List D} {r : Out} (h : XX_shown E ds r) : ds.length = 2 := by obtain ⟨_, _, _, rfl, _⟩ := h; rfl
theorem XX_state_of_len {E : Errs} {ds : List D} {r : Out} (h : XX_state_of E ds r) : ds.length = 3 := by obtain ⟨_, _, _, _, rfl, _⟩ := h; rfl
theorem XX_ended_len {E : Errs} {ds : List D} {r : Out} (h : XX_ended E ds r) : ds.length = 3 := by obtain ⟨_, _, _, _, rfl, _⟩ := h; rfl
theorem XX_outcome_len {E : Errs} {ds : List D} {r : Out} (h : XX_outcome E ds r) : ds.length = 3 := by obtain ⟨_, _, _, _, rfl, _⟩ := h; rfl
theorem XX_shares_len {E : Errs} {ds : List D} {r : Out} (h : XX_shares E ds r) : ds.length = 3 := by obtain ⟨_, _, _, _, rfl, _⟩ := h; rfl
theorem XX_mean_len {E : Errs} {ds : List D} {r : Out} (h : XX_mean E ds r) : ds.length = 3 := by obtain ⟨_, _, _, _, rfl, _⟩ := h; rfl
theorem XX_counted_len {E : Errs} {ds : List D} {r : Out} (h : XX_counted E ds r) : ds.length = 3 := by obtain ⟨_, _, _, _, rfl, _⟩ := h; rfl
theorem XX_open_rows_len {E : Errs} {ds : List D} {r : Out} (h : XX_open_rows E ds r) : ds.length = 3 := by obtain ⟨_, _, _, _, rfl, _⟩ := h; rfl
theorem XX_ended_rows_len {E : Errs} {ds : List D} {r : Out} (h : XX_ended_rows E ds r) : ds.length = 3 := by obtain ⟨_, _, _, _, rfl, _⟩ := h; rfl
theorem XX_waiting_len {E : Errs} {ds : List D} {r : Out} (h : XX_waiting E ds r) : ds.length = 2 := by obtain ⟨_, _, _, rfl, _⟩ := h; rfl
theorem XX_odds_len {E : Errs} {ds : List D} {r : Out} (h : XX_odds E ds r) : ds.length = 3 := by obtain ⟨_, _, _, _, rfl, _⟩ := h; rfl
theorem XX_answer_len {E : Errs} {ds : List D} {r : Out} (h : XX_answer E ds r) : ds.length = 2 := by obtain ⟨_, _, _, rfl, _⟩ := h; rfl
end Vs

/-! No die. -/
namespace Vs
open PySem PySem.Spec L2
def badDie (die : List Int) (c : Int) : List Int :=
  if c % 6 = 0 then (if c / 6 % 2 = 0 then [] else cutL die none (some 1))
  else if c % 6 = 1 then cutL (die ++ [1, 2, 3, 4]) none (some (5 + c / 6 % 2))
  else cutL die none (some (c / 6 % (die.length : Int))) ++ [([0, 10, -1, (10 : Int) ^ (9 : Int).toNat] : List Int).getD (c / 24 % 4).toNat 0] ++ cutL die (some (c / 6 % (die.length : Int) + 1)) none
theorem badDie_no {die : List Int} (d : okDie die) (c : Int) : ¬ okDie (badDie die c) := by
  obtain ⟨d2, d4, d9⟩ := d
  unfold badDie
  split
  · split
    · intro h; exact absurd h.1 (by decide)
    · intro h
      have e := cutL_to die 1
      rw [show ((1 : Nat) : Int) = 1 from rfl] at e
      have := h.1
      rw [e, List.length_take] at this
      omega
  · split
    · intro h
      have h0 : 0 ≤ c / 6 % 2 := Int.emod_nonneg _ (by decide)
      have e := cutL_to (die ++ [1, 2, 3, 4]) (5 + c / 6 % 2).toNat
      rw [Int.toNat_of_nonneg (by omega)] at e
      have := h.2.1
      rw [e, List.length_take, List.length_append] at this
      have l4 : ([1, 2, 3, 4] : List Int).length = 4 := rfl
      omega
    · intro h
      have h0 : 0 ≤ c / 24 % 4 := Int.emod_nonneg _ (by decide)
      have h4 : c / 24 % 4 < 4 := Int.emod_lt_of_pos _ (by decide)
      have q := h.2.2 (([0, 10, -1, (10 : Int) ^ (9 : Int).toNat] : List Int).getD (c / 24 % 4).toNat 0) (by simp)
      have hk : (c / 24 % 4).toNat = 0 ∨ (c / 24 % 4).toNat = 1 ∨ (c / 24 % 4).toNat = 2 ∨ (c / 24 % 4).toNat = 3 := by omega
      revert q
      rcases hk with e | e | e | e <;> rw [e] <;> decide
abbrev S14__law_bad_die (ds : List D) (r : Out) : Prop := ∃ (die : List Int) (c : Int), ds = [nums die, iD c] ∧ okDie die ∧ r = .rn ((badDie die c).map iD)
theorem S14__law_bad_die_len {ds : List D} {r : Out} (h : S14__law_bad_die ds r) : ds.length = 2 := by obtain ⟨_, _, rfl, _⟩ := h; rfl
abbrev doneT : List Nat := [100, 111, 110, 101]
abbrev S14__law_first (E : Errs) (ds : List D) (r : Out) : Prop := ∃ (t : Int) (die : List Int) (w : List Nat), ds = [iD t, nums die, sD w] ∧ 0 ≤ t ∧ t < 6 ∧ w.length ≤ 100 ∧ ((¬ okDie die ∧ r = .ex (.ref E.die)) ∨ (okDie die ∧ w = [97] ∧ r = .dn))
theorem S14__law_first_len {E : Errs} {ds : List D} {r : Out} (h : S14__law_first E ds r) : ds.length = 3 := by obtain ⟨_, _, _, rfl, _⟩ := h; rfl
abbrev S14__law_second (E : Errs) (ds : List D) (r : Out) : Prop := ∃ (t : Int) (die : List Int) (w : List Nat), ds = [iD t, nums die, sD w] ∧ 6 ≤ t ∧ t < 12 ∧ w.length ≤ 100 ∧ ((¬ okDie die ∧ r = .ex (.ref E.die)) ∨ (okDie die ∧ w = [97] ∧ r = .dn))
theorem S14__law_second_len {E : Errs} {ds : List D} {r : Out} (h : S14__law_second E ds r) : ds.length = 3 := by obtain ⟨_, _, _, rfl, _⟩ := h; rfl
abbrev S14__law_tried (E : Errs) (ds : List D) (r : Out) : Prop := ∃ (t : Int) (die : List Int) (w : List Nat), ds = [iD t, nums die, sD w] ∧ 0 ≤ t ∧ t < 12 ∧ w.length ≤ 100 ∧ ((¬ okDie die ∧ r = .rt (sD (kindN 0))) ∨ (okDie die ∧ w = [97] ∧ r = .rt (sD doneT)))
theorem S14__law_tried_len {E : Errs} {ds : List D} {r : Out} (h : S14__law_tried E ds r) : ds.length = 3 := by obtain ⟨_, _, _, rfl, _⟩ := h; rfl
theorem szW_one {w : List Nat} (h : w.length ≤ 100) : szW [w] := ⟨Nat.le_of_ble_eq_true rfl, fun v hv => by rw [List.mem_singleton.mp hv]; exact h⟩
theorem okWord_a {n : Nat} (h : 2 ≤ n) : okWord n [97] := ⟨Nat.le_refl _, Nat.le_of_ble_eq_true rfl, fun c hc => by
  rw [List.mem_singleton.mp hc]
  obtain ⟨m, rfl⟩ := Nat.exists_eq_add_of_le h
  exact List.mem_take_iff_getElem.mpr ⟨0, by simp only [List.length_cons, List.length_nil]; omega, rfl⟩⟩
theorem okWord_b {n : Nat} (h : 2 ≤ n) : okWord n [98] := ⟨Nat.le_refl _, Nat.le_of_ble_eq_true rfl, fun c hc => by
  rw [List.mem_singleton.mp hc]
  exact List.mem_take_iff_getElem.mpr ⟨1, by simp only [List.length_cons, List.length_nil]; omega, rfl⟩⟩
theorem okRace_one {die : List Int} {w : List Nat} (d : okDie die) (h : okWord die.length w) : okRace die [w] :=
  ⟨d, fun v hv => by rw [List.mem_singleton.mp hv]; exact h, Nat.le_refl _, Nat.le_of_ble_eq_true rfl, fun i j hi hj ne => absurd (show j = i by
    have : i < 1 := hi
    have : j < 1 := hj
    omega) ne⟩
theorem okRow_nil (n : Nat) : okRow n [] := ⟨Nat.zero_le _, fun _ h => nomatch h⟩
theorem okRow_word {n : Nat} {w : List Nat} (h : okWord n w) : okRow n w := ⟨by have := h.2.1; omega, h.2.2⟩
theorem firstEnd_nil (ws : List (List Nat)) : firstEnd ws [] = none := rfl
theorem opOk_nil {die : List Int} {ws : List (List Nat)} (h : okRace die ws) : opOk die ws [] := ⟨h, okRow_nil _, firstEnd_nil ws⟩
theorem oddsOk_ab {die : List Int} (d : okDie die) : oddsOk die [97] [98] := ⟨d, okWord_a d.1, okWord_b d.1, rfl, by decide⟩
theorem pow_one32 {n : Nat} (h : n ≤ 4) : n ^ ([97] : List Nat).length ≤ 32 := by
  show n ^ 1 ≤ 32
  rw [Nat.pow_one]; omega
end Vs

/-! No row, and a row that is over. -/
namespace Vs
open PySem PySem.Spec L2
theorem okRace.sz {die : List Int} {ws : List (List Nat)} (ok : okRace die ws) : szW ws := ⟨by have := ok.four; omega, fun w hw => by have := ok.six w hw; omega⟩
abbrev S17__law_asked (E : Errs) (ds : List D) (r : Out) : Prop := ∃ (t : Int) (die : List Int) (ws : List (List Nat)) (row : List Nat), ds = [iD t, nums die, txts ws, sD row] ∧ okRace die ws ∧ row.length ≤ 1000 ∧ 0 ≤ t ∧ t < 4 ∧
  ((¬ okRow die.length row ∧ r = .ex (.ref E.row)) ∨ (okRow die.length row ∧ 2 ≤ t ∧ firstEnd ws row ≠ none ∧ r = .ex (.ref E.over)) ∨ (okRow die.length row ∧ (t < 2 ∨ firstEnd ws row = none) ∧ r = .dn))
theorem S17__law_asked_len {E : Errs} {ds : List D} {r : Out} (h : S17__law_asked E ds r) : ds.length = 4 := by obtain ⟨_, _, _, _, rfl, _⟩ := h; rfl
/-- what the tried one tells of a row -/
def row17 (die : List Int) (ws : List (List Nat)) (t : Int) (row : List Nat) (r : Out) : Prop := row.length ≤ 1000 ∧ 0 ≤ t ∧ t < 4 ∧
  ((¬ okRow die.length row ∧ r = .rt (sD (kindN 3))) ∨ (okRow die.length row ∧ 2 ≤ t ∧ firstEnd ws row ≠ none ∧ r = .rt (sD (kindN 4))) ∨ (okRow die.length row ∧ (t < 2 ∨ firstEnd ws row = none) ∧ r = .rt (sD doneT)))
def many17 (t m : Int) (r : Out) : Prop := (t = 4 ∨ t = 5) ∧ ((¬ (0 ≤ m ∧ m ≤ 60) ∧ r = .rt (sD (kindN 3))) ∨ ((0 ≤ m ∧ m ≤ 60) ∧ r = .rt (sD doneT)))
abbrev S17__law_tried (E : Errs) (ds : List D) (r : Out) : Prop := ∃ (t : Int) (die : List Int) (ws : List (List Nat)) (g : D), ds = [iD t, nums die, txts ws, g] ∧ okRace die ws ∧ ((∃ row, g = sD row ∧ row17 die ws t row r) ∨ (∃ m, g = iD m ∧ many17 t m r))
theorem S17__law_tried_len {E : Errs} {ds : List D} {r : Out} (h : S17__law_tried E ds r) : ds.length = 4 := by obtain ⟨_, _, _, _, rfl, _⟩ := h; rfl
theorem five17 {n : Nat} (n2 : 2 ≤ n) (n4 : n ≤ 4) {k : Int} (h0 : 0 ≤ k) (h5 : k < 5) : ∃ x, ([[([97, 98, 99, 100, 101] : List Nat).getD (n : Int).toNat 0], [65], [32], [49], [45]] : List (List Nat)).getD k.toNat [] = [x] ∧ x ∉ sgn n := by
  have hk : k.toNat = 0 ∨ k.toNat = 1 ∨ k.toNat = 2 ∨ k.toNat = 3 ∨ k.toNat = 4 := by omega
  have hn : n = 2 ∨ n = 3 ∨ n = 4 := by omega
  rcases hk with e | e | e | e | e <;> rw [e] <;> rcases hn with rfl | rfl | rfl <;> exact ⟨_, rfl, by decide⟩
theorem bad_long {n : Nat} {row : List Nat} (l : row.length = 60) (c : Int) : ¬ okRow n (row ++ cutL row none (some (1 + c % 30))) ∧ (row ++ cutL row none (some (1 + c % 30))).length ≤ 120 := by
  have h0 : 0 ≤ c % 30 := Int.emod_nonneg _ (by decide)
  have e := cutL_to row (1 + c % 30).toNat
  rw [Int.toNat_of_nonneg (by omega)] at e
  rw [e]
  refine ⟨fun h => ?_, ?_⟩
  · have := h.1
    rw [List.length_append, List.length_take] at this
    omega
  · rw [List.length_append, List.length_take]; omega
theorem bad_sign {n : Nat} {row a b u : List Nat} (l : row.length = 60) (la : a.length ≤ 60) (lb : b.length ≤ 60) (hu : ∃ x, u = [x] ∧ x ∉ sgn n) : ¬ okRow n (a ++ u ++ b) ∧ (a ++ u ++ b).length ≤ 121 := by
  obtain ⟨x, rfl, hx⟩ := hu
  exact ⟨fun h => hx (h.2 x (by simp)), by rw [List.length_append, List.length_append, List.length_singleton]; omega⟩
theorem still_ok {die : List Int} {ws : List (List Nat)} (ok : okRace die ws) {row : List Nat} (hr : okRow die.length row) : okRow die.length (cutL (openL ws row) none (some 40)) ∧ firstEnd ws (cutL (openL ws row) none (some 40)) = none ∧ (cutL (openL ws row) none (some 40)).length ≤ 40 := by
  obtain ⟨h1, h2⟩ := open_ok ok hr
  have e := cutL_to (openL ws row) 40
  rw [show ((40 : Nat) : Int) = 40 from rfl] at e
  rw [e]
  refine ⟨⟨by rw [List.length_take]; omega, h1.2.sub fun c h => List.mem_of_mem_take h⟩, (firstEnd_iff ok.one).mpr fun w hw q => (firstEnd_iff ok.one).mp h2 w hw (q.trans (List.take_prefix _ _).isInfix), by rw [List.length_take]; omega⟩
theorem taken_ok {die : List Int} {ws : List (List Nat)} (ok : okRace die ws) {s row w : List Nat} (hs : okRow die.length s) (ls : s.length ≤ 40) (hr : okRow die.length row) (hw : w ∈ ws) (c : Int) :
    okRow die.length (s ++ w ++ cutL row none (some (c % 14))) ∧ firstEnd ws (s ++ w ++ cutL row none (some (c % 14))) ≠ none := by
  have h0 : 0 ≤ c % 14 := Int.emod_nonneg _ (by decide)
  have e := cutL_to row (c % 14).toNat
  rw [Int.toNat_of_nonneg h0] at e
  have ww := ok.2.1 w hw
  refine ⟨⟨?_, fun x hx => ?_⟩, fun q => (firstEnd_iff ok.one).mp q w hw ⟨_, _, rfl⟩⟩
  · rw [e, List.length_append, List.length_append, List.length_take]
    have := ww.lt
    omega
  · rcases List.mem_append.mp hx with h | h
    · rcases List.mem_append.mp h with h | h
      · exact hs.2 x h
      · exact ww.2.2 x h
    · exact hr.2 x (cutL_sub h)
theorem far_out {f k : Int} (hf : 0 ≤ f) (h0 : 0 ≤ k) (h4 : k < 4) : ¬ (0 ≤ ([-1, 61, -1 - f, 61 + f] : List Int).getD k.toNat 0 ∧ ([-1, 61, -1 - f, 61 + f] : List Int).getD k.toNat 0 ≤ 60) := by
  have hk : k.toNat = 0 ∨ k.toNat = 1 ∨ k.toNat = 2 ∨ k.toNat = 3 := by omega
  rcases hk with e | e | e | e <;> rw [e]
  · show ¬ (0 ≤ (-1 : Int) ∧ (-1 : Int) ≤ 60); omega
  · show ¬ (0 ≤ (61 : Int) ∧ (61 : Int) ≤ 60); omega
  · show ¬ (0 ≤ -1 - f ∧ -1 - f ≤ 60); omega
  · show ¬ (0 ≤ 61 + f ∧ 61 + f ≤ 60); omega
theorem race_a {die : List Int} (d : okDie die) : okRace die [[97]] := okRace_one d (okWord_a d.1)
end Vs

namespace Vs
open PySem PySem.Spec L2
def topS (i : Nat) : Stmt := PySem.Challenge.pw_wordrace_k17_no_row_and_over.main.body.getD i (.Pass ⟨0, 0, 0, 0⟩)
section
variable {P : Program} {w : World} {K : PySem.W.Frag} {mg : Str → Option Value} {base : Heap} {E : Errs}
/-! ### common -/
theorem sc_common : FnScope ["one", "other", "rest"] ["one", "other"] (defScope (topS 10)) := ⟨rfl, rfl, rfl, by decide +kernel, rfl, by decide +kernel, by decide +kernel⟩
theorem ok_common (Df : DfG K mg "common" (topS 10) ["one", "other"]) (B : Bts mg)
    (C : Clss K mg E) : FnG P w K mg base 1 "common" ["one", "other"] S_common := by
  refine fn_D Df sc_common (fun ds r h => S_common_len h) fun X W hP hw hK hm hb A tk ds r hS => ?_
  subst hP hw hK hm hb
  have hsz := szL
  obtain ⟨a, b, rfl, hb, rfl⟩ := hS
  have loop : ∀ (m y x : Nat), y ≤ m → ∃ n, WhR X W (testOf (stAt (defBody (topS 10)) 1)) (bodyOf (stAt (defBody (topS 10)) 1)) n [.va (iD x), .va (iD y), .no] (.nx [.va (iD ((Nat.gcd x y : Nat) : Int)), .va (iD ((0 : Nat) : Int)), .no]) := by
    intro m
    induction m with
    | zero =>
      intro y x hy
      have : y = 0 := by omega
      subst this
      rw [Nat.gcd_zero_right]
      exact ⟨0, .done (EvT.cast (evt_gt (ev_var A.toWh 1 rfl (.inl rfl) rfl) ev_int) (decide_eq_false (by omega)))⟩
    | succ m ih =>
      intro y x hy
      by_cases h0 : y = 0
      · subst h0
        rw [Nat.gcd_zero_right]
        exact ⟨0, .done (EvT.cast (evt_gt (ev_var A.toWh 1 rfl (.inl rfl) rfl) ev_int) (decide_eq_false (by omega)))⟩
      · obtain ⟨n, h⟩ := ih (x % y) y (by have := Nat.mod_lt x (Nat.pos_of_ne_zero h0); omega)
        have e : Nat.gcd x y = Nat.gcd y (x % y) := by rw [Nat.gcd_comm x y, Nat.gcd_rec y x, Nat.gcd_comm]
        rw [e]
        have bodyR : RunB X W (bodyOf (stAt (defBody (topS 10)) 1)) [.va (iD x), .va (iD y), .no] (.nx [.va (iD y), .va (iD ((x % y : Nat) : Int)), .va (iD ((x % y : Nat) : Int))]) := by
          rw [Int.natCast_emod]
          exact runB_cons (run_set A 2 rfl (.inl rfl) (ev_mod (ev_var A.toWh 0 rfl (.inl rfl) rfl) (ev_var A.toWh 1 rfl (.inl rfl) rfl) (by first | omega | assumption | rfl | (simp only [List.length_append, List.length_cons, List.length_nil, List.length_map, List.length_range]; omega)))) (runB_cons (run_set A 0 rfl (.inl rfl) (ev_var A.toWh 1 rfl (.inl rfl) rfl)) (runB_one (run_set A 1 rfl (.inl rfl) (ev_var A.toWh 2 rfl (.inl rfl) rfl))))
        exact ⟨n + 1, .nx (EvT.cast (evt_gt (ev_var A.toWh 1 rfl (.inl rfl) rfl) ev_int) (decide_eq_true (by omega))) (RunB.clrO 2 bodyR) h⟩
  obtain ⟨n, h⟩ := loop b.toNat b.toNat a.natAbs (Nat.le_refl _)
  have eb : ((b.toNat : Nat) : Int) = b := Int.toNat_of_nonneg hb
  rw [eb] at h
  refine ⟨_, .inl rfl, runB_cons (run_set A 0 rfl (.inl rfl) (ev_abs A.toWh (by rfl) B.abs (ev_var A.toWh 0 rfl (.inl rfl) rfl))) (runB_to [.va (iD ((Int.gcd a b : Nat) : Int)), .va (iD ((0 : Nat) : Int)), .no] ?_ (runB_one (run_ret (ev_var A.toWh 0 rfl (.inl rfl) rfl))))⟩
  have eg : Int.gcd a b = Nat.gcd a.natAbs b.toNat := by
    show Nat.gcd _ _ = _
    congr 1
    omega
  rw [eg]
  exact run_while A h
/-! ### share -/
theorem sc_share : FnScope ["top", "bottom", "both"] ["top", "bottom"] (defScope (topS 11)) := ⟨rfl, rfl, rfl, by decide +kernel, rfl, by decide +kernel, by decide +kernel⟩
theorem ok_share (Df : DfG K mg "share" (topS 11) ["top", "bottom"]) (B : Bts mg)
    (C : Clss K mg E)
    (c_common : FnG P w K mg base 1 "common" ["one", "other"] S_common) : FnG P w K mg base 2 "share" ["top", "bottom"] S_share := by
  refine fn_D Df sc_share (fun ds r h => S_share_len h) fun X W hP hw hK hm hb A tk ds r hS => ?_
  subst hP hw hK hm hb
  have hsz := szL
  obtain ⟨a, b, rfl, hb, rfl⟩ := hS
  refine ⟨_, .inl rfl, ?_⟩
  by_cases h : b < 0
  · have hb' : shOk (0 - b) := ⟨by have := hb.1; omega, by rw [Int.zero_sub, Int.natAbs_neg]; exact hb.2⟩
    have g := gcd_log (a := 0 - a) hb'
    have e : qD (Rat.divInt a b) = qD (Rat.divInt (0 - a) (0 - b)) := by rw [Int.zero_sub, Int.zero_sub, Rat.neg_divInt_neg]
    rw [e, ← share_pos (show 0 < 0 - b by omega)]
    exact runB_cons (run_ifT (evt_lt (ev_var A.toWh 1 rfl (.inl rfl) rfl) ev_int) (decide_eq_true h) (runB_cons (run_set A 0 rfl (.inl rfl) (ev_sub ev_int (ev_var A.toWh 0 rfl (.inl rfl) rfl))) (runB_one (run_set A 1 rfl (.inl rfl) (ev_sub ev_int (ev_var A.toWh 1 rfl (.inl rfl) rfl)))))) (runB_cons (run_set A 2 rfl (.inl rfl) (ev_call A.toWh c_common (by decide) (by rfl) (eva_cons (ev_var A.toWh 0 rfl (.inl rfl) rfl) (eva_cons (ev_var A.toWh 1 rfl (.inl rfl) rfl) eva_nil)) ⟨_, _, rfl, (by omega), rfl⟩)) (runB_one (run_ret (ev_pair (ev_fdivW (ev_var A.toWh 0 rfl (.inl rfl) rfl) (ev_var A.toWh 2 rfl (.inl rfl) rfl) (by exact g)) (ev_fdivW (ev_var A.toWh 1 rfl (.inl rfl) rfl) (ev_var A.toWh 2 rfl (.inl rfl) rfl) (by exact g))))))
  · have g := gcd_log (a := a) hb
    have := hb.1
    rw [← share_pos (show 0 < b by omega)]
    exact runB_cons (run_ifF (evt_lt (ev_var A.toWh 1 rfl (.inl rfl) rfl) ev_int) (decide_eq_false h) runB_nil) (runB_cons (run_set A 2 rfl (.inl rfl) (ev_call A.toWh c_common (by decide) (by rfl) (eva_cons (ev_var A.toWh 0 rfl (.inl rfl) rfl) (eva_cons (ev_var A.toWh 1 rfl (.inl rfl) rfl) eva_nil)) ⟨_, _, rfl, (by omega), rfl⟩)) (runB_one (run_ret (ev_pair (ev_fdivW (ev_var A.toWh 0 rfl (.inl rfl) rfl) (ev_var A.toWh 2 rfl (.inl rfl) rfl) (by exact g)) (ev_fdivW (ev_var A.toWh 1 rfl (.inl rfl) rfl) (ev_var A.toWh 2 rfl (.inl rfl) rfl) (by exact g))))))
/-! ### plus -/
theorem sc_plus : FnScope ["one", "other"] ["one", "other"] (defScope (topS 12)) := ⟨rfl, rfl, rfl, by decide +kernel, rfl, by decide +kernel, by decide +kernel⟩
theorem ok_plus (Df : DfG K mg "plus" (topS 12) ["one", "other"]) (B : Bts mg)
    (C : Clss K mg E)
    (c_share : FnG P w K mg base 2 "share" ["top", "bottom"] S_share) : FnG P w K mg base 3 "plus" ["one", "other"] S_plus := by
  refine fn_D Df sc_plus (fun ds r h => S_plus_len h) fun X W hP hw hK hm hb A tk ds r hS => ?_
  subst hP hw hK hm hb
  have hsz := szL
  obtain ⟨x, y, rfl, hx, hy, rfl⟩ := hS
  have x1 := hx.num
  have x2 := hx.den
  have y1 := hy.num
  have y2 := hy.den
  have hb : shOk ((x.den : Int) * (y.den : Int)) := shOk_of (Int.mul_ne_zero (den_ne x) (den_ne y)) (den_bits hx hy) (by decide)
  rw [← add_divInt]
  exact ⟨_, .inl rfl, runB_one (run_ret (ev_call A.toWh c_share (by decide) (by rfl) (eva_cons (ev_add (ev_mulW (ev_fst (ev_var A.toWh 0 rfl (.inl rfl) rfl) ev_int) (ev_snd (ev_var A.toWh 1 rfl (.inl rfl) rfl) ev_int) (by exact cmulB (by assumption) (by assumption) (by decide))) (ev_mulW (ev_fst (ev_var A.toWh 1 rfl (.inl rfl) rfl) ev_int) (ev_snd (ev_var A.toWh 0 rfl (.inl rfl) rfl) ev_int) (by exact cmulB (by assumption) (by assumption) (by decide)))) (eva_cons (ev_mulW (ev_snd (ev_var A.toWh 0 rfl (.inl rfl) rfl) ev_int) (ev_snd (ev_var A.toWh 1 rfl (.inl rfl) rfl) ev_int) (by exact cmulB (by assumption) (by assumption) (by decide))) eva_nil)) ⟨_, _, rfl, (by assumption), rfl⟩))⟩
/-! ### minus -/
theorem sc_minus : FnScope ["one", "other"] ["one", "other"] (defScope (topS 13)) := ⟨rfl, rfl, rfl, by decide +kernel, rfl, by decide +kernel, by decide +kernel⟩
theorem ok_minus (Df : DfG K mg "minus" (topS 13) ["one", "other"]) (B : Bts mg)
    (C : Clss K mg E)
    (c_share : FnG P w K mg base 2 "share" ["top", "bottom"] S_share) : FnG P w K mg base 3 "minus" ["one", "other"] S_minus := by
  refine fn_D Df sc_minus (fun ds r h => S_minus_len h) fun X W hP hw hK hm hb A tk ds r hS => ?_
  subst hP hw hK hm hb
  have hsz := szL
  obtain ⟨x, y, rfl, hx, hy, rfl⟩ := hS
  have x1 := hx.num
  have x2 := hx.den
  have y1 := hy.num
  have y2 := hy.den
  have hb : shOk ((x.den : Int) * (y.den : Int)) := shOk_of (Int.mul_ne_zero (den_ne x) (den_ne y)) (den_bits hx hy) (by decide)
  rw [← sub_divInt]
  exact ⟨_, .inl rfl, runB_one (run_ret (ev_call A.toWh c_share (by decide) (by rfl) (eva_cons (ev_sub (ev_mulW (ev_fst (ev_var A.toWh 0 rfl (.inl rfl) rfl) ev_int) (ev_snd (ev_var A.toWh 1 rfl (.inl rfl) rfl) ev_int) (by exact cmulB (by assumption) (by assumption) (by decide))) (ev_mulW (ev_fst (ev_var A.toWh 1 rfl (.inl rfl) rfl) ev_int) (ev_snd (ev_var A.toWh 0 rfl (.inl rfl) rfl) ev_int) (by exact cmulB (by assumption) (by assumption) (by decide)))) (eva_cons (ev_mulW (ev_snd (ev_var A.toWh 0 rfl (.inl rfl) rfl) ev_int) (ev_snd (ev_var A.toWh 1 rfl (.inl rfl) rfl) ev_int) (by exact cmulB (by assumption) (by assumption) (by decide))) eva_nil)) ⟨_, _, rfl, (by assumption), rfl⟩))⟩
/-! ### times -/
theorem sc_times : FnScope ["one", "other"] ["one", "other"] (defScope (topS 14)) := ⟨rfl, rfl, rfl, by decide +kernel, rfl, by decide +kernel, by decide +kernel⟩
theorem ok_times (Df : DfG K mg "times" (topS 14) ["one", "other"]) (B : Bts mg)
    (C : Clss K mg E)
    (c_share : FnG P w K mg base 2 "share" ["top", "bottom"] S_share) : FnG P w K mg base 3 "times" ["one", "other"] S_times := by
  refine fn_D Df sc_times (fun ds r h => S_times_len h) fun X W hP hw hK hm hb A tk ds r hS => ?_
  subst hP hw hK hm hb
  have hsz := szL
  obtain ⟨x, y, rfl, hx, hy, rfl⟩ := hS
  have x1 := hx.num
  have x2 := hx.den
  have y1 := hy.num
  have y2 := hy.den
  have hb : shOk ((x.den : Int) * (y.den : Int)) := shOk_of (Int.mul_ne_zero (den_ne x) (den_ne y)) (den_bits hx hy) (by decide)
  rw [← mul_divInt]
  exact ⟨_, .inl rfl, runB_one (run_ret (ev_call A.toWh c_share (by decide) (by rfl) (eva_cons (ev_mulW (ev_fst (ev_var A.toWh 0 rfl (.inl rfl) rfl) ev_int) (ev_fst (ev_var A.toWh 1 rfl (.inl rfl) rfl) ev_int) (by exact cmulB (by assumption) (by assumption) (by decide))) (eva_cons (ev_mulW (ev_snd (ev_var A.toWh 0 rfl (.inl rfl) rfl) ev_int) (ev_snd (ev_var A.toWh 1 rfl (.inl rfl) rfl) ev_int) (by exact cmulB (by assumption) (by assumption) (by decide))) eva_nil)) ⟨_, _, rfl, (by assumption), rfl⟩))⟩
/-! ### over -/
theorem sc_over : FnScope ["one", "other"] ["one", "other"] (defScope (topS 15)) := ⟨rfl, rfl, rfl, by decide +kernel, rfl, by decide +kernel, by decide +kernel⟩
theorem ok_over (Df : DfG K mg "over" (topS 15) ["one", "other"]) (B : Bts mg)
    (C : Clss K mg E)
    (c_share : FnG P w K mg base 2 "share" ["top", "bottom"] S_share) : FnG P w K mg base 3 "over" ["one", "other"] S_over := by
  refine fn_D Df sc_over (fun ds r h => S_over_len h) fun X W hP hw hK hm hb A tk ds r hS => ?_
  subst hP hw hK hm hb
  have hsz := szL
  obtain ⟨x, y, rfl, hx, hy, h0, rfl⟩ := hS
  have x1 := hx.num
  have x2 := hx.den
  have y1 := hy.num
  have y2 := hy.den
  have hb : shOk ((x.den : Int) * y.num) := shOk_of (Int.mul_ne_zero (den_ne x) (num_ne h0)) (by rw [Int.natAbs_mul, Int.natAbs_natCast]; exact lt_two_pow_add hx.2 hy.1) (by decide)
  rw [← div_divInt]
  exact ⟨_, .inl rfl, runB_one (run_ret (ev_call A.toWh c_share (by decide) (by rfl) (eva_cons (ev_mulW (ev_fst (ev_var A.toWh 0 rfl (.inl rfl) rfl) ev_int) (ev_snd (ev_var A.toWh 1 rfl (.inl rfl) rfl) ev_int) (by exact cmulB (by assumption) (by assumption) (by decide))) (eva_cons (ev_mulW (ev_snd (ev_var A.toWh 0 rfl (.inl rfl) rfl) ev_int) (ev_fst (ev_var A.toWh 1 rfl (.inl rfl) rfl) ev_int) (by exact cmulB (by assumption) (by assumption) (by decide))) eva_nil)) ⟨_, _, rfl, (by assumption), rfl⟩))⟩
/-! ### ask_die -/
theorem sc_ask_die : FnScope ["die", "weight"] ["die"] (defScope (topS 18)) := ⟨rfl, rfl, rfl, by decide +kernel, rfl, by decide +kernel, by decide +kernel⟩
theorem ok_ask_die (Df : DfG K mg "ask_die" (topS 18) ["die"]) (B : Bts mg)
    (C : Clss K mg E) : FnG P w K mg base 1 "ask_die" ["die"] (fun ds r => S_ask_die ds r ∨ XX_ask_die E ds r) := by
  refine fn_D Df sc_ask_die (fun ds r h => h.elim (fun h => S_ask_die_len h) (fun h => XX_ask_die_len h)) fun X W hP hw hK hm hb A tk ds r hS => ?_
  subst hP hw hK hm hb
  have hsz := szL
  rcases hS with hS | hS
  · obtain ⟨die, rfl, ok, rfl⟩ := hS
    obtain ⟨o1, o2, o3⟩ := ok
    have loop : ∀ l : List Int, (∀ w ∈ l, 1 ≤ w ∧ w ≤ 9) → ForR X W 1 (bodyOf (stAt (defBody (topS 18)) 1)) (l.map iD) [.va (nums die), .no] (.nx [.va (nums die), .no]) := by
      intro l
      induction l with
      | nil => intro _; exact .nil
      | cons w l ih =>
        intro h
        have hw := h w List.mem_cons_self
        refine .nx (RunB.clrO 1 (runB_one (run_ifF (evt_not (evt_lele ev_int (ev_var A.toWh 1 rfl (.inl rfl) rfl) ev_int)) ?_ runB_nil))) (ih fun w hw => h w (List.mem_cons_of_mem _ hw))
        rw [decide_eq_true hw.1, decide_eq_true hw.2]; rfl
    refine ⟨_, .inr ⟨_, rfl, rfl⟩, runB_cons (run_ifF (evt_not (evt_lele ev_int (ev_lenM A.toWh (by rfl) B.len (ev_var A.toWh 0 rfl (.inl rfl) rfl)) ev_int)) ?_ runB_nil) (runB_one (show Run X W _ _ (.nx [.va (nums die), .no]) from ?_))⟩
    · rw [decide_eq_true (by omega), decide_eq_true (by omega)]; rfl
    · refine (run_for A 1 rfl (.inl rfl) (evi_list (ev_var A.toWh 0 rfl (.inl rfl) rfl)) ?_)
      exact loop die o3
  · obtain ⟨die, rfl, bad, rfl⟩ := hS
    by_cases h : 2 ≤ die.length ∧ die.length ≤ 4
    · have h3 : ¬ ∀ w ∈ die, 1 ≤ w ∧ w ≤ 9 := fun q => bad ⟨h.1, h.2, q⟩
      have loop : ∀ l : List Int, (¬ ∀ w ∈ l, 1 ≤ w ∧ w ≤ 9) → ForR X W 1 (bodyOf (stAt (defBody (topS 18)) 1)) (l.map iD) [.va (nums die), .no] (.ex (.ref E.die)) := by
        intro l
        induction l with
        | nil => intro h; exact absurd (fun _ h => nomatch h) h
        | cons w l ih =>
          intro h
          by_cases hw : 1 ≤ w ∧ w ≤ 9
          · have h2 : ¬ ∀ w ∈ l, 1 ≤ w ∧ w ≤ 9 := fun q => h fun v hv => (List.mem_cons.mp hv).elim (fun e => by rw [e]; exact hw) (q v)
            refine .nx (RunB.clrO 1 (runB_one (run_ifF (evt_not (evt_lele ev_int (ev_var A.toWh 1 rfl (.inl rfl) rfl) ev_int)) ?_ runB_nil))) (ih h2)
            rw [decide_eq_true hw.1, decide_eq_true hw.2]; rfl
          · refine .rt (runB_one (run_ifT (evt_not (evt_lele ev_int (ev_var A.toWh 1 rfl (.inl rfl) rfl) ev_int)) ?_ (runB_one (run_raise A.toWh tk C.die rfl)))) rfl
            rw [← Bool.decide_and, decide_eq_false hw]; rfl
      refine ⟨_, .inl rfl, runB_cons (run_ifF (evt_not (evt_lele ev_int (ev_lenM A.toWh (by rfl) B.len (ev_var A.toWh 0 rfl (.inl rfl) rfl)) ev_int)) ?_ runB_nil) (runB_one (show Run X W _ _ (.ex (.ref E.die)) from ?_))⟩
      · rw [decide_eq_true (by omega), decide_eq_true (by omega)]; rfl
      · refine (run_for A 1 rfl (.inl rfl) (evi_list (ev_var A.toWh 0 rfl (.inl rfl) rfl)) ?_)
        exact loop die h3
    · refine ⟨_, .inl rfl, runB_X (run_ifT (evt_not (evt_lele ev_int (ev_lenM A.toWh (by rfl) B.len (ev_var A.toWh 0 rfl (.inl rfl) rfl)) ev_int)) ?_ (runB_one (run_raise A.toWh tk C.die rfl)))⟩
      rw [← Bool.decide_and, decide_eq_false (by omega)]; rfl
/-! ### is_thrown -/
theorem sc_is_thrown : FnScope ["die", "text", "sign"] ["die", "text"] (defScope (topS 19)) := ⟨rfl, rfl, rfl, by decide +kernel, rfl, by decide +kernel, by decide +kernel⟩
theorem ok_is_thrown (Df : DfG K mg "is_thrown" (topS 19) ["die", "text"]) (B : Bts mg)
    (C : Clss K mg E)
    (g_SIGNS : GlG K mg "SIGNS" (sD [97, 98, 99, 100])) : FnG P w K mg base 1 "is_thrown" ["die", "text"] S_is_thrown := by
  refine fn_D Df sc_is_thrown (fun ds r h => S_is_thrown_len h) fun X W hP hw hK hm hb A tk ds r hS => ?_
  subst hP hw hK hm hb
  have hsz := szL
  obtain ⟨die, text, rfl, rfl⟩ := hS
  have loop : ∀ l : List Nat, ForR X W 2 (bodyOf (stAt (defBody (topS 19)) 0)) (l.map fun c => sD [c]) [.va (nums die), .va (sD text), .no] (if thrownB die.length l then .nx [.va (nums die), .va (sD text), .no] else .rt (bD false)) := by
    intro l
    induction l with
    | nil => exact .nil
    | cons c l ih =>
      cases hc : decide ([c] <:+: cutL abcd none (some (die.length : Int))) with
      | true =>
        have e : thrownB die.length (c :: l) = thrownB die.length l := by unfold thrownB; rw [List.all_cons, hc, Bool.true_and]
        rw [e]
        refine .nx (RunB.clrO 2 (runB_one (run_ifF (evt_ninT (ev_var A.toWh 2 rfl (.inl rfl) rfl) (ev_slT (ev_gl A.toWh g_SIGNS (by rfl)) evo_none (evo_some (ev_lenM A.toWh (by rfl) B.len (ev_var A.toWh 0 rfl (.inl rfl) rfl))) (by first | omega | assumption | rfl | (simp only [List.length_append, List.length_cons, List.length_nil, List.length_map, List.length_range]; omega)))) ?_ runB_nil))) ih
        rw [hc]; rfl
      | false =>
        have e : thrownB die.length (c :: l) = false := by unfold thrownB; rw [List.all_cons, hc, Bool.false_and]
        rw [e, if_neg (by decide)]
        refine .rt (runB_one (run_ifT (evt_ninT (ev_var A.toWh 2 rfl (.inl rfl) rfl) (ev_slT (ev_gl A.toWh g_SIGNS (by rfl)) evo_none (evo_some (ev_lenM A.toWh (by rfl) B.len (ev_var A.toWh 0 rfl (.inl rfl) rfl))) (by first | omega | assumption | rfl | (simp only [List.length_append, List.length_cons, List.length_nil, List.length_map, List.length_range]; omega)))) ?_ (runB_one (run_ret ev_bl)))) rfl
        rw [hc]; rfl
  have L := loop text
  cases hb : thrownB die.length text with
  | true =>
    rw [hb, if_pos rfl] at L
    refine ⟨_, .inl rfl, runB_cons (show Run X W _ _ (.nx [.va (nums die), .va (sD text), .no]) from ?_) (runB_one (run_ret ev_bl))⟩
    refine (run_for A 2 rfl (.inl rfl) (evi_strT (ev_var A.toWh 1 rfl (.inl rfl) rfl)) ?_)
    exact L
  | false =>
    rw [hb, if_neg (by decide)] at L
    refine ⟨_, .inl rfl, runB_stop (u := .rt (bD false)) ?_ rfl⟩
    refine (run_for A 2 rfl (.inl rfl) (evi_strT (ev_var A.toWh 1 rfl (.inl rfl) rfl)) ?_)
    exact L
/-! ### ask_word -/
theorem sc_ask_word : FnScope ["die", "word"] ["die", "word"] (defScope (topS 20)) := ⟨rfl, rfl, rfl, by decide +kernel, rfl, by decide +kernel, by decide +kernel⟩
theorem ok_ask_word (Df : DfG K mg "ask_word" (topS 20) ["die", "word"]) (B : Bts mg)
    (C : Clss K mg E)
    (c_is_thrown : FnG P w K mg base 1 "is_thrown" ["die", "text"] S_is_thrown) : FnG P w K mg base 2 "ask_word" ["die", "word"] (fun ds r => S_ask_word ds r ∨ XX_ask_word E ds r) := by
  refine fn_D Df sc_ask_word (fun ds r h => h.elim (fun h => S_ask_word_len h) (fun h => XX_ask_word_len h)) fun X W hP hw hK hm hb A tk ds r hS => ?_
  subst hP hw hK hm hb
  have hsz := szL
  rcases hS with hS | hS
  · obtain ⟨die, text, rfl, ok, rfl⟩ := hS
    have hl := ok.lt
    refine ⟨_, .inr ⟨_, rfl, rfl⟩, runB_one (run_ifF ((evw_or (evt_not (evt_lele ev_int (ev_lenT' A.toWh (by rfl) B.len (ev_var A.toWh 1 rfl (.inl rfl) rfl) (by first | omega | assumption | rfl | (simp only [List.length_append, List.length_cons, List.length_nil, List.length_map, List.length_range]; omega))) ev_int)) (fun hc1 => (evw_or1 (evt_not (evt_val (ev_call A.toWh c_is_thrown (by decide) (by rfl) (eva_cons (ev_var A.toWh 0 rfl (.inl rfl) rfl) (eva_cons (ev_var A.toWh 1 rfl (.inl rfl) rfl) eva_nil)) ⟨_, _, rfl, rfl⟩))))))).t ?_ runB_nil)⟩
    rw [decide_eq_true (show (1 : Int) ≤ text.length by have := ok.1; omega), decide_eq_true (show (text.length : Int) ≤ 6 by omega), thrownB_ok ok.2.2]; rfl
  · obtain ⟨die, text, rfl, hl, bad, rfl⟩ := hS
    refine ⟨_, .inl rfl, runB_X (run_ifT ((evw_or (evt_not (evt_lele ev_int (ev_lenT' A.toWh (by rfl) B.len (ev_var A.toWh 1 rfl (.inl rfl) rfl) (by first | omega | assumption | rfl | (simp only [List.length_append, List.length_cons, List.length_nil, List.length_map, List.length_range]; omega))) ev_int)) (fun hc1 => (evw_or1 (evt_not (evt_val (ev_call A.toWh c_is_thrown (by decide) (by rfl) (eva_cons (ev_var A.toWh 0 rfl (.inl rfl) rfl) (eva_cons (ev_var A.toWh 1 rfl (.inl rfl) rfl) eva_nil)) ⟨_, _, rfl, rfl⟩))))))).t ?_ (runB_one (run_raise A.toWh tk C.word rfl)))⟩
    by_cases h : (1 : Int) ≤ text.length ∧ (text.length : Int) ≤ 6
    · cases ht : thrownB die.length text with
      | true => exact absurd ⟨by omega, by omega, thrownB_iff.mp ht⟩ bad
      | false => rw [Bool.not_false, Bool.or_true]
    · rw [← Bool.decide_and, decide_eq_false h]; rfl
/-! ### ask_race -/
theorem sc_ask_race : FnScope ["die", "words", "word", "k", "j"] ["die", "words"] (defScope (topS 21)) := ⟨rfl, rfl, rfl, by decide +kernel, rfl, by decide +kernel, by decide +kernel⟩
theorem ok_ask_race (Df : DfG K mg "ask_race" (topS 21) ["die", "words"]) (B : Bts mg)
    (C : Clss K mg E)
    (c_ask_die : FnG P w K mg base 1 "ask_die" ["die"] (fun ds r => S_ask_die ds r ∨ XX_ask_die E ds r))
    (c_ask_word : FnG P w K mg base 2 "ask_word" ["die", "word"] (fun ds r => S_ask_word ds r ∨ XX_ask_word E ds r)) : FnG P w K mg base 3 "ask_race" ["die", "words"] (fun ds r => S_ask_race ds r ∨ XX_ask_race E ds r) := by
  refine fn_D Df sc_ask_race (fun ds r h => h.elim (fun h => S_ask_race_len h) (fun h => XX_ask_race_len h)) fun X W hP hw hK hm hb A tk ds r hS => ?_
  subst hP hw hK hm hb
  have hsz := szL
  rcases hS with hS | hS
  · obtain ⟨die, ws, rfl, ok, rfl⟩ := hS
    obtain ⟨hd, hw, h1, h4, ha⟩ := ok
    have loop1 : ∀ l : List (List Nat), (∀ w ∈ l, okWord die.length w) → ForR X W 2 (bodyOf (stAt (defBody (topS 21)) 1)) (l.map sD) [.va (nums die), .va (txts ws), .no, .no, .no] (.nx [.va (nums die), .va (txts ws), .no, .no, .no]) := by
      intro l
      induction l with
      | nil => intro _; exact .nil
      | cons w l ih =>
        intro h
        have hw := h w List.mem_cons_self
        exact .nx (RunB.clrO 2 (runB_one (run_expr (ev_call A.toWh c_ask_word (by decide) (by rfl) (eva_cons (ev_var A.toWh 0 rfl (.inl rfl) rfl) (eva_cons (ev_var A.toWh 2 rfl (.inl rfl) rfl) eva_nil)) (.inl ⟨_, _, rfl, (by assumption), rfl⟩))))) (ih fun w hw => h w (List.mem_cons_of_mem _ hw))
    have loop3 : ∀ (k : Nat), k < ws.length → ∀ l : List Nat, (∀ j ∈ l, j < ws.length) → ForR X W 4 (bodyOf (stAt (bodyOf (stAt (defBody (topS 21)) 3)) 0)) (l.map fun (j : Nat) => iD j) [.va (nums die), .va (txts ws), .no, .va (iD k), .no] (.nx [.va (nums die), .va (txts ws), .no, .va (iD k), .no]) := by
      intro k hk l
      induction l with
      | nil => intro _; exact .nil
      | cons j l ih =>
        intro h
        have hj := h j List.mem_cons_self
        refine .nx (RunB.clrO 4 (runB_one (run_ifF ((evw_and (evt_neI (ev_var A.toWh 4 rfl (.inl rfl) rfl) (ev_var A.toWh 3 rfl (.inl rfl) rfl)) (fun hc1 => (evw_and1 (evt_inT (ev_ixG (enc := sD) [] (ev_var A.toWh 1 rfl (.inl rfl) rfl) (ev_var A.toWh 3 rfl (.inl rfl) rfl) (by first | omega | assumption | rfl | (simp only [List.length_append, List.length_cons, List.length_nil, List.length_map, List.length_range]; omega)) (by first | omega | assumption | rfl | (simp only [List.length_append, List.length_cons, List.length_nil, List.length_map, List.length_range]; omega))) (ev_ixG (enc := sD) [] (ev_var A.toWh 1 rfl (.inl rfl) rfl) (ev_var A.toWh 4 rfl (.inl rfl) rfl) (by first | omega | assumption | rfl | (simp only [List.length_append, List.length_cons, List.length_nil, List.length_map, List.length_range]; omega)) (by first | omega | assumption | rfl | (simp only [List.length_append, List.length_cons, List.length_nil, List.length_map, List.length_range]; omega)))))))).t ?_ runB_nil))) (ih fun j hj => h j (List.mem_cons_of_mem _ hj))
        rw [Int.toNat_natCast, Int.toNat_natCast]
        by_cases e : j = k
        · subst e; rw [decide_eq_true rfl]; rfl
        · rw [decide_eq_false (ha k j hk hj e), Bool.and_false]
    have loop2 : ∀ l : List Nat, (∀ j ∈ l, j < ws.length) → ForR X W 3 (bodyOf (stAt (defBody (topS 21)) 3)) (l.map fun (j : Nat) => iD j) [.va (nums die), .va (txts ws), .no, .no, .no] (.nx [.va (nums die), .va (txts ws), .no, .no, .no]) := by
      intro l
      induction l with
      | nil => intro _; exact .nil
      | cons k l ih =>
        intro h
        have hk := h k List.mem_cons_self
        refine .nx (RunB.clrO 3 (runB_one (show Run X W _ _ (.nx [.va (nums die), .va (txts ws), .no, .va (iD k), .no]) from ?_))) (ih fun j hj => h j (List.mem_cons_of_mem _ hj))
        refine (run_for A 4 rfl (.inl rfl) (evi_rangeN A.toWh (by rfl) B.range (ev_lenM A.toWh (by rfl) B.len (ev_var A.toWh 1 rfl (.inl rfl) rfl)) (by first | omega | rfl | assumption) (by first | omega | assumption | rfl | (simp only [List.length_append, List.length_cons, List.length_nil, List.length_map, List.length_range]; omega))) ?_)
        exact loop3 k hk (List.range ws.length) fun j hj => List.mem_range.mp hj
    refine ⟨_, .inr ⟨_, rfl, rfl⟩, runB_cons (run_expr (ev_call A.toWh c_ask_die (by decide) (by rfl) (eva_cons (ev_var A.toWh 0 rfl (.inl rfl) rfl) eva_nil) (.inl ⟨_, rfl, (by assumption), rfl⟩))) (runB_to [.va (nums die), .va (txts ws), .no, .no, .no] ?_ (runB_cons (run_ifF (evt_not (evt_lele ev_int (ev_lenM A.toWh (by rfl) B.len (ev_var A.toWh 1 rfl (.inl rfl) rfl)) ev_int)) ?_ runB_nil) (runB_one (show Run X W _ _ (.nx [.va (nums die), .va (txts ws), .no, .no, .no]) from ?_))))⟩
    · refine (run_for A 2 rfl (.inl rfl) (evi_list (ev_var A.toWh 1 rfl (.inl rfl) rfl)) ?_)
      exact loop1 ws hw
    · rw [decide_eq_true (by omega), decide_eq_true (by omega)]; rfl
    · refine (run_for A 3 rfl (.inl rfl) (evi_rangeN A.toWh (by rfl) B.range (ev_lenM A.toWh (by rfl) B.len (ev_var A.toWh 1 rfl (.inl rfl) rfl)) (by first | omega | rfl | assumption) (by first | omega | assumption | rfl | (simp only [List.length_append, List.length_cons, List.length_nil, List.length_map, List.length_range]; omega))) ?_)
      exact loop2 (List.range ws.length) fun j hj => List.mem_range.mp hj
  · obtain ⟨die, ws, c, rfl, ⟨s1, s2⟩, bad, rfl⟩ := hS
    cases bad with
    | die hb => exact ⟨_, .inl rfl, runB_X (run_exprX (evx_call A.toWh tk c_ask_die (by decide) (by rfl) (eva_cons (ev_var A.toWh 0 rfl (.inl rfl) rfl) eva_nil) (.inr ⟨_, rfl, (by assumption), rfl⟩)))⟩
    | word hd hb =>
      have loop : ∀ l : List (List Nat), (∃ w ∈ l, ¬ okWord die.length w) → (∀ w ∈ l, w.length ≤ 100) → ForR X W 2 (bodyOf (stAt (defBody (topS 21)) 1)) (l.map sD) [.va (nums die), .va (txts ws), .no, .no, .no] (.ex (.ref E.word)) := by
        intro l
        induction l with
        | nil => rintro ⟨_, h, _⟩; exact nomatch h
        | cons w l ih =>
          intro hx hz
          have z := hz w List.mem_cons_self
          by_cases hw : okWord die.length w
          · refine .nx (RunB.clrO 2 (runB_one (run_expr (ev_call A.toWh c_ask_word (by decide) (by rfl) (eva_cons (ev_var A.toWh 0 rfl (.inl rfl) rfl) (eva_cons (ev_var A.toWh 2 rfl (.inl rfl) rfl) eva_nil)) (.inl ⟨_, _, rfl, (by assumption), rfl⟩))))) (ih ?_ fun w hw => hz w (List.mem_cons_of_mem _ hw))
            obtain ⟨v, hv, hb⟩ := hx
            rcases List.mem_cons.mp hv with rfl | hv
            · exact absurd hw hb
            · exact ⟨v, hv, hb⟩
          · exact .rt (runB_one (run_exprX (evx_call A.toWh tk c_ask_word (by decide) (by rfl) (eva_cons (ev_var A.toWh 0 rfl (.inl rfl) rfl) (eva_cons (ev_var A.toWh 2 rfl (.inl rfl) rfl) eva_nil)) (.inr ⟨_, _, rfl, (by assumption), (by assumption), rfl⟩)))) rfl
      refine ⟨_, .inl rfl, runB_cons (run_expr (ev_call A.toWh c_ask_die (by decide) (by rfl) (eva_cons (ev_var A.toWh 0 rfl (.inl rfl) rfl) eva_nil) (.inl ⟨_, rfl, (by assumption), rfl⟩))) (runB_X (show Run X W _ _ (.ex (.ref E.word)) from ?_))⟩
      refine (run_for A 2 rfl (.inl rfl) (evi_list (ev_var A.toWh 1 rfl (.inl rfl) rfl)) ?_)
      exact loop ws hb s2
    | race hd hw hb =>
      have loop1 : ∀ l : List (List Nat), (∀ w ∈ l, okWord die.length w) → ForR X W 2 (bodyOf (stAt (defBody (topS 21)) 1)) (l.map sD) [.va (nums die), .va (txts ws), .no, .no, .no] (.nx [.va (nums die), .va (txts ws), .no, .no, .no]) := by
        intro l
        induction l with
        | nil => intro _; exact .nil
        | cons w l ih =>
          intro h
          have hw := h w List.mem_cons_self
          exact .nx (RunB.clrO 2 (runB_one (run_expr (ev_call A.toWh c_ask_word (by decide) (by rfl) (eva_cons (ev_var A.toWh 0 rfl (.inl rfl) rfl) (eva_cons (ev_var A.toWh 2 rfl (.inl rfl) rfl) eva_nil)) (.inl ⟨_, _, rfl, (by assumption), rfl⟩))))) (ih fun w hw => h w (List.mem_cons_of_mem _ hw))
      have first : ∀ u, RunB X W (((defBody (topS 21))).drop 2) [.va (nums die), .va (txts ws), .no, .no, .no] u → RunB X W (((defBody (topS 21))).drop 0) [.va (nums die), .va (txts ws), .no, .no, .no] u := by
        intro u h
        refine runB_cons (run_expr (ev_call A.toWh c_ask_die (by decide) (by rfl) (eva_cons (ev_var A.toWh 0 rfl (.inl rfl) rfl) eva_nil) (.inl ⟨_, rfl, (by assumption), rfl⟩))) (runB_to [.va (nums die), .va (txts ws), .no, .no, .no] ?_ h)
        refine (run_for A 2 rfl (.inl rfl) (evi_list (ev_var A.toWh 1 rfl (.inl rfl) rfl)) ?_)
        exact loop1 ws hw
      by_cases h14 : 1 ≤ ws.length ∧ ws.length ≤ 4
      · have clash2 : ∃ k, k < ws.length ∧ ∃ j, j < ws.length ∧ j ≠ k ∧ ws.getD k [] <:+: ws.getD j [] := by
          refine Classical.byContradiction fun q => hb ⟨h14.1, h14.2, fun i j hi hj ne hs => q ⟨i, hi, j, hj, ne, hs⟩⟩
        have test : ∀ (k j : Nat), (!decide ((j : Int) = (k : Int)) && decide (ws.getD (k : Int).toNat [] <:+: ws.getD (j : Int).toNat [])) = decide (j ≠ k ∧ ws.getD k [] <:+: ws.getD j []) := fun k j => by
          rw [Bool.decide_and, Int.toNat_natCast, Int.toNat_natCast]
          congr 1
          by_cases e : j = k
          · subst e; rw [decide_eq_true rfl, decide_eq_false (by omega)]; rfl
          · rw [decide_eq_false (by omega), decide_eq_true e]; rfl
        have loop3X : ∀ (k : Nat), k < ws.length → ∀ l : List Nat, (∀ j ∈ l, j < ws.length) → (∃ j ∈ l, j ≠ k ∧ ws.getD k [] <:+: ws.getD j []) → ForR X W 4 (bodyOf (stAt (bodyOf (stAt (defBody (topS 21)) 3)) 0)) (l.map fun (j : Nat) => iD j) [.va (nums die), .va (txts ws), .no, .va (iD k), .no] (.ex (.ref E.race)) := by
          intro k hk l
          induction l with
          | nil => rintro _ ⟨_, h, _⟩; exact nomatch h
          | cons j l ih =>
            intro h hx
            have hj := h j List.mem_cons_self
            by_cases q : j ≠ k ∧ ws.getD k [] <:+: ws.getD j []
            · exact .rt (runB_one (run_ifT ((evw_and (evt_neI (ev_var A.toWh 4 rfl (.inl rfl) rfl) (ev_var A.toWh 3 rfl (.inl rfl) rfl)) (fun hc1 => (evw_and1 (evt_inT (ev_ixG (enc := sD) [] (ev_var A.toWh 1 rfl (.inl rfl) rfl) (ev_var A.toWh 3 rfl (.inl rfl) rfl) (by first | omega | assumption | rfl | (simp only [List.length_append, List.length_cons, List.length_nil, List.length_map, List.length_range]; omega)) (by first | omega | assumption | rfl | (simp only [List.length_append, List.length_cons, List.length_nil, List.length_map, List.length_range]; omega))) (ev_ixG (enc := sD) [] (ev_var A.toWh 1 rfl (.inl rfl) rfl) (ev_var A.toWh 4 rfl (.inl rfl) rfl) (by first | omega | assumption | rfl | (simp only [List.length_append, List.length_cons, List.length_nil, List.length_map, List.length_range]; omega)) (by first | omega | assumption | rfl | (simp only [List.length_append, List.length_cons, List.length_nil, List.length_map, List.length_range]; omega)))))))).t ((test k j).trans (decide_eq_true q)) (runB_one (run_raise A.toWh tk C.race rfl)))) rfl
            · refine .nx (RunB.clrO 4 (runB_one (run_ifF ((evw_and (evt_neI (ev_var A.toWh 4 rfl (.inl rfl) rfl) (ev_var A.toWh 3 rfl (.inl rfl) rfl)) (fun hc1 => (evw_and1 (evt_inT (ev_ixG (enc := sD) [] (ev_var A.toWh 1 rfl (.inl rfl) rfl) (ev_var A.toWh 3 rfl (.inl rfl) rfl) (by first | omega | assumption | rfl | (simp only [List.length_append, List.length_cons, List.length_nil, List.length_map, List.length_range]; omega)) (by first | omega | assumption | rfl | (simp only [List.length_append, List.length_cons, List.length_nil, List.length_map, List.length_range]; omega))) (ev_ixG (enc := sD) [] (ev_var A.toWh 1 rfl (.inl rfl) rfl) (ev_var A.toWh 4 rfl (.inl rfl) rfl) (by first | omega | assumption | rfl | (simp only [List.length_append, List.length_cons, List.length_nil, List.length_map, List.length_range]; omega)) (by first | omega | assumption | rfl | (simp only [List.length_append, List.length_cons, List.length_nil, List.length_map, List.length_range]; omega)))))))).t ((test k j).trans (decide_eq_false q)) runB_nil))) (ih (fun j hj => h j (List.mem_cons_of_mem _ hj)) ?_)
              obtain ⟨v, hv, hq⟩ := hx
              rcases List.mem_cons.mp hv with rfl | hv
              · exact absurd hq q
              · exact ⟨v, hv, hq⟩
        have loop3N : ∀ (k : Nat), k < ws.length → ∀ l : List Nat, (∀ j ∈ l, j < ws.length) → (¬ ∃ j ∈ l, j ≠ k ∧ ws.getD k [] <:+: ws.getD j []) → ForR X W 4 (bodyOf (stAt (bodyOf (stAt (defBody (topS 21)) 3)) 0)) (l.map fun (j : Nat) => iD j) [.va (nums die), .va (txts ws), .no, .va (iD k), .no] (.nx [.va (nums die), .va (txts ws), .no, .va (iD k), .no]) := by
          intro k hk l
          induction l with
          | nil => intro _ _; exact .nil
          | cons j l ih =>
            intro h hx
            have hj := h j List.mem_cons_self
            exact .nx (RunB.clrO 4 (runB_one (run_ifF ((evw_and (evt_neI (ev_var A.toWh 4 rfl (.inl rfl) rfl) (ev_var A.toWh 3 rfl (.inl rfl) rfl)) (fun hc1 => (evw_and1 (evt_inT (ev_ixG (enc := sD) [] (ev_var A.toWh 1 rfl (.inl rfl) rfl) (ev_var A.toWh 3 rfl (.inl rfl) rfl) (by first | omega | assumption | rfl | (simp only [List.length_append, List.length_cons, List.length_nil, List.length_map, List.length_range]; omega)) (by first | omega | assumption | rfl | (simp only [List.length_append, List.length_cons, List.length_nil, List.length_map, List.length_range]; omega))) (ev_ixG (enc := sD) [] (ev_var A.toWh 1 rfl (.inl rfl) rfl) (ev_var A.toWh 4 rfl (.inl rfl) rfl) (by first | omega | assumption | rfl | (simp only [List.length_append, List.length_cons, List.length_nil, List.length_map, List.length_range]; omega)) (by first | omega | assumption | rfl | (simp only [List.length_append, List.length_cons, List.length_nil, List.length_map, List.length_range]; omega)))))))).t ((test k j).trans (decide_eq_false fun q => hx ⟨j, List.mem_cons_self, q⟩)) runB_nil))) (ih (fun j hj => h j (List.mem_cons_of_mem _ hj)) fun ⟨v, hv, hq⟩ => hx ⟨v, List.mem_cons_of_mem _ hv, hq⟩)
        have loop2 : ∀ l : List Nat, (∀ j ∈ l, j < ws.length) → (∃ k ∈ l, ∃ j ∈ List.range ws.length, j ≠ k ∧ ws.getD k [] <:+: ws.getD j []) → ForR X W 3 (bodyOf (stAt (defBody (topS 21)) 3)) (l.map fun (j : Nat) => iD j) [.va (nums die), .va (txts ws), .no, .no, .no] (.ex (.ref E.race)) := by
          intro l
          induction l with
          | nil => rintro _ ⟨_, h, _⟩; exact nomatch h
          | cons k l ih =>
            intro h hx
            have hk := h k List.mem_cons_self
            by_cases q : ∃ j ∈ List.range ws.length, j ≠ k ∧ ws.getD k [] <:+: ws.getD j []
            · refine .rt (runB_one (show Run X W _ _ (.ex (.ref E.race)) from ?_)) rfl
              refine (run_for A 4 rfl (.inl rfl) (evi_rangeN A.toWh (by rfl) B.range (ev_lenM A.toWh (by rfl) B.len (ev_var A.toWh 1 rfl (.inl rfl) rfl)) (by first | omega | rfl | assumption) (by first | omega | assumption | rfl | (simp only [List.length_append, List.length_cons, List.length_nil, List.length_map, List.length_range]; omega))) ?_)
              exact loop3X k hk (List.range ws.length) (fun j hj => List.mem_range.mp hj) q
            · refine .nx (RunB.clrO 3 (runB_one (show Run X W _ _ (.nx [.va (nums die), .va (txts ws), .no, .va (iD k), .no]) from ?_))) (ih (fun j hj => h j (List.mem_cons_of_mem _ hj)) ?_)
              · refine (run_for A 4 rfl (.inl rfl) (evi_rangeN A.toWh (by rfl) B.range (ev_lenM A.toWh (by rfl) B.len (ev_var A.toWh 1 rfl (.inl rfl) rfl)) (by first | omega | rfl | assumption) (by first | omega | assumption | rfl | (simp only [List.length_append, List.length_cons, List.length_nil, List.length_map, List.length_range]; omega))) ?_)
                exact loop3N k hk (List.range ws.length) (fun j hj => List.mem_range.mp hj) q
              · obtain ⟨v, hv, hq⟩ := hx
                rcases List.mem_cons.mp hv with rfl | hv
                · exact absurd hq q
                · exact ⟨v, hv, hq⟩
        refine ⟨_, .inl rfl, first _ (runB_cons (run_ifF (evt_not (evt_lele ev_int (ev_lenM A.toWh (by rfl) B.len (ev_var A.toWh 1 rfl (.inl rfl) rfl)) ev_int)) ?_ runB_nil) (runB_one (show Run X W _ _ (.ex (.ref E.race)) from ?_)))⟩
        · rw [decide_eq_true (by omega), decide_eq_true (by omega)]; rfl
        · refine (run_for A 3 rfl (.inl rfl) (evi_rangeN A.toWh (by rfl) B.range (ev_lenM A.toWh (by rfl) B.len (ev_var A.toWh 1 rfl (.inl rfl) rfl)) (by first | omega | rfl | assumption) (by first | omega | assumption | rfl | (simp only [List.length_append, List.length_cons, List.length_nil, List.length_map, List.length_range]; omega))) ?_)
          obtain ⟨k, hk, j, hj, q⟩ := clash2
          exact loop2 (List.range ws.length) (fun j hj => List.mem_range.mp hj) ⟨k, List.mem_range.mpr hk, j, List.mem_range.mpr hj, q⟩
      · refine ⟨_, .inl rfl, first _ (runB_X (run_ifT (evt_not (evt_lele ev_int (ev_lenM A.toWh (by rfl) B.len (ev_var A.toWh 1 rfl (.inl rfl) rfl)) ev_int)) ?_ (runB_one (run_raise A.toWh tk C.race rfl))))⟩
        rw [← Bool.decide_and, decide_eq_false (by omega)]; rfl
/-! ### ask_row -/
theorem sc_ask_row : FnScope ["die", "row"] ["die", "row"] (defScope (topS 22)) := ⟨rfl, rfl, rfl, by decide +kernel, rfl, by decide +kernel, by decide +kernel⟩
theorem ok_ask_row (Df : DfG K mg "ask_row" (topS 22) ["die", "row"]) (B : Bts mg)
    (C : Clss K mg E)
    (c_is_thrown : FnG P w K mg base 1 "is_thrown" ["die", "text"] S_is_thrown) : FnG P w K mg base 2 "ask_row" ["die", "row"] (fun ds r => S_ask_row ds r ∨ XX_ask_row E ds r) := by
  refine fn_D Df sc_ask_row (fun ds r h => h.elim (fun h => S_ask_row_len h) (fun h => XX_ask_row_len h)) fun X W hP hw hK hm hb A tk ds r hS => ?_
  subst hP hw hK hm hb
  have hsz := szL
  rcases hS with hS | hS
  · obtain ⟨die, text, rfl, ok, rfl⟩ := hS
    have hl := ok.1
    refine ⟨_, .inr ⟨_, rfl, rfl⟩, runB_one (run_ifF ((evw_or (evt_gt (ev_lenT' A.toWh (by rfl) B.len (ev_var A.toWh 1 rfl (.inl rfl) rfl) (by first | omega | assumption | rfl | (simp only [List.length_append, List.length_cons, List.length_nil, List.length_map, List.length_range]; omega))) ev_int) (fun hc1 => (evw_or1 (evt_not (evt_val (ev_call A.toWh c_is_thrown (by decide) (by rfl) (eva_cons (ev_var A.toWh 0 rfl (.inl rfl) rfl) (eva_cons (ev_var A.toWh 1 rfl (.inl rfl) rfl) eva_nil)) ⟨_, _, rfl, rfl⟩))))))).t ?_ runB_nil)⟩
    rw [decide_eq_false (by omega), thrownB_ok ok.2]; rfl
  · obtain ⟨die, text, rfl, hl, bad, rfl⟩ := hS
    refine ⟨_, .inl rfl, runB_X (run_ifT ((evw_or (evt_gt (ev_lenT' A.toWh (by rfl) B.len (ev_var A.toWh 1 rfl (.inl rfl) rfl) (by first | omega | assumption | rfl | (simp only [List.length_append, List.length_cons, List.length_nil, List.length_map, List.length_range]; omega))) ev_int) (fun hc1 => (evw_or1 (evt_not (evt_val (ev_call A.toWh c_is_thrown (by decide) (by rfl) (eva_cons (ev_var A.toWh 0 rfl (.inl rfl) rfl) (eva_cons (ev_var A.toWh 1 rfl (.inl rfl) rfl) eva_nil)) ⟨_, _, rfl, rfl⟩))))))).t ?_ (runB_one (run_raise A.toWh tk C.row rfl)))⟩
    by_cases h : (60 : Int) < text.length
    · rw [decide_eq_true h]; rfl
    · cases ht : thrownB die.length text with
      | true => exact absurd ⟨by omega, thrownB_iff.mp ht⟩ bad
      | false => rw [Bool.not_false, Bool.or_true]
/-! ### overlaps_of -/
theorem sc_overlaps_of : FnScope ["one", "other", "most", "k"] ["one", "other"] (defScope (topS 23)) := ⟨rfl, rfl, rfl, by decide +kernel, rfl, by decide +kernel, by decide +kernel⟩
theorem ok_overlaps_of (Df : DfG K mg "overlaps_of" (topS 23) ["one", "other"]) (B : Bts mg)
    (C : Clss K mg E) : FnG P w K mg base 1 "overlaps_of" ["one", "other"] S_overlaps_of := by
  refine fn_D Df sc_overlaps_of (fun ds r h => S_overlaps_of_len h) fun X W hP hw hK hm hb A tk ds r hS => ?_
  subst hP hw hK hm hb
  have hsz := szL
  obtain ⟨one, other, rfl, h1, h2, rfl⟩ := hS
  exact ⟨_, .inl rfl, runB_cons (run_set A 2 rfl (.inl rfl) (ev_min2 A.toWh (by rfl) B.min (ev_lenT' A.toWh (by rfl) B.len (ev_var A.toWh 0 rfl (.inr (.inl rfl)) rfl) (by first | omega | assumption | rfl | (simp only [List.length_append, List.length_cons, List.length_nil, List.length_map, List.length_range]; omega))) (ev_lenT' A.toWh (by rfl) B.len (ev_var A.toWh 1 rfl (.inr (.inl rfl)) rfl) (by first | omega | assumption | rfl | (simp only [List.length_append, List.length_cons, List.length_nil, List.length_map, List.length_range]; omega))))) (runB_one (run_retN (evn_lc iD 3 A.toWh ⟨rfl, by decide +kernel, rfl, (.inl rfl), Nat.le_of_ble_eq_true rfl⟩ (evi_range2 A.toWh (by rfl) B.range ev_int (ev_add (ev_var A.toWh 2 rfl (.inl rfl) rfl) ev_int) ⟨(by first | omega | assumption | rfl | (simp only [List.length_append, List.length_cons, List.length_nil, List.length_map, List.length_range]; omega)), (by first | omega | assumption | rfl | (simp only [List.length_append, List.length_cons, List.length_nil, List.length_map, List.length_range]; omega)), (by first | omega | assumption | rfl | (simp only [List.length_append, List.length_cons, List.length_nil, List.length_map, List.length_range]; omega)), (by first | omega | assumption | rfl | (simp only [List.length_append, List.length_cons, List.length_nil, List.length_map, List.length_range]; omega))⟩) (fun a1 ha2 X3 hX4 => evts_one (evt_eqT (ev_slT (ev_var (A.toWh.blk hX4) 0 rfl (.inr (.inl rfl)) rfl) (evo_some (ev_sub (ev_lenT' (A.toWh.blk hX4) (by rfl) (B.blk hX4).len (ev_var (A.toWh.blk hX4) 0 rfl (.inr (.inl rfl)) rfl) (by first | omega | assumption | rfl | (simp only [List.length_append, List.length_cons, List.length_nil, List.length_map, List.length_range]; omega))) (ev_var (A.toWh.blk hX4) 3 rfl (.inl rfl) rfl))) evo_none (by first | omega | assumption | rfl | (simp only [List.length_append, List.length_cons, List.length_nil, List.length_map, List.length_range]; omega))) (ev_slT (ev_var (A.toWh.blk hX4) 1 rfl (.inr (.inl rfl)) rfl) evo_none (evo_some (ev_var (A.toWh.blk hX4) 3 rfl (.inl rfl) rfl)) (by first | omega | assumption | rfl | (simp only [List.length_append, List.length_cons, List.length_nil, List.length_map, List.length_range]; omega))))) (fun a1 ha2 ht5 X3 hX4 => (ev_var (A.toWh.blk hX4) 3 rfl (.inl rfl) rfl)) (fun _ => rfl) (by first | omega | assumption | rfl | (simp only [List.length_append, List.length_cons, List.length_nil, List.length_map, List.length_range]; omega)))))⟩
/-! ### beginnings_of -/
theorem sc_beginnings_of : FnScope ["words", "met", "word", "k", "pair", "text"] ["words"] (defScope (topS 24)) := ⟨rfl, rfl, rfl, by decide +kernel, rfl, by decide +kernel, by decide +kernel⟩
theorem ok_beginnings_of (Df : DfG K mg "beginnings_of" (topS 24) ["words"]) (B : Bts mg)
    (C : Clss K mg E) : FnG P w K mg base 1 "beginnings_of" ["words"] S_beginnings_of := by
  refine fn_D Df sc_beginnings_of (fun ds r h => S_beginnings_of_len h) fun X W hP hw hK hm hb A tk ds r hS => ?_
  subst hP hw hK hm hb
  have hsz := szL
  obtain ⟨ws, rfl, h4, h6, rfl⟩ := hS
  have inner : ∀ (w : List Nat), w.length ≤ 6 → ∀ (l : List Nat) (kv : List (List Nat × Bool)), kv.length + l.length ≤ 1000 → ForR X W 3 (bodyOf (stAt (bodyOf (stAt (defBody (topS 24)) 1)) 0)) (l.map fun (k : Nat) => iD k) [.va (txts ws), .od (dkv bD kv), .va (sD w), .no, .no, .no] (.nx [.va (txts ws), .od (dkv bD (l.foldl (metStep w) kv)), .va (sD w), .no, .no, .no]) := by
    intro w hw l
    induction l with
    | nil => intro kv _; exact .nil
    | cons k l ih =>
      intro kv h
      rw [List.length_cons] at h
      have h2 := putL_len kv (cutL w none (some (k : Int))) true
      refine .nx (RunB.clrO 3 (runB_one (run_dputM (enc := bD) A 1 rfl (.inl rfl) rfl (ev_slT (ev_var A.toWh 2 rfl (.inl rfl) rfl) evo_none (evo_some (ev_var A.toWh 3 rfl (.inl rfl) rfl)) (by first | omega | assumption | rfl | (simp only [List.length_append, List.length_cons, List.length_nil, List.length_map, List.length_range]; omega))) ev_bl rfl (by first | omega | assumption | rfl | (simp only [List.length_append, List.length_cons, List.length_nil, List.length_map, List.length_range]; omega))))) (ih _ ?_)
      omega
  have loop : ∀ (l : List (List Nat)), (∀ w ∈ l, w.length ≤ 6) → ∀ (kv : List (List Nat × Bool)), kv.length + 7 * l.length ≤ 900 → ForR X W 2 (bodyOf (stAt (defBody (topS 24)) 1)) (l.map sD) [.va (txts ws), .od (dkv bD kv), .no, .no, .no, .no] (.nx [.va (txts ws), .od (dkv bD (l.foldl metWord kv)), .no, .no, .no, .no]) := by
    intro l
    induction l with
    | nil => intro _ kv _; exact .nil
    | cons w l ih =>
      intro hl kv h
      rw [List.length_cons] at h
      have hw := hl w List.mem_cons_self
      have h2 := metWord_len (kv := kv) hw
      refine .nx (RunB.clrO 2 (runB_one (show Run X W _ _ (.nx [.va (txts ws), .od (dkv bD (metWord kv w)), .va (sD w), .no, .no, .no]) from ?_))) (ih (fun w hw => hl w (List.mem_cons_of_mem _ hw)) _ ?_)
      · refine (run_for A 3 rfl (.inl rfl) (evi_rangeN A.toWh (by rfl) B.range (ev_add (ev_lenT' A.toWh (by rfl) B.len (ev_var A.toWh 2 rfl (.inl rfl) rfl) (by first | omega | assumption | rfl | (simp only [List.length_append, List.length_cons, List.length_nil, List.length_map, List.length_range]; omega))) ev_int) (by first | omega | rfl | assumption) (by first | omega | assumption | rfl | (simp only [List.length_append, List.length_cons, List.length_nil, List.length_map, List.length_range]; omega))) ?_)
        exact inner w hw (List.range ((w.length : Int) + 1).toNat) kv (by rw [List.length_range]; omega)
      · omega
  refine ⟨_, .inl rfl, runB_cons (run_setM A 1 rfl (.inl rfl) evm_nil) (runB_to [.va (txts ws), .od (dkv bD (metL ws)), .no, .no, .no, .no] ?_ (RunB.frz (runB_one ?_) (frzAll_frz _)))⟩
  · refine (run_for A 2 rfl (.inl rfl) (evi_list (ev_var A.toWh 0 rfl (.inl rfl) rfl)) ?_)
    exact loop ws h6 [] (by rw [List.length_nil]; omega)
  · have ml := met_len h6 []
    have ml : (metL ws).length ≤ [].length + 7 * ws.length := ml
    rw [List.length_nil] at ml
    have kl : ∀ t ∈ (metL ws).map (·.1), t.length ≤ 6 := fun t ht => by
      obtain ⟨w, hw, hp⟩ := ((metL_keys ws).1 t).mp ht
      exact Nat.le_trans hp.length_le (h6 w hw)
    exact (run_retN (evn_lc0 sD 4 A.toWh ⟨rfl, by decide +kernel, rfl, (.inl rfl), Nat.le_of_ble_eq_true rfl⟩ (evi_list ((evn_sortedP A.toWh (by rfl) B.sorted ((evn_lc0 tD 5 A.toWh ⟨rfl, by decide +kernel, rfl, (.inl rfl), Nat.le_of_ble_eq_true rfl⟩ (evi_list ((evn_listM A.toWh (by rfl) B.list (ev_var A.toWh 1 rfl (.inl rfl) rfl))).ev) (fun a1 ha2 X3 hX4 => (ev_tpair (ev_lenT' (A.toWh.blk hX4) (by rfl) (B.blk hX4).len (ev_var (A.toWh.blk hX4) 5 rfl (.inl rfl) rfl) (by first | omega | assumption | (rw [List.length_mergeSort, List.length_map, List.length_map]; omega) | (rw [List.length_map, List.length_map]; omega) | (rw [List.length_map]; omega) | exact Nat.le_trans (kl _ (by assumption)) (by omega))) (ev_var (A.toWh.blk hX4) 5 rfl (.inl rfl) rfl))) (fun _ => rfl) (by first | omega | assumption | (rw [List.length_mergeSort, List.length_map, List.length_map]; omega) | (rw [List.length_map, List.length_map]; omega) | (rw [List.length_map]; omega) | exact Nat.le_trans (kl _ (by assumption)) (by omega)))).ev (by first | omega | assumption | (rw [List.length_mergeSort, List.length_map, List.length_map]; omega) | (rw [List.length_map, List.length_map]; omega) | (rw [List.length_map]; omega) | exact Nat.le_trans (kl _ (by assumption)) (by omega)))).ev) (fun a6 ha7 X8 hX9 => (ev_tsnd (ev_var (A.toWh.blk hX9) 4 rfl (.inl rfl) rfl) ev_int)) (fun _ => rfl) (by first | omega | assumption | (rw [List.length_mergeSort, List.length_map, List.length_map]; omega) | (rw [List.length_map, List.length_map]; omega) | (rw [List.length_map]; omega) | exact Nat.le_trans (kl _ (by assumption)) (by omega))))
/-! ### longest_end -/
theorem sc_longest_end : FnScope ["known", "text", "k"] ["known", "text"] (defScope (topS 25)) := ⟨rfl, rfl, rfl, by decide +kernel, rfl, by decide +kernel, by decide +kernel⟩
theorem ok_longest_end (Df : DfG K mg "longest_end" (topS 25) ["known", "text"]) (B : Bts mg)
    (C : Clss K mg E) : FnG P w K mg base 1 "longest_end" ["known", "text"] S_longest_end := by
  refine fn_D Df sc_longest_end (fun ds r h => S_longest_end_len h) fun X W hP hw hK hm hb A tk ds r hS => ?_
  subst hP hw hK hm hb
  have hsz := szL
  obtain ⟨kn, t, rfl, h1, rfl⟩ := hS
  have loop : ∀ (l : List Nat), ForR X W 2 (bodyOf (stAt (defBody (topS 25)) 0)) (l.map fun (k : Nat) => iD k) [.va (txts kn), .va (sD t), .no] (match l.find? (longT kn t) with | none => .nx [.va (txts kn), .va (sD t), .no] | some k => .rt (sD (cutL t (some (k : Int)) none))) := by
    intro l
    induction l with
    | nil => exact .nil
    | cons k l ih =>
      cases hc : longT kn t k with
      | true =>
        rw [List.find?_cons_of_pos hc]
        exact .rt (runB_one (run_ifT (evt_inL (ev_slT (ev_var A.toWh 1 rfl (.inl rfl) rfl) (evo_some (ev_var A.toWh 2 rfl (.inl rfl) rfl)) evo_none (by first | omega | assumption | rfl | (simp only [List.length_append, List.length_cons, List.length_nil, List.length_map, List.length_range]; omega))) (ev_var A.toWh 0 rfl (.inl rfl) rfl)) hc (runB_one (run_ret (ev_slT (ev_var A.toWh 1 rfl (.inl rfl) rfl) (evo_some (ev_var A.toWh 2 rfl (.inl rfl) rfl)) evo_none (by first | omega | assumption | rfl | (simp only [List.length_append, List.length_cons, List.length_nil, List.length_map, List.length_range]; omega))))))) rfl
      | false =>
        rw [List.find?_cons_of_neg (by rw [hc]; decide)]
        exact .nx (RunB.clrO 2 (runB_one (run_ifF (evt_inL (ev_slT (ev_var A.toWh 1 rfl (.inl rfl) rfl) (evo_some (ev_var A.toWh 2 rfl (.inl rfl) rfl)) evo_none (by first | omega | assumption | rfl | (simp only [List.length_append, List.length_cons, List.length_nil, List.length_map, List.length_range]; omega))) (ev_var A.toWh 0 rfl (.inl rfl) rfl)) hc runB_nil))) ih
  have L := loop (List.range ((t.length : Int) + 1).toNat)
  cases hf : (List.range ((t.length : Int) + 1).toNat).find? (longT kn t) with
  | none =>
    have e : longestEnd kn t = [] := by unfold longestEnd; rw [hf]
    rw [hf] at L
    rw [e]
    refine ⟨_, .inl rfl, runB_to [.va (txts kn), .va (sD t), .no] ?_ (runB_one (run_ret (ev_strC [] (by rfl))))⟩
    refine (run_for A 2 rfl (.inl rfl) (evi_rangeN A.toWh (by rfl) B.range (ev_add (ev_lenT' A.toWh (by rfl) B.len (ev_var A.toWh 1 rfl (.inl rfl) rfl) (by first | omega | assumption | rfl | (simp only [List.length_append, List.length_cons, List.length_nil, List.length_map, List.length_range]; omega))) ev_int) (by first | omega | rfl | assumption) (by first | omega | assumption | rfl | (simp only [List.length_append, List.length_cons, List.length_nil, List.length_map, List.length_range]; omega))) ?_)
    exact L
  | some k =>
    have e : longestEnd kn t = cutL t (some (k : Int)) none := by unfold longestEnd; rw [hf]
    rw [hf] at L
    rw [e]
    refine ⟨_, .inl rfl, runB_stop (u := .rt (sD (cutL t (some (k : Int)) none))) ?_ rfl⟩
    refine (run_for A 2 rfl (.inl rfl) (evi_rangeN A.toWh (by rfl) B.range (ev_add (ev_lenT' A.toWh (by rfl) B.len (ev_var A.toWh 1 rfl (.inl rfl) rfl) (by first | omega | assumption | rfl | (simp only [List.length_append, List.length_cons, List.length_nil, List.length_map, List.length_range]; omega))) ev_int) (by first | omega | rfl | assumption) (by first | omega | assumption | rfl | (simp only [List.length_append, List.length_cons, List.length_nil, List.length_map, List.length_range]; omega))) ?_)
    exact L
/-! ### state_by -/
theorem sc_state_by : FnScope ["known", "row", "state", "sign"] ["known", "row"] (defScope (topS 26)) := ⟨rfl, rfl, rfl, by decide +kernel, rfl, by decide +kernel, by decide +kernel⟩
theorem ok_state_by (Df : DfG K mg "state_by" (topS 26) ["known", "row"]) (B : Bts mg)
    (C : Clss K mg E)
    (c_longest_end : FnG P w K mg base 1 "longest_end" ["known", "text"] S_longest_end) : FnG P w K mg base 2 "state_by" ["known", "row"] S_state_by := by
  refine fn_D Df sc_state_by (fun ds r h => S_state_by_len h) fun X W hP hw hK hm hb A tk ds r hS => ?_
  subst hP hw hK hm hb
  have hsz := szL
  obtain ⟨kn, t, rfl, h1, rfl⟩ := hS
  have loop : ∀ (l s : List Nat), s.length + l.length ≤ 900 → ForR X W 3 (bodyOf (stAt (defBody (topS 26)) 1)) (l.map fun c => sD [c]) [.va (txts kn), .va (sD t), .va (sD s), .no] (.nx [.va (txts kn), .va (sD t), .va (sD (l.foldl (fun s c => longestEnd kn (s ++ [c])) s)), .no]) := by
    intro l
    induction l with
    | nil => intro s _; exact .nil
    | cons c l ih =>
      intro s h
      rw [List.length_cons] at h
      have hl := longest_len kn (s ++ [c])
      rw [List.length_append, List.length_singleton] at hl
      exact .nx (RunB.clrO 3 (runB_one (run_set A 2 rfl (.inl rfl) (ev_call A.toWh c_longest_end (by decide) (by rfl) (eva_cons (ev_var A.toWh 0 rfl (.inl rfl) rfl) (eva_cons (ev_addT (ev_var A.toWh 2 rfl (.inl rfl) rfl) (ev_var A.toWh 3 rfl (.inl rfl) rfl) (by first | omega | assumption | rfl | (simp only [List.length_append, List.length_cons, List.length_nil, List.length_map, List.length_range]; omega))) eva_nil)) ⟨_, _, rfl, (by first | omega | assumption | rfl | (simp only [List.length_append, List.length_cons, List.length_nil, List.length_map, List.length_range]; omega)), rfl⟩)))) (ih _ (by omega))
  refine ⟨_, .inl rfl, runB_cons (run_set A 2 rfl (.inl rfl) (ev_strC [] (by rfl))) (runB_to [.va (txts kn), .va (sD t), .va (sD (stateBy kn t)), .no] ?_ (runB_one (run_ret (ev_var A.toWh 2 rfl (.inl rfl) rfl))))⟩
  refine (run_for A 3 rfl (.inl rfl) (evi_strT (ev_var A.toWh 1 rfl (.inl rfl) rfl)) ?_)
  exact loop t [] (by rw [List.length_nil]; omega)
/-! ### state_of -/
theorem sc_state_of : FnScope ["die", "words", "row"] ["die", "words", "row"] (defScope (topS 27)) := ⟨rfl, rfl, rfl, by decide +kernel, rfl, by decide +kernel, by decide +kernel⟩
theorem ok_state_of (Df : DfG K mg "state_of" (topS 27) ["die", "words", "row"]) (B : Bts mg)
    (C : Clss K mg E)
    (c_ask_race : FnG P w K mg base 3 "ask_race" ["die", "words"] (fun ds r => S_ask_race ds r ∨ XX_ask_race E ds r))
    (c_ask_row : FnG P w K mg base 2 "ask_row" ["die", "row"] (fun ds r => S_ask_row ds r ∨ XX_ask_row E ds r))
    (c_state_by : FnG P w K mg base 2 "state_by" ["known", "row"] S_state_by)
    (c_beginnings_of : FnG P w K mg base 1 "beginnings_of" ["words"] S_beginnings_of) : FnG P w K mg base 4 "state_of" ["die", "words", "row"] (fun ds r => S_state_of ds r ∨ XX_state_of E ds r) := by
  refine fn_D Df sc_state_of (fun ds r h => h.elim (fun h => S_state_of_len h) (fun h => XX_state_of_len h)) fun X W hP hw hK hm hb A tk ds r hS => ?_
  subst hP hw hK hm hb
  have hsz := szL
  rcases hS with hS | hS
  · obtain ⟨die, ws, row, rfl, ok, hr, rfl⟩ := hS
    have o4 := ok.four
    have o6 := ok.six
    have r6 := hr.1
    exact ⟨_, .inl rfl, runB_cons (run_expr (ev_call A.toWh c_ask_race (by decide) (by rfl) (eva_cons (ev_var A.toWh 0 rfl (.inl rfl) rfl) (eva_cons (ev_var A.toWh 1 rfl (.inl rfl) rfl) eva_nil)) (.inl ⟨_, _, rfl, (by assumption), rfl⟩))) (runB_cons (run_expr (ev_call A.toWh c_ask_row (by decide) (by rfl) (eva_cons (ev_var A.toWh 0 rfl (.inl rfl) rfl) (eva_cons (ev_var A.toWh 2 rfl (.inl rfl) rfl) eva_nil)) (.inl ⟨_, _, rfl, (by assumption), rfl⟩))) (runB_one (run_ret (ev_call A.toWh c_state_by (by decide) (by rfl) (eva_cons ((evn_call A.toWh c_beginnings_of (by decide) (by rfl) (eva_cons (ev_var A.toWh 1 rfl (.inl rfl) rfl) eva_nil) ⟨_, rfl, (by first | omega | assumption | rfl | (simp only [List.length_append, List.length_cons, List.length_nil, List.length_map, List.length_range]; omega)), (by assumption), rfl⟩)).ev (eva_cons (ev_var A.toWh 2 rfl (.inl rfl) rfl) eva_nil)) ⟨_, _, rfl, (by first | omega | assumption | rfl | (simp only [List.length_append, List.length_cons, List.length_nil, List.length_map, List.length_range]; omega)), rfl⟩))))⟩
  · obtain ⟨die, ws, row, c, rfl, sz, sr, bad, rfl⟩ := hS
    rcases bad with hb | ⟨ok, hb, rfl⟩
    · exact ⟨_, .inl rfl, runB_X (run_exprX (evx_call A.toWh tk c_ask_race (by decide) (by rfl) (eva_cons (ev_var A.toWh 0 rfl (.inl rfl) rfl) (eva_cons (ev_var A.toWh 1 rfl (.inl rfl) rfl) eva_nil)) (.inr ⟨_, _, _, rfl, (by assumption), (by assumption), rfl⟩)))⟩
    · exact ⟨_, .inl rfl, runB_cons (run_expr (ev_call A.toWh c_ask_race (by decide) (by rfl) (eva_cons (ev_var A.toWh 0 rfl (.inl rfl) rfl) (eva_cons (ev_var A.toWh 1 rfl (.inl rfl) rfl) eva_nil)) (.inl ⟨_, _, rfl, (by assumption), rfl⟩))) (runB_X (run_exprX (evx_call A.toWh tk c_ask_row (by decide) (by rfl) (eva_cons (ev_var A.toWh 0 rfl (.inl rfl) rfl) (eva_cons (ev_var A.toWh 2 rfl (.inl rfl) rfl) eva_nil)) (.inr ⟨_, _, rfl, (by assumption), (by assumption), rfl⟩))))⟩
/-! ### first_end -/
theorem sc_first_end : FnScope ["words", "row", "many", "k"] ["words", "row"] (defScope (topS 28)) := ⟨rfl, rfl, rfl, by decide +kernel, rfl, by decide +kernel, by decide +kernel⟩
theorem ok_first_end (Df : DfG K mg "first_end" (topS 28) ["words", "row"]) (B : Bts mg)
    (C : Clss K mg E) : FnG P w K mg base 1 "first_end" ["words", "row"] S_first_end := by
  refine fn_D Df sc_first_end (fun ds r h => S_first_end_len h) fun X W hP hw hK hm hb A tk ds r hS => ?_
  subst hP hw hK hm hb
  have hsz := szL
  obtain ⟨ws, row, rfl, h1, h2, rfl⟩ := hS
  have inner : ∀ (m : Nat) (l : List Nat), (∀ k ∈ l, k < ws.length) → ForR X W 3 (bodyOf (stAt (bodyOf (stAt (defBody (topS 28)) 0)) 0)) (l.map fun (k : Nat) => iD k) [.va (txts ws), .va (sD row), .va (iD (1 + (m : Int))), .no] (match l.find? (endT ws (cutL row none (some (1 + (m : Int))))) with | none => .nx [.va (txts ws), .va (sD row), .va (iD (1 + (m : Int))), .no] | some k => .rt (pD (1 + (m : Int), (k : Int)))) := by
    intro m l
    induction l with
    | nil => intro _; exact .nil
    | cons k l ih =>
      intro h
      have hk := h k List.mem_cons_self
      cases hc : endT ws (cutL row none (some (1 + (m : Int)))) k with
      | true =>
        rw [List.find?_cons_of_pos hc]
        exact .rt (runB_one (run_ifT (evt_val (ev_ends (ev_slT (ev_var A.toWh 1 rfl (.inl rfl) rfl) evo_none (evo_some (ev_var A.toWh 2 rfl (.inl rfl) rfl)) (by first | omega | assumption | rfl | (simp only [List.length_append, List.length_cons, List.length_nil, List.length_map, List.length_range]; omega))) (ev_ixG (enc := sD) [] (ev_var A.toWh 0 rfl (.inl rfl) rfl) (ev_var A.toWh 3 rfl (.inl rfl) rfl) (by first | omega | assumption | rfl | (simp only [List.length_append, List.length_cons, List.length_nil, List.length_map, List.length_range]; omega)) (by first | omega | assumption | rfl | (simp only [List.length_append, List.length_cons, List.length_nil, List.length_map, List.length_range]; omega))))) hc (runB_one (run_ret (ev_pair (ev_var A.toWh 2 rfl (.inl rfl) rfl) (ev_var A.toWh 3 rfl (.inl rfl) rfl)))))) rfl
      | false =>
        rw [List.find?_cons_of_neg (by rw [hc]; decide)]
        exact .nx (RunB.clrO 3 (runB_one (run_ifF (evt_val (ev_ends (ev_slT (ev_var A.toWh 1 rfl (.inl rfl) rfl) evo_none (evo_some (ev_var A.toWh 2 rfl (.inl rfl) rfl)) (by first | omega | assumption | rfl | (simp only [List.length_append, List.length_cons, List.length_nil, List.length_map, List.length_range]; omega))) (ev_ixG (enc := sD) [] (ev_var A.toWh 0 rfl (.inl rfl) rfl) (ev_var A.toWh 3 rfl (.inl rfl) rfl) (by first | omega | assumption | rfl | (simp only [List.length_append, List.length_cons, List.length_nil, List.length_map, List.length_range]; omega)) (by first | omega | assumption | rfl | (simp only [List.length_append, List.length_cons, List.length_nil, List.length_map, List.length_range]; omega))))) hc runB_nil))) (ih fun k hk => h k (List.mem_cons_of_mem _ hk))
  have loop : ∀ (l : List Nat), ForR X W 2 (bodyOf (stAt (defBody (topS 28)) 0)) (l.map fun (m : Nat) => iD (1 + (m : Int))) [.va (txts ws), .va (sD row), .no, .no] (match l.findSome? (firstStep ws row) with | none => .nx [.va (txts ws), .va (sD row), .no, .no] | some p => .rt (pD p)) := by
    intro l
    induction l with
    | nil => exact .nil
    | cons m l ih =>
      have I := inner m (List.range ws.length) fun k hk => List.mem_range.mp hk
      cases hc : endAt ws (cutL row none (some (1 + (m : Int)))) with
      | none =>
        have e : firstStep ws row m = none := by unfold firstStep; rw [hc]; rfl
        have hc' : (List.range ws.length).find? (endT ws (cutL row none (some (1 + (m : Int))))) = none := hc
        rw [List.findSome?_cons, e]
        rw [hc'] at I
        refine .nx (RunB.clrO 2 (runB_one (show Run X W _ _ (.nx [.va (txts ws), .va (sD row), .va (iD (1 + (m : Int))), .no]) from ?_))) ih
        refine (run_for A 3 rfl (.inl rfl) (evi_rangeN A.toWh (by rfl) B.range (ev_lenM A.toWh (by rfl) B.len (ev_var A.toWh 0 rfl (.inl rfl) rfl)) (by first | omega | rfl | assumption) (by first | omega | assumption | rfl | (simp only [List.length_append, List.length_cons, List.length_nil, List.length_map, List.length_range]; omega))) ?_)
        exact I
      | some k =>
        have e : firstStep ws row m = some (1 + (m : Int), (k : Int)) := by unfold firstStep; rw [hc]; rfl
        have hc' : (List.range ws.length).find? (endT ws (cutL row none (some (1 + (m : Int))))) = some k := hc
        rw [List.findSome?_cons, e]
        rw [hc'] at I
        refine .rt (runB_one (show Run X W _ _ (.rt (pD (1 + (m : Int), (k : Int)))) from ?_)) rfl
        refine (run_for A 3 rfl (.inl rfl) (evi_rangeN A.toWh (by rfl) B.range (ev_lenM A.toWh (by rfl) B.len (ev_var A.toWh 0 rfl (.inl rfl) rfl)) (by first | omega | rfl | assumption) (by first | omega | assumption | rfl | (simp only [List.length_append, List.length_cons, List.length_nil, List.length_map, List.length_range]; omega))) ?_)
        exact I
  have L := loop (List.range ((row.length : Int) + 1 - 1).toNat)
  cases hf : firstEnd ws row with
  | none =>
    have hf' : (List.range ((row.length : Int) + 1 - 1).toNat).findSome? (firstStep ws row) = none := hf
    rw [hf'] at L
    refine ⟨_, .inl rfl, runB_to [.va (txts ws), .va (sD row), .no, .no] ?_ (runB_one (run_ret ev_non))⟩
    refine (run_for A 2 rfl (.inl rfl) (evi_range2 A.toWh (by rfl) B.range ev_int (ev_add (ev_lenT' A.toWh (by rfl) B.len (ev_var A.toWh 1 rfl (.inl rfl) rfl) (by first | omega | assumption | rfl | (simp only [List.length_append, List.length_cons, List.length_nil, List.length_map, List.length_range]; omega))) ev_int) ⟨(by first | omega | assumption | rfl | (simp only [List.length_append, List.length_cons, List.length_nil, List.length_map, List.length_range]; omega)), (by first | omega | assumption | rfl | (simp only [List.length_append, List.length_cons, List.length_nil, List.length_map, List.length_range]; omega)), (by first | omega | assumption | rfl | (simp only [List.length_append, List.length_cons, List.length_nil, List.length_map, List.length_range]; omega)), (by first | omega | assumption | rfl | (simp only [List.length_append, List.length_cons, List.length_nil, List.length_map, List.length_range]; omega))⟩) ?_)
    exact L
  | some p =>
    have hf' : (List.range ((row.length : Int) + 1 - 1).toNat).findSome? (firstStep ws row) = some p := hf
    rw [hf'] at L
    refine ⟨_, .inl rfl, runB_stop (u := .rt (pD p)) ?_ rfl⟩
    refine (run_for A 2 rfl (.inl rfl) (evi_range2 A.toWh (by rfl) B.range ev_int (ev_add (ev_lenT' A.toWh (by rfl) B.len (ev_var A.toWh 1 rfl (.inl rfl) rfl) (by first | omega | assumption | rfl | (simp only [List.length_append, List.length_cons, List.length_nil, List.length_map, List.length_range]; omega))) ev_int) ⟨(by first | omega | assumption | rfl | (simp only [List.length_append, List.length_cons, List.length_nil, List.length_map, List.length_range]; omega)), (by first | omega | assumption | rfl | (simp only [List.length_append, List.length_cons, List.length_nil, List.length_map, List.length_range]; omega)), (by first | omega | assumption | rfl | (simp only [List.length_append, List.length_cons, List.length_nil, List.length_map, List.length_range]; omega)), (by first | omega | assumption | rfl | (simp only [List.length_append, List.length_cons, List.length_nil, List.length_map, List.length_range]; omega))⟩) ?_)
    exact L
/-! ### ended -/
theorem sc_ended : FnScope ["die", "words", "row"] ["die", "words", "row"] (defScope (topS 29)) := ⟨rfl, rfl, rfl, by decide +kernel, rfl, by decide +kernel, by decide +kernel⟩
theorem ok_ended (Df : DfG K mg "ended" (topS 29) ["die", "words", "row"]) (B : Bts mg)
    (C : Clss K mg E)
    (c_ask_race : FnG P w K mg base 3 "ask_race" ["die", "words"] (fun ds r => S_ask_race ds r ∨ XX_ask_race E ds r))
    (c_ask_row : FnG P w K mg base 2 "ask_row" ["die", "row"] (fun ds r => S_ask_row ds r ∨ XX_ask_row E ds r))
    (c_first_end : FnG P w K mg base 1 "first_end" ["words", "row"] S_first_end) : FnG P w K mg base 4 "ended" ["die", "words", "row"] (fun ds r => S_ended ds r ∨ XX_ended E ds r) := by
  refine fn_D Df sc_ended (fun ds r h => h.elim (fun h => S_ended_len h) (fun h => XX_ended_len h)) fun X W hP hw hK hm hb A tk ds r hS => ?_
  subst hP hw hK hm hb
  have hsz := szL
  rcases hS with hS | hS
  · obtain ⟨die, ws, row, rfl, ok, hr, rfl⟩ := hS
    have o4 := ok.four
    have o6 := hr.1
    exact ⟨_, .inl rfl, runB_cons (run_expr (ev_call A.toWh c_ask_race (by decide) (by rfl) (eva_cons (ev_var A.toWh 0 rfl (.inl rfl) rfl) (eva_cons (ev_var A.toWh 1 rfl (.inl rfl) rfl) eva_nil)) (.inl ⟨_, _, rfl, (by assumption), rfl⟩))) (runB_cons (run_expr (ev_call A.toWh c_ask_row (by decide) (by rfl) (eva_cons (ev_var A.toWh 0 rfl (.inl rfl) rfl) (eva_cons (ev_var A.toWh 2 rfl (.inl rfl) rfl) eva_nil)) (.inl ⟨_, _, rfl, (by assumption), rfl⟩))) (runB_one (run_ret (ev_call A.toWh c_first_end (by decide) (by rfl) (eva_cons (ev_var A.toWh 1 rfl (.inl rfl) rfl) (eva_cons (ev_var A.toWh 2 rfl (.inl rfl) rfl) eva_nil)) ⟨_, _, rfl, (by first | omega | assumption | rfl | (simp only [List.length_append, List.length_cons, List.length_nil, List.length_map, List.length_range]; omega)), (by first | omega | assumption | rfl | (simp only [List.length_append, List.length_cons, List.length_nil, List.length_map, List.length_range]; omega)), rfl⟩))))⟩
  · obtain ⟨die, ws, row, c, rfl, sz, sr, bad, rfl⟩ := hS
    rcases bad with hb | ⟨ok, hb, rfl⟩
    · exact ⟨_, .inl rfl, runB_X (run_exprX (evx_call A.toWh tk c_ask_race (by decide) (by rfl) (eva_cons (ev_var A.toWh 0 rfl (.inl rfl) rfl) (eva_cons (ev_var A.toWh 1 rfl (.inl rfl) rfl) eva_nil)) (.inr ⟨_, _, _, rfl, (by assumption), (by assumption), rfl⟩)))⟩
    · exact ⟨_, .inl rfl, runB_cons (run_expr (ev_call A.toWh c_ask_race (by decide) (by rfl) (eva_cons (ev_var A.toWh 0 rfl (.inl rfl) rfl) (eva_cons (ev_var A.toWh 1 rfl (.inl rfl) rfl) eva_nil)) (.inl ⟨_, _, rfl, (by assumption), rfl⟩))) (runB_X (run_exprX (evx_call A.toWh tk c_ask_row (by decide) (by rfl) (eva_cons (ev_var A.toWh 0 rfl (.inl rfl) rfl) (eva_cons (ev_var A.toWh 2 rfl (.inl rfl) rfl) eva_nil)) (.inr ⟨_, _, rfl, (by assumption), (by assumption), rfl⟩))))⟩
/-! ### worth -/
theorem sc_worth : FnScope ["die", "text", "found", "sign"] ["die", "text"] (defScope (topS 32)) := ⟨rfl, rfl, rfl, by decide +kernel, rfl, by decide +kernel, by decide +kernel⟩
theorem ok_worth (Df : DfG K mg "worth" (topS 32) ["die", "text"]) (B : Bts mg)
    (C : Clss K mg E)
    (c_times : FnG P w K mg base 3 "times" ["one", "other"] S_times)
    (c_share : FnG P w K mg base 2 "share" ["top", "bottom"] S_share)
    (g_SIGNS : GlG K mg "SIGNS" (sD [97, 98, 99, 100])) : FnG P w K mg base 4 "worth" ["die", "text"] S_worth := by
  refine fn_D Df sc_worth (fun ds r h => S_worth_len h) fun X W hP hw hK hm hb A tk ds r hS => ?_
  subst hP hw hK hm hb
  have hsz := szL
  obtain ⟨die, t, rfl, hd, ht, hl, rfl⟩ := hS
  have loop : ∀ (l : List Nat), okText die.length l → ∀ (q : Rat) (n : Nat), fit n q → n + 6 * l.length ≤ 100 → ForR X W 3 (bodyOf (stAt (defBody (topS 32)) 1)) (l.map fun c => sD [c]) [.va (nums die), .va (sD t), .va (qD q), .no] (.nx [.va (nums die), .va (sD t), .va (qD (l.foldl (fun q c => q * rate die c) q)), .no]) := by
    intro l
    induction l with
    | nil => intro _ q n _ _; exact .nil
    | cons c l ih =>
      intro hk q n hq hn
      rw [List.length_cons] at hn
      have hc := hk c List.mem_cons_self
      have hi := idx_sgn hc
      have hi1 : List.idxOf c [97, 98, 99, 100] < die.length := hi.1
      have hw := wgt_ok hd hc
      have hr := rate_fit hd hc
      have hsh : shOk (die.getD ((abcd.idxOf c : Nat) : Int).toNat 0) := shOk_of (n := 6) (by have : die.getD ((abcd.idxOf c : Nat) : Int).toNat 0 = wgt die c := rfl; omega) (by have : die.getD ((abcd.idxOf c : Nat) : Int).toNat 0 = wgt die c := rfl; omega) (by decide)
      have f1 : fit 4000 q := hq.mono (by omega)
      have f2 : fit 4000 (Rat.divInt die.sum (die.getD ((abcd.idxOf c : Nat) : Int).toNat 0)) := fit.mono (show fit 6 (Rat.divInt die.sum (die.getD ((abcd.idxOf c : Nat) : Int).toNat 0)) from hr) (by decide)
      exact .nx (RunB.clrO 3 (runB_one (run_set A 2 rfl (.inl rfl) (ev_call A.toWh c_times (by decide) (by rfl) (eva_cons (ev_var A.toWh 2 rfl (.inl rfl) rfl) (eva_cons (ev_call A.toWh c_share (by decide) (by rfl) (eva_cons (ev_sum A.toWh (by rfl) B.sum (ev_var A.toWh 0 rfl (.inl rfl) rfl)) (eva_cons (ev_ixG (enc := iD) 0 (ev_var A.toWh 0 rfl (.inl rfl) rfl) (ev_sindex (ev_gl A.toWh g_SIGNS (by rfl)) (ev_var A.toWh 3 rfl (.inl rfl) rfl) (by exact hi.2)) (by (first | omega | (exact Int.ofNat_lt.mpr hi1))) (by (first | omega | (exact Int.ofNat_lt.mpr hi1)))) eva_nil)) ⟨_, _, rfl, (by assumption), rfl⟩) eva_nil)) ⟨_, _, rfl, (by assumption), (by assumption), rfl⟩)))) (ih (fun x hx => hk x (List.mem_cons_of_mem _ hx)) (q * rate die c) (n + 6) (fit_mul hq hr) (by omega))
  refine ⟨_, .inl rfl, runB_to [.va (nums die), .va (sD t), .va (qD 1), .no] (run_set A 2 rfl (.inl rfl) (ev_pair ev_int ev_int)) (runB_to [.va (nums die), .va (sD t), .va (qD (worthQ die t)), .no] ?_ (runB_one (run_ret (ev_var A.toWh 2 rfl (.inl rfl) rfl))))⟩
  refine (run_for A 3 rfl (.inl rfl) (evi_strT (ev_var A.toWh 1 rfl (.inl rfl) rfl)) ?_)
  exact loop t ht 1 1 fit_one (by omega)
/-! ### meeting -/
theorem sc_meeting : FnScope ["die", "one", "other", "found", "k"] ["die", "one", "other"] (defScope (topS 33)) := ⟨rfl, rfl, rfl, by decide +kernel, rfl, by decide +kernel, by decide +kernel⟩
theorem ok_meeting (Df : DfG K mg "meeting" (topS 33) ["die", "one", "other"]) (B : Bts mg)
    (C : Clss K mg E)
    (c_overlaps_of : FnG P w K mg base 1 "overlaps_of" ["one", "other"] S_overlaps_of)
    (c_plus : FnG P w K mg base 3 "plus" ["one", "other"] S_plus)
    (c_worth : FnG P w K mg base 4 "worth" ["die", "text"] S_worth)
    (g_NOUGHT : GlG K mg "NOUGHT" (qD 0)) : FnG P w K mg base 5 "meeting" ["die", "one", "other"] S_meeting := by
  refine fn_D Df sc_meeting (fun ds r h => S_meeting_len h) fun X W hP hw hK hm hb A tk ds r hS => ?_
  subst hP hw hK hm hb
  have hsz := szL
  obtain ⟨die, a, b, rfl, hd, ha, hb, rfl⟩ := hS
  have la := ha.lt
  have lb := hb.lt
  have loop : ∀ (l : List Int) (q : Rat) (n : Nat), fit n q → n + 38 * l.length ≤ 1000 → ForR X W 4 (bodyOf (stAt (defBody (topS 33)) 1)) (l.map iD) [.va (nums die), .va (sD a), .va (sD b), .va (qD q), .no] (.nx [.va (nums die), .va (sD a), .va (sD b), .va (qD (meetFold die b l q)), .no]) := by
    intro l
    induction l with
    | nil => intro q n _ _; exact .nil
    | cons k l ih =>
      intro q n hq hn
      rw [List.length_cons] at hn
      have hc := hb.cut (some k)
      obtain ⟨hc1, hc2⟩ := hc
      have hw := worth_fit hd hc1 hc2
      have f1 : fit 4000 q := hq.mono (by omega)
      have f2 : fit 4000 (worthQ die (cutL b none (some k))) := hw.mono (by decide)
      exact .nx (RunB.clrO 4 (runB_one (run_set A 3 rfl (.inl rfl) (ev_call A.toWh c_plus (by decide) (by rfl) (eva_cons (ev_var A.toWh 3 rfl (.inl rfl) rfl) (eva_cons (ev_call A.toWh c_worth (by decide) (by rfl) (eva_cons (ev_var A.toWh 0 rfl (.inl rfl) rfl) (eva_cons (ev_slT (ev_var A.toWh 2 rfl (.inl rfl) rfl) evo_none (evo_some (ev_var A.toWh 4 rfl (.inl rfl) rfl)) (by first | omega | assumption | rfl | (simp only [List.length_append, List.length_cons, List.length_nil, List.length_map, List.length_range]; omega))) eva_nil)) ⟨_, _, rfl, (by assumption), (by assumption), (by assumption), rfl⟩) eva_nil)) ⟨_, _, rfl, (by assumption), (by assumption), rfl⟩)))) (ih (q + worthQ die (cutL b none (some k))) (n + 37 + 1) (fit_add hq hw) (by omega))
  have ol := overlaps_len a b
  refine ⟨_, .inl rfl, runB_cons (run_set A 3 rfl (.inl rfl) (ev_gl A.toWh g_NOUGHT (by rfl))) (runB_to [.va (nums die), .va (sD a), .va (sD b), .va (qD (meetQ die a b)), .no] ?_ (runB_one (run_ret (ev_var A.toWh 3 rfl (.inl rfl) rfl))))⟩
  refine (run_for A 4 rfl (.inl rfl) (evi_list ((evn_call A.toWh c_overlaps_of (by decide) (by rfl) (eva_cons (ev_var A.toWh 1 rfl (.inl rfl) rfl) (eva_cons (ev_var A.toWh 2 rfl (.inl rfl) rfl) eva_nil)) ⟨_, _, rfl, (by first | omega | assumption | rfl | (simp only [List.length_append, List.length_cons, List.length_nil, List.length_map, List.length_range]; omega)), (by first | omega | assumption | rfl | (simp only [List.length_append, List.length_cons, List.length_nil, List.length_map, List.length_range]; omega)), rfl⟩)).ev) ?_)
  exact loop (overlapsOf a b) 0 1 fit_zero (by omega)
/-! ### held -/
theorem sc_held : FnScope ["die", "row", "word", "found", "k"] ["die", "row", "word"] (defScope (topS 34)) := ⟨rfl, rfl, rfl, by decide +kernel, rfl, by decide +kernel, by decide +kernel⟩
theorem ok_held (Df : DfG K mg "held" (topS 34) ["die", "row", "word"]) (B : Bts mg)
    (C : Clss K mg E)
    (c_plus : FnG P w K mg base 3 "plus" ["one", "other"] S_plus)
    (c_worth : FnG P w K mg base 4 "worth" ["die", "text"] S_worth)
    (g_NOUGHT : GlG K mg "NOUGHT" (qD 0)) : FnG P w K mg base 5 "held" ["die", "row", "word"] S_held := by
  refine fn_D Df sc_held (fun ds r h => S_held_len h) fun X W hP hw hK hm hb A tk ds r hS => ?_
  subst hP hw hK hm hb
  have hsz := szL
  obtain ⟨die, row, w, rfl, hd, hw, hr, rfl⟩ := hS
  have lw := hw.lt
  have l1 := hw.1
  have loop : ∀ (l : List Nat) (q : Rat) (n : Nat), fit n q → n + 38 * l.length ≤ 1000 → ForR X W 4 (bodyOf (stAt (defBody (topS 34)) 1)) (l.map fun (k : Nat) => iD (1 + (k : Int))) [.va (nums die), .va (sD row), .va (sD w), .va (qD q), .no] (.nx [.va (nums die), .va (sD row), .va (sD w), .va (qD (l.foldl (heldStep die row w) q)), .no]) := by
    intro l
    induction l with
    | nil => intro q n _ _; exact .nil
    | cons k l ih =>
      intro q n hq hn
      rw [List.length_cons] at hn
      have hc := hw.cut (some (1 + (k : Int)))
      obtain ⟨hc1, hc2⟩ := hc
      have hwf := worth_fit hd hc1 hc2
      have f1 : fit 4000 q := hq.mono (by omega)
      have f2 : fit 4000 (worthQ die (cutL w none (some (1 + (k : Int))))) := hwf.mono (by decide)
      have hs := held_fold_fit (row := row) hd hw k hq
      by_cases h : cutL w none (some (1 + (k : Int))) <:+ row
      · have e : heldStep die row w q k = q + worthQ die (cutL w none (some (1 + (k : Int)))) := if_pos h
        rw [List.foldl_cons]
        have R := ih (heldStep die row w q k) (n + 38) hs (by omega)
        rw [e] at R ⊢
        exact .nx (RunB.clrO 4 (runB_one (run_ifT (evt_val (ev_ends (ev_var A.toWh 1 rfl (.inl rfl) rfl) (ev_slT (ev_var A.toWh 2 rfl (.inl rfl) rfl) evo_none (evo_some (ev_var A.toWh 4 rfl (.inl rfl) rfl)) (by first | omega | assumption | rfl | (simp only [List.length_append, List.length_cons, List.length_nil, List.length_map, List.length_range]; omega))))) (decide_eq_true h) (runB_one (run_set A 3 rfl (.inl rfl) (ev_call A.toWh c_plus (by decide) (by rfl) (eva_cons (ev_var A.toWh 3 rfl (.inl rfl) rfl) (eva_cons (ev_call A.toWh c_worth (by decide) (by rfl) (eva_cons (ev_var A.toWh 0 rfl (.inl rfl) rfl) (eva_cons (ev_slT (ev_var A.toWh 2 rfl (.inl rfl) rfl) evo_none (evo_some (ev_var A.toWh 4 rfl (.inl rfl) rfl)) (by first | omega | assumption | rfl | (simp only [List.length_append, List.length_cons, List.length_nil, List.length_map, List.length_range]; omega))) eva_nil)) ⟨_, _, rfl, (by assumption), (by assumption), (by assumption), rfl⟩) eva_nil)) ⟨_, _, rfl, (by assumption), (by assumption), rfl⟩)))))) R
      · have e : heldStep die row w q k = q := if_neg h
        rw [List.foldl_cons]
        have R := ih (heldStep die row w q k) (n + 38) hs (by omega)
        rw [e] at R ⊢
        exact .nx (RunB.clrO 4 (runB_one (run_ifF (evt_val (ev_ends (ev_var A.toWh 1 rfl (.inl rfl) rfl) (ev_slT (ev_var A.toWh 2 rfl (.inl rfl) rfl) evo_none (evo_some (ev_var A.toWh 4 rfl (.inl rfl) rfl)) (by first | omega | assumption | rfl | (simp only [List.length_append, List.length_cons, List.length_nil, List.length_map, List.length_range]; omega))))) (decide_eq_false h) runB_nil))) R
  refine ⟨_, .inl rfl, runB_cons (run_set A 3 rfl (.inl rfl) (ev_gl A.toWh g_NOUGHT (by rfl))) (runB_to [.va (nums die), .va (sD row), .va (sD w), .va (qD (heldQ die row w)), .no] ?_ (runB_one (run_ret (ev_var A.toWh 3 rfl (.inl rfl) rfl))))⟩
  refine (run_for A 4 rfl (.inl rfl) (evi_range2 A.toWh (by rfl) B.range ev_int (ev_lenT' A.toWh (by rfl) B.len (ev_var A.toWh 2 rfl (.inl rfl) rfl) (by first | omega | assumption | rfl | (simp only [List.length_append, List.length_cons, List.length_nil, List.length_map, List.length_range]; omega))) ⟨(by first | omega | assumption | rfl | (simp only [List.length_append, List.length_cons, List.length_nil, List.length_map, List.length_range]; omega)), (by first | omega | assumption | rfl | (simp only [List.length_append, List.length_cons, List.length_nil, List.length_map, List.length_range]; omega)), (by first | omega | assumption | rfl | (simp only [List.length_append, List.length_cons, List.length_nil, List.length_map, List.length_range]; omega)), (by first | omega | assumption | rfl | (simp only [List.length_append, List.length_cons, List.length_nil, List.length_map, List.length_range]; omega))⟩) ?_)
  exact loop (List.range ((w.length : Int) - 1).toNat) 0 1 fit_zero (by rw [List.length_range]; omega)
/-! ### cleared -/
theorem sc_cleared : FnScope ["lines", "at", "pick", "head", "found", "k", "factor", "part", "j"] ["lines", "at"] (defScope (topS 35)) := ⟨rfl, rfl, rfl, by decide +kernel, rfl, by decide +kernel, by decide +kernel⟩
theorem ok_cleared (Df : DfG K mg "cleared" (topS 35) ["lines", "at"]) (B : Bts mg)
    (C : Clss K mg E)
    (c_over : FnG P w K mg base 3 "over" ["one", "other"] S_over)
    (c_minus : FnG P w K mg base 3 "minus" ["one", "other"] S_minus)
    (c_times : FnG P w K mg base 3 "times" ["one", "other"] S_times)
    (g_NOUGHT : GlG K mg "NOUGHT" (qD 0)) : FnG P w K mg base 4 "cleared" ["lines", "at"] S_cleared := by
  refine fn_D Df sc_cleared (fun ds r h => S_cleared_len h) fun X W hP hw hK hm hb A tk ds r hS => ?_
  subst hP hw hK hm hb
  have hsz := szL
  obtain ⟨m, a, n, b, rfl, ⟨hat, hpiv, hg, hb, h5, hn⟩, rfl⟩ := hS
  generalize hp : pivF m a = p at hpiv
  obtain ⟨p1, p2, p3, p4⟩ := id hpiv
  have wl := wd_get hg.wd p2
  have wla := wd_get hg.wd hat
  have wlp' : (m.getD ((p : Nat) : Int).toNat []).length = n := wl
  have pick : ∀ (d k : Nat), a ≤ k → k + d = p → WhR X W (testOf (stAt (defBody (topS 35)) 1)) (bodyOf (stAt (defBody (topS 35)) 1)) d [.va (qmD m), .va (iD a), .va (iD k), .no, .no, .no, .no, .no, .no] (.nx [.va (qmD m), .va (iD a), .va (iD p), .no, .no, .no, .no, .no, .no]) := by
    intro d
    induction d with
    | zero =>
      intro k h1 h2
      have : k = p := by omega
      subst this
      have wk := wd_get hg.wd p2
      have wk' : (m.getD ((k : Nat) : Int).toNat []).length = n := wk
      have hT : EvT X (testOf (stAt (defBody (topS 35)) 1)) [.va (qmD m), .va (iD a), .va (iD k), .no, .no, .no, .no, .no, .no] _ := (evt_eqD A.toWh (ev_ixG (enc := qD) 0 (ev_ixG (enc := qsD) [] (ev_var A.toWh 0 rfl (.inl rfl) rfl) (ev_var A.toWh 2 rfl (.inl rfl) rfl) (by first | omega | (rw [wk']; omega)) (by first | omega | (rw [wk']; omega))) (ev_var A.toWh 1 rfl (.inr (.inl rfl)) rfl) (by first | omega | (rw [wk']; omega)) (by first | omega | (rw [wk']; omega))) (ev_gl A.toWh g_NOUGHT (by rfl)) rfl rfl (by first | rfl | assumption | exact shp_pair _ | exact shp_rats _) (by first | rfl | assumption | exact shp_pair _ | exact shp_rats _))
      refine .done (EvT.cast hT ?_)
      rw [eqv_rat]
      exact decide_eq_false p3
    | succ d ih =>
      intro k h1 h2
      have hk : k < m.length := by omega
      have wk := wd_get hg.wd hk
      have wk' : (m.getD ((k : Nat) : Int).toNat []).length = n := wk
      have R := ih (k + 1) (by omega) (by omega)
      have ek : ((k + 1 : Nat) : Int) = (k : Int) + 1 := by omega
      rw [ek] at R
      have hT : EvT X (testOf (stAt (defBody (topS 35)) 1)) [.va (qmD m), .va (iD a), .va (iD k), .no, .no, .no, .no, .no, .no] _ := (evt_eqD A.toWh (ev_ixG (enc := qD) 0 (ev_ixG (enc := qsD) [] (ev_var A.toWh 0 rfl (.inl rfl) rfl) (ev_var A.toWh 2 rfl (.inl rfl) rfl) (by first | omega | (rw [wk']; omega)) (by first | omega | (rw [wk']; omega))) (ev_var A.toWh 1 rfl (.inr (.inl rfl)) rfl) (by first | omega | (rw [wk']; omega)) (by first | omega | (rw [wk']; omega))) (ev_gl A.toWh g_NOUGHT (by rfl)) rfl rfl (by first | rfl | assumption | exact shp_pair _ | exact shp_rats _) (by first | rfl | assumption | exact shp_pair _ | exact shp_rats _))
      refine .nx (EvT.cast hT ?_) (runB_one (run_set A 2 rfl (.inl rfl) (ev_add (ev_var A.toWh 2 rfl (.inl rfl) rfl) ev_int))) R
      rw [eqv_rat]
      exact decide_eq_true (p4 k h1 (by omega))
  have PK := pick (p - a) a (Nat.le_refl _) (by omega)
  have hl := head_len hg.wd p2 (at_ := a)
  -- head
  have hbits := hg.bits p p2
  have hdf : fit 4000 ((m.getD p []).getD a 0) := fit.mono (hbits.fit a) (by omega)
  have hdn : (m.getD p []).getD a 0 ≠ 0 := p3
  have lp : (m.getD p []).length = n := wl
  refine ⟨_, .inl rfl, runB_cons (run_set A 2 rfl (.inl rfl) (ev_var A.toWh 1 rfl (.inr (.inl rfl)) rfl)) (runB_to [.va (qmD m), .va (iD a), .va (iD p), .no, .no, .no, .no, .no, .no] (run_while A PK) ?_)⟩
  refine runB_cons (run_set A 3 rfl (.inr rfl) (ev_ixG (enc := qsD) [] (ev_var A.toWh 0 rfl (.inl rfl) rfl) (ev_var A.toWh 2 rfl (.inl rfl) rfl) (by omega) (by omega))) ?_
  refine runB_to [.va (qmD m), .va (iD a), .va (iD p), .va (qsD (headL m a p)), .no, .no, .no, .no, .no] ?_ ?_
  · refine (Run.cast (run_set A 3 rfl (.inr rfl) ((evn_lc0 qD 7 A.toWh ⟨rfl, by decide +kernel, rfl, (.inl rfl), Nat.le_of_ble_eq_true rfl⟩ (evi_list (ev_var A.toWh 3 rfl (.inr (.inl rfl)) rfl)) (fun a1 ha2 X3 hX4 => (ev_call (A.toWh.blk hX4) (c_over.blk hX4) (by decide) (by rfl) (eva_cons (ev_var (A.toWh.blk hX4) 7 rfl (.inl rfl) rfl) (eva_cons (ev_ixG (enc := qD) 0 (ev_var (A.toWh.blk hX4) 3 rfl (.inr (.inl rfl)) rfl) (ev_var (A.toWh.blk hX4) 1 rfl (.inr (.inl rfl)) rfl) (by first | omega | (rw [wlp']; omega)) (by first | omega | (rw [wlp']; omega))) eva_nil)) ⟨_, _, rfl, (by first | exact hdf | exact fit.mono (row_mem hbits (by assumption)) (by omega)), (by first | exact hdf | exact fit.mono (row_mem hbits (by assumption)) (by omega)), (by exact hdn), rfl⟩)) (fun _ => rfl) (by rw [wlp']; omega))).ev (sw_cell (by rw [A.hsc]; rfl))) ?_)
    rfl
  refine runB_cons (run_setN A 4 rfl (.inr rfl) (evn_lst (as := []) eva_nil rfl (Nat.zero_le _))) ?_
  -- found
  have loop1 : ∀ (l : List Nat), (∀ k ∈ l, k < m.length) → ∀ acc : Mx, acc.length + l.length ≤ 1000 → ForR X W 5 (bodyOf (stAt (defBody (topS 35)) 5)) (l.map fun (k : Nat) => iD k) [.va (qmD m), .va (iD a), .va (iD p), .va (qsD (headL m a p)), .ow (acc.map qsD), .no, .no, .no, .no] (.nx [.va (qmD m), .va (iD a), .va (iD p), .va (qsD (headL m a p)), .ow ((acc ++ l.map (srcL m a p)).map qsD), .no, .no, .no, .no]) := by
    intro l
    induction l with
    | nil => intro _ acc _; rw [List.map_nil, List.map_nil, List.append_nil]; exact .nil
    | cons k l ih =>
      intro hk acc h
      rw [List.length_cons] at h
      have k1 := hk k List.mem_cons_self
      have R := ih (fun k h => hk k (List.mem_cons_of_mem _ h)) (acc ++ [srcL m a p k]) (by rw [List.length_append, List.length_singleton]; omega)
      have e : acc ++ (k :: l).map (srcL m a p) = (acc ++ [srcL m a p k]) ++ l.map (srcL m a p) := by rw [List.map_cons, List.append_assoc]; rfl
      rw [e]
      by_cases h2 : k = p
      · have es : srcL m a p k = m.getD a [] := if_pos h2
        rw [es] at R ⊢
        exact .nx (RunB.clrO 5 (runB_one (run_ifT (evt_eqI (ev_var A.toWh 5 rfl (.inr (.inl rfl)) rfl) (ev_var A.toWh 2 rfl (.inl rfl) rfl)) (decide_eq_true (by omega)) (runB_one (run_appendM (enc := qsD) A 4 _ rfl (.inr (.inl rfl)) rfl (ev_ixG (enc := qsD) [] (ev_var A.toWh 0 rfl (.inl rfl) rfl) (ev_var A.toWh 1 rfl (.inr (.inl rfl)) rfl) (by omega) (by omega)) rfl (by first | omega | assumption | rfl | (simp only [List.length_append, List.length_cons, List.length_nil, List.length_map, List.length_range]; omega))))))) R
      · have es : srcL m a p k = m.getD k [] := if_neg h2
        rw [es] at R ⊢
        exact .nx (RunB.clrO 5 (runB_one (run_ifF (evt_eqI (ev_var A.toWh 5 rfl (.inr (.inl rfl)) rfl) (ev_var A.toWh 2 rfl (.inl rfl) rfl)) (decide_eq_false (by omega)) (runB_one (run_appendM (enc := qsD) A 4 _ rfl (.inr (.inl rfl)) rfl (ev_ixG (enc := qsD) [] (ev_var A.toWh 0 rfl (.inl rfl) rfl) (ev_var A.toWh 5 rfl (.inr (.inl rfl)) rfl) (by omega) (by omega)) rfl (by first | omega | assumption | rfl | (simp only [List.length_append, List.length_cons, List.length_nil, List.length_map, List.length_range]; omega))))))) R
  have hfit : ∀ j, fit 4000 ((headL m a p).getD j 0) := fun j => (head_fit hg hpiv j).mono (by omega)
  have loop2 : ∀ (d i : Nat), i + d = m.length → ForR X W 5 (bodyOf (stAt (defBody (topS 35)) 6)) ((List.range' i d).map fun (k : Nat) => iD k) [.va (qmD m), .va (iD a), .va (iD p), .va (qsD (headL m a p)), .ow ((stF m a p i).map qsD), .no, .no, .no, .no] (.nx [.va (qmD m), .va (iD a), .va (iD p), .va (qsD (headL m a p)), .ow ((stF m a p m.length).map qsD), .no, .no, .no, .no]) := by
    intro d
    induction d with
    | zero =>
      intro i hi
      have : i = m.length := by omega
      subst this
      exact .nil
    | succ d ih =>
      intro i hi
      have R := ih (i + 1) (by omega)
      rw [List.range'_succ]
      by_cases e : i = a
      · rw [stF_at e] at R
        refine .nx (RunB.clrO 5 (runB_one (run_ifF (evt_neI (ev_var A.toWh 5 rfl (.inr (.inl rfl)) rfl) (ev_var A.toWh 1 rfl (.inr (.inl rfl)) rfl)) ?_ runB_nil))) R
        rw [decide_eq_true (by omega)]; rfl
      · rw [← stF_set e] at R
        have i1 : i < m.length := by omega
        have sl := stF_len (m := m) (at_ := a) (p := p) (i := i)
        have gi : (stF m a p i).getD i [] = srcL m a p i := by rw [stF_get i1, if_neg (fun q => absurd q.1 (Nat.lt_irrefl _))]
        have gi' : (stF m a p i).getD ((i : Nat) : Int).toNat [] = srcL m a p i := gi
        have gl : (srcL m a p i).length = n := src_len hg hat i1
        have sf : ∀ j, fit 1300 ((srcL m a p i).getD j 0) := fun j => (src_fit hg hat i1 j).mono hb
        have bodyR : RunB X W (bodyOf (stAt (defBody (topS 35)) 6)) [.va (qmD m), .va (iD a), .va (iD p), .va (qsD (headL m a p)), .ow ((stF m a p i).map qsD), .va (iD i), .no, .no, .no] (.nx [.va (qmD m), .va (iD a), .va (iD p), .va (qsD (headL m a p)), .ow (((stF m a p i).set i (newRow m a p i)).map qsD), .va (iD i), .va (qD ((srcL m a p i).getD a 0)), .no, .no]) := by
          refine runB_one (run_ifT (evt_neI (ev_var A.toWh 5 rfl (.inr (.inl rfl)) rfl) (ev_var A.toWh 1 rfl (.inr (.inl rfl)) rfl)) ?_ ?_)
          · rw [decide_eq_false (by omega)]; rfl
          refine runB_to [.va (qmD m), .va (iD a), .va (iD p), .va (qsD (headL m a p)), .ow ((stF m a p i).map qsD), .va (iD i), .va (qD ((srcL m a p i).getD a 0)), .no, .no] ?_ ?_
          · refine Run.cast (run_set A 6 rfl (.inr rfl) (ev_ixG (enc := qD) 0 (ev_ixGO (enc := qsD) [] A.toWh 4 rfl (.inr (.inl rfl)) rfl (ev_var A.toWh 5 rfl (.inr (.inl rfl)) rfl) (by first | omega | (rw [sl]; omega) | (rw [gi', gl]; omega)) (by first | omega | (rw [sl]; omega) | (rw [gi', gl]; omega))) (ev_var A.toWh 1 rfl (.inr (.inl rfl)) rfl) (by first | omega | (rw [sl]; omega) | (rw [gi', gl]; omega)) (by first | omega | (rw [sl]; omega) | (rw [gi', gl]; omega)))) ?_
            rw [gi']; rfl
          refine runB_one ?_
          refine Run.cast (run_setIxM (enc := qsD) A 4 _ rfl (.inr (.inl rfl)) rfl (ev_var A.toWh 5 rfl (.inr (.inl rfl)) rfl) ((evn_lc0 qD 8 A.toWh ⟨rfl, by decide +kernel, rfl, (.inl rfl), Nat.le_of_ble_eq_true rfl⟩ (evi_rangeN A.toWh (by rfl) B.range (ev_lenM A.toWh (by rfl) B.len (ev_var A.toWh 3 rfl (.inr (.inl rfl)) rfl)) (by first | omega | rfl | assumption) (by first | omega | assumption | rfl | (simp only [List.length_append, List.length_cons, List.length_nil, List.length_map, List.length_range]; omega))) (fun a1 ha2 X3 hX4 => (ev_call (A.toWh.blk hX4) (c_minus.blk hX4) (by decide) (by rfl) (eva_cons (ev_ixG (enc := qD) 0 (ev_ixGO (enc := qsD) [] (A.toWh.blk hX4) 4 rfl (.inr (.inl rfl)) rfl (ev_var (A.toWh.blk hX4) 5 rfl (.inr (.inl rfl)) rfl) (by first | omega | (rw [sl]; omega) | (have hj := List.mem_range.mp (by assumption); rw [gi', gl]; omega) | (have hj := List.mem_range.mp (by assumption); omega)) (by first | omega | (rw [sl]; omega) | (have hj := List.mem_range.mp (by assumption); rw [gi', gl]; omega) | (have hj := List.mem_range.mp (by assumption); omega))) (ev_var (A.toWh.blk hX4) 8 rfl (.inl rfl) rfl) (by first | omega | (rw [sl]; omega) | (have hj := List.mem_range.mp (by assumption); rw [gi', gl]; omega) | (have hj := List.mem_range.mp (by assumption); omega)) (by first | omega | (rw [sl]; omega) | (have hj := List.mem_range.mp (by assumption); rw [gi', gl]; omega) | (have hj := List.mem_range.mp (by assumption); omega))) (eva_cons (ev_call (A.toWh.blk hX4) (c_times.blk hX4) (by decide) (by rfl) (eva_cons (ev_var (A.toWh.blk hX4) 6 rfl (.inr (.inl rfl)) rfl) (eva_cons (ev_ixG (enc := qD) 0 (ev_var (A.toWh.blk hX4) 3 rfl (.inr (.inl rfl)) rfl) (ev_var (A.toWh.blk hX4) 8 rfl (.inl rfl) rfl) (by first | omega | (rw [sl]; omega) | (have hj := List.mem_range.mp (by assumption); rw [gi', gl]; omega) | (have hj := List.mem_range.mp (by assumption); omega)) (by first | omega | (rw [sl]; omega) | (have hj := List.mem_range.mp (by assumption); rw [gi', gl]; omega) | (have hj := List.mem_range.mp (by assumption); omega))) eva_nil)) ⟨_, _, rfl, (by first | exact fit.mono (sf _) (by decide) | exact hfit _ | (rw [gi']; exact fit.mono (sf _) (by decide)) | exact fit.mono (fit_mul (sf _) (fit.mono (head_fit hg hpiv _) hb)) (by decide)), (by first | exact fit.mono (sf _) (by decide) | exact hfit _ | (rw [gi']; exact fit.mono (sf _) (by decide)) | exact fit.mono (fit_mul (sf _) (fit.mono (head_fit hg hpiv _) hb)) (by decide)), rfl⟩) eva_nil)) ⟨_, _, rfl, (by first | exact fit.mono (sf _) (by decide) | exact hfit _ | (rw [gi']; exact fit.mono (sf _) (by decide)) | exact fit.mono (fit_mul (sf _) (fit.mono (head_fit hg hpiv _) hb)) (by decide)), (by first | exact fit.mono (sf _) (by decide) | exact hfit _ | (rw [gi']; exact fit.mono (sf _) (by decide)) | exact fit.mono (fit_mul (sf _) (fit.mono (head_fit hg hpiv _) hb)) (by decide)), rfl⟩)) (fun _ => rfl) (by first | omega | (rw [List.length_range]; omega)))).ev rfl (by first | omega | (rw [sl]; omega) | (have hj := List.mem_range.mp (by assumption); rw [gi', gl]; omega) | (have hj := List.mem_range.mp (by assumption); omega)) (by first | omega | (rw [sl]; omega) | (have hj := List.mem_range.mp (by assumption); rw [gi', gl]; omega) | (have hj := List.mem_range.mp (by assumption); omega))) ?_
          rw [gi', Int.toNat_natCast]
          rfl
        exact .nx (RunB.clrO 5 (RunB.clrO 6 bodyR)) R
  refine runB_to [.va (qmD m), .va (iD a), .va (iD p), .va (qsD (headL m a p)), .ow ((stF m a p 0).map qsD), .no, .no, .no, .no] ?_ ?_
  · refine (run_for A 5 rfl (.inr rfl) (evi_rangeN A.toWh (by rfl) B.range (ev_lenM A.toWh (by rfl) B.len (ev_var A.toWh 0 rfl (.inl rfl) rfl)) (by first | omega | rfl | assumption) (by first | omega | assumption | rfl | (simp only [List.length_append, List.length_cons, List.length_nil, List.length_map, List.length_range]; omega))) ?_)
    have L := loop1 (List.range m.length) (fun k h => List.mem_range.mp h) [] (by rw [List.length_range, List.length_nil]; omega)
    rw [List.nil_append, ← stF_zero] at L
    exact L
  refine runB_to [.va (qmD m), .va (iD a), .va (iD p), .va (qsD (headL m a p)), .ow ((stF m a p m.length).map qsD), .no, .no, .no, .no] ?_ ?_
  · have sl0 := stF_len (m := m) (at_ := a) (p := p) (i := 0)
    refine (run_for A 5 rfl (.inr rfl) (evi_rangeN A.toWh (by rfl) B.range (EvE.lift (frzAll_frz _) (ev_lenM A.toWh (by rfl) B.len (ev_var A.toWh 4 rfl (.inr (.inl rfl)) rfl)) rfl) (by first | omega | rfl | assumption) (by omega)) ?_)
    have L := loop2 m.length 0 (by omega)
    rw [← List.range_eq_range'] at L
    rw [stF_len]
    exact L
  have sl := stF_len (m := m) (at_ := a) (p := p) (i := m.length)
  refine runB_cons (run_setIxM (enc := qsD) A 4 _ rfl (.inr (.inl rfl)) rfl (ev_var A.toWh 1 rfl (.inr (.inl rfl)) rfl) (ev_var A.toWh 3 rfl (.inr (.inl rfl)) rfl) rfl (by first | omega | (rw [sl]; omega)) (by first | omega | (rw [sl]; omega))) ?_
  rw [Int.toNat_natCast, stF_done]
  exact runB_one (run_retO A 4 rfl (.inr (.inl rfl)) rfl)
/-! ### solved -/
theorem sc_solved : FnScope ["lines", "at", "line"] ["lines"] (defScope (topS 36)) := ⟨rfl, rfl, rfl, by decide +kernel, rfl, by decide +kernel, by decide +kernel⟩
theorem ok_solved (Df : DfG K mg "solved" (topS 36) ["lines"]) (B : Bts mg)
    (C : Clss K mg E)
    (c_cleared : FnG P w K mg base 4 "cleared" ["lines", "at"] S_cleared) : FnG P w K mg base 5 "solved" ["lines"] S_solved := by
  refine fn_D Df sc_solved (fun ds r h => S_solved_len h) fun X W hP hw hK hm hb A tk ds r hS => ?_
  subst hP hw hK hm hb
  have hsz := szL
  obtain ⟨m, n, rfl, h, rfl⟩ := hS
  have h5 := h.five
  have hn := h.hn
  have loop : ∀ (d i : Nat), i + d = m.length → ForR X W 1 (bodyOf (stAt (defBody (topS 36)) 0)) ((List.range' i d).map fun (k : Nat) => iD k) [.va (qmD (runM m i)), .no, .no] (.nx [.va (qmD (runM m m.length)), .no, .no]) := by
    intro d
    induction d with
    | zero =>
      intro i hi
      have : i = m.length := by omega
      subst this
      exact .nil
    | succ d ih =>
      intro i hi
      have R := ih (i + 1) (by omega)
      rw [runM_succ] at R
      rw [List.range'_succ]
      have hc := (so_step h (i := i) (by omega)).1
      exact .nx (RunB.clrO 1 (runB_one (run_set A 0 rfl (.inl rfl) ((evn_call A.toWh c_cleared (by decide) (by rfl) (eva_cons (ev_var A.toWh 0 rfl (.inl rfl) rfl) (eva_cons (ev_var A.toWh 1 rfl (.inl rfl) rfl) eva_nil)) ⟨_, _, _, _, rfl, (by assumption), rfl⟩)).ev))) R
  have L := loop m.length 0 (by omega)
  rw [← List.range_eq_range'] at L
  obtain ⟨e1, e2⟩ := so_end h
  refine ⟨_, .inl rfl, runB_to [.va (qmD (runM m m.length)), .no, .no] ?_ (runB_one (run_retN (evn_lc0 qD 2 A.toWh ⟨rfl, by decide +kernel, rfl, (.inl rfl), Nat.le_of_ble_eq_true rfl⟩ (evi_list (ev_var A.toWh 0 rfl (.inl rfl) rfl)) (fun a1 ha2 X3 hX4 => (ev_ixLast (enc := qD) 0 (ev_var (A.toWh.blk hX4) 2 rfl (.inl rfl) rfl) (ev_neg ev_int) (by (rw [e2 _ (by assumption)]; omega)))) (fun _ => rfl) (by rw [e1]; omega))))⟩
  refine (run_for A 1 rfl (.inl rfl) (evi_rangeN A.toWh (by rfl) B.range (ev_lenM A.toWh (by rfl) B.len (ev_var A.toWh 0 rfl (.inl rfl) rfl)) (by first | omega | rfl | assumption) (by first | omega | assumption | rfl | (simp only [List.length_append, List.length_cons, List.length_nil, List.length_map, List.length_range]; omega))) ?_)
  exact L
/-! ### outcome -/
theorem sc_outcome : FnScope ["die", "words", "row", "lines", "word", "line", "one"] ["die", "words", "row"] (defScope (topS 37)) := ⟨rfl, rfl, rfl, by decide +kernel, rfl, by decide +kernel, by decide +kernel⟩
theorem ok_outcome (Df : DfG K mg "outcome" (topS 37) ["die", "words", "row"]) (B : Bts mg)
    (C : Clss K mg E)
    (c_ask_race : FnG P w K mg base 3 "ask_race" ["die", "words"] (fun ds r => S_ask_race ds r ∨ XX_ask_race E ds r))
    (c_ask_row : FnG P w K mg base 2 "ask_row" ["die", "row"] (fun ds r => S_ask_row ds r ∨ XX_ask_row E ds r))
    (c_solved : FnG P w K mg base 5 "solved" ["lines"] S_solved)
    (c_first_end : FnG P w K mg base 1 "first_end" ["words", "row"] S_first_end)
    (c_meeting : FnG P w K mg base 5 "meeting" ["die", "one", "other"] S_meeting)
    (c_held : FnG P w K mg base 5 "held" ["die", "row", "word"] S_held)
    (g_NOUGHT : GlG K mg "NOUGHT" (qD 0)) : FnG P w K mg base 6 "outcome" ["die", "words", "row"] (fun ds r => S_outcome ds r ∨ XX_outcome E ds r) := by
  refine fn_D Df sc_outcome (fun ds r h => h.elim (fun h => S_outcome_len h) (fun h => XX_outcome_len h)) fun X W hP hw hK hm hb A tk ds r hS => ?_
  subst hP hw hK hm hb
  have hsz := szL
  rcases hS with hS | hS
  · obtain ⟨die, ws, row, rfl, ⟨ok, hr, hf⟩, rfl⟩ := hS
    have hd := ok.1
    have o4 := ok.four
    have o6 := ok.six
    have r6 := hr.1
    have okw := ok.2.1
    have loop : ∀ (l : List (List Nat)), (∀ w ∈ l, w ∈ ws) → ∀ acc : Mx, acc.length + l.length ≤ 1000 → ForR X W 4 (bodyOf (stAt (defBody (topS 37)) 4)) (l.map sD) [.va (nums die), .va (txts ws), .va (sD row), .ow (acc.map qsD), .no, .no, .no] (.nx [.va (nums die), .va (txts ws), .va (sD row), .ow ((acc ++ l.map (lineQ die ws row)).map qsD), .no, .no, .no]) := by
      intro l
      induction l with
      | nil => intro _ acc _; rw [List.map_nil, List.map_nil, List.append_nil]; exact .nil
      | cons w l ih =>
        intro hl acc h
        rw [List.length_cons] at h
        have hw := okw w (hl w List.mem_cons_self)
        have R := ih (fun w h => hl w (List.mem_cons_of_mem _ h)) (acc ++ [lineQ die ws row w]) (by rw [List.length_append, List.length_singleton]; omega)
        have e : acc ++ (w :: l).map (lineQ die ws row) = (acc ++ [lineQ die ws row w]) ++ l.map (lineQ die ws row) := by rw [List.map_cons, List.append_assoc]; rfl
        rw [e]
        have bodyR : RunB X W (bodyOf (stAt (defBody (topS 37)) 4)) [.va (nums die), .va (txts ws), .va (sD row), .ow (acc.map qsD), .va (sD w), .no, .no] (.nx [.va (nums die), .va (txts ws), .va (sD row), .ow ((acc ++ [lineQ die ws row w]).map qsD), .va (sD w), .ow ((ws.map fun one => meetQ die one w).map qD), .no]) := by
          refine runB_to [.va (nums die), .va (txts ws), .va (sD row), .ow (acc.map qsD), .va (sD w), .ow ((ws.map fun one => meetQ die one w).map qD), .no] (run_setLc0 qD 6 A 5 rfl rfl ⟨rfl, by decide +kernel, rfl, (.inl rfl), Nat.le_of_ble_eq_true rfl⟩ (evi_list (ev_var A.toWh 1 rfl (.inl rfl) rfl)) (fun a1 ha2 X3 hX4 => (ev_call (A.toWh.blk hX4) (c_meeting.blk hX4) (by decide) (by rfl) (eva_cons (ev_var (A.toWh.blk hX4) 0 rfl (.inr (.inl rfl)) rfl) (eva_cons (ev_var (A.toWh.blk hX4) 6 rfl (.inl rfl) rfl) (eva_cons (ev_var (A.toWh.blk hX4) 4 rfl (.inr (.inl rfl)) rfl) eva_nil))) ⟨_, _, _, rfl, (by assumption), (by first | assumption | exact okw _ (by assumption)), (by first | assumption | exact okw _ (by assumption)), rfl⟩)) (fun _ => rfl) (by first | omega | assumption | rfl | (simp only [List.length_append, List.length_cons, List.length_nil, List.length_map, List.length_range]; omega))) (runB_one (run_appendM (enc := qsD) A 3 _ rfl (.inl rfl) rfl ((evn_catM (enc := qD) (evc_own A.toWh 5 rfl (.inl rfl) rfl) ((evn_lstM (enc := qD) [_, _] (eva_consM _ (ev_pair (ev_neg ev_int) ev_int) (eva_consM _ (ev_call A.toWh c_held (by decide) (by rfl) (eva_cons (ev_var A.toWh 0 rfl (.inr (.inl rfl)) rfl) (eva_cons (ev_var A.toWh 2 rfl (.inl rfl) rfl) (eva_cons (ev_var A.toWh 4 rfl (.inr (.inl rfl)) rfl) eva_nil))) ⟨_, _, _, rfl, (by assumption), (by assumption), (by first | omega | assumption | (rw [List.length_map]; show _ + 2 ≤ sizeLine; omega)), rfl⟩) eva_nilM)) (fun _ => rfl) (by show _ ≤ sizeLine; rw [sizeLine_eq]; exact Nat.le_of_ble_eq_true rfl))).toC (by first | omega | assumption | (rw [List.length_map]; show _ + 2 ≤ sizeLine; omega)))).ev rfl (by first | omega | assumption | (rw [List.length_map]; show _ + 2 ≤ sizeLine; omega))))
        exact .nx (RunB.clrO 4 (RunB.clrO 5 bodyR)) R
    have so := out_so (row := row) ok
    refine ⟨_, .inl rfl, runB_cons (run_expr (ev_call A.toWh c_ask_race (by decide) (by rfl) (eva_cons (ev_var A.toWh 0 rfl (.inr (.inl rfl)) rfl) (eva_cons (ev_var A.toWh 1 rfl (.inl rfl) rfl) eva_nil)) (.inl ⟨_, _, rfl, (by assumption), rfl⟩))) (runB_cons (run_expr (ev_call A.toWh c_ask_row (by decide) (by rfl) (eva_cons (ev_var A.toWh 0 rfl (.inr (.inl rfl)) rfl) (eva_cons (ev_var A.toWh 2 rfl (.inl rfl) rfl) eva_nil)) (.inl ⟨_, _, rfl, (by assumption), rfl⟩))) (runB_cons (run_ifF (evt_notN (ev_call A.toWh c_first_end (by decide) (by rfl) (eva_cons (ev_var A.toWh 1 rfl (.inl rfl) rfl) (eva_cons (ev_var A.toWh 2 rfl (.inl rfl) rfl) eva_nil)) ⟨_, _, rfl, (by first | omega | assumption | rfl | (simp only [List.length_append, List.length_cons, List.length_nil, List.length_map, List.length_range]; omega)), (by first | omega | assumption | rfl | (simp only [List.length_append, List.length_cons, List.length_nil, List.length_map, List.length_range]; omega)), rfl⟩)) ?_ runB_nil) (runB_cons (run_setN A 3 rfl (.inl rfl) (evn_lst (as := []) eva_nil rfl (Nat.zero_le _))) (runB_to [.va (nums die), .va (txts ws), .va (sD row), .ow ((ws.map (lineQ die ws row)).map qsD), .no, .no, .no] ?_ (runB_to [.va (nums die), .va (txts ws), .va (sD row), .ow ((linesQ die ws row).map qsD), .no, .no, .no] (run_appendM (enc := qsD) A 3 _ rfl (.inl rfl) rfl ((evn_catM (enc := qD) ((evn_lc0 (f := fun _ => (1 : Rat)) qD 4 A.toWh ⟨rfl, by decide +kernel, rfl, (.inl rfl), Nat.le_of_ble_eq_true rfl⟩ (evi_list (ev_var A.toWh 1 rfl (.inl rfl) rfl)) (fun a1 ha2 X3 hX4 => (ev_pair ev_int ev_int)) (fun _ => rfl) (by first | omega | assumption | (rw [List.length_map]; omega) | (rw [List.length_map]; show _ + 2 ≤ sizeLine; omega)))).toC ((evn_lstM (enc := qD) [_, _] (eva_consM _ (ev_gl A.toWh g_NOUGHT (by rfl)) (eva_consM _ (ev_pair ev_int ev_int) eva_nilM)) (fun _ => rfl) (by show _ ≤ sizeLine; rw [sizeLine_eq]; exact Nat.le_of_ble_eq_true rfl))).toC (by first | omega | assumption | (rw [List.length_map]; omega) | (rw [List.length_map]; show _ + 2 ≤ sizeLine; omega)))).ev rfl (by first | omega | assumption | (rw [List.length_map]; omega) | (rw [List.length_map]; show _ + 2 ≤ sizeLine; omega))) (RunB.frz (runB_one (run_retN (evn_call A.toWh c_solved (by decide) (by rfl) (eva_cons (ev_var A.toWh 3 rfl (.inl rfl) rfl) eva_nil) ⟨_, _, rfl, (by assumption), rfl⟩))) (frzAll_frz _)))))))⟩
    · rw [hf]; rfl
    · refine (run_for A 4 rfl (.inr rfl) (evi_list (ev_var A.toWh 1 rfl (.inl rfl) rfl)) ?_)
      exact loop ws (fun _ h => h) [] (by rw [List.length_nil]; omega)
  · obtain ⟨die, ws, row, c, rfl, sz, sr, bad, rfl⟩ := hS
    rcases bad with (hb | ⟨ok, hb, rfl⟩) | ⟨ok, hr, hb, rfl⟩
    · exact ⟨_, .inl rfl, runB_X (run_exprX (evx_call A.toWh tk c_ask_race (by decide) (by rfl) (eva_cons (ev_var A.toWh 0 rfl (.inr (.inl rfl)) rfl) (eva_cons (ev_var A.toWh 1 rfl (.inl rfl) rfl) eva_nil)) (.inr ⟨_, _, _, rfl, (by assumption), (by assumption), rfl⟩)))⟩
    · exact ⟨_, .inl rfl, runB_cons (run_expr (ev_call A.toWh c_ask_race (by decide) (by rfl) (eva_cons (ev_var A.toWh 0 rfl (.inr (.inl rfl)) rfl) (eva_cons (ev_var A.toWh 1 rfl (.inl rfl) rfl) eva_nil)) (.inl ⟨_, _, rfl, (by assumption), rfl⟩))) (runB_X (run_exprX (evx_call A.toWh tk c_ask_row (by decide) (by rfl) (eva_cons (ev_var A.toWh 0 rfl (.inr (.inl rfl)) rfl) (eva_cons (ev_var A.toWh 2 rfl (.inl rfl) rfl) eva_nil)) (.inr ⟨_, _, rfl, (by assumption), (by assumption), rfl⟩))))⟩
    · have o4 := ok.four
      have o6 := ok.six
      have r6 := hr.1
      refine ⟨_, .inl rfl, runB_cons (run_expr (ev_call A.toWh c_ask_race (by decide) (by rfl) (eva_cons (ev_var A.toWh 0 rfl (.inr (.inl rfl)) rfl) (eva_cons (ev_var A.toWh 1 rfl (.inl rfl) rfl) eva_nil)) (.inl ⟨_, _, rfl, (by assumption), rfl⟩))) (runB_cons (run_expr (ev_call A.toWh c_ask_row (by decide) (by rfl) (eva_cons (ev_var A.toWh 0 rfl (.inr (.inl rfl)) rfl) (eva_cons (ev_var A.toWh 2 rfl (.inl rfl) rfl) eva_nil)) (.inl ⟨_, _, rfl, (by assumption), rfl⟩))) (runB_X (run_ifT (evt_notN (ev_call A.toWh c_first_end (by decide) (by rfl) (eva_cons (ev_var A.toWh 1 rfl (.inl rfl) rfl) (eva_cons (ev_var A.toWh 2 rfl (.inl rfl) rfl) eva_nil)) ⟨_, _, rfl, (by first | omega | assumption | rfl | (simp only [List.length_append, List.length_cons, List.length_nil, List.length_map, List.length_range]; omega)), (by first | omega | assumption | rfl | (simp only [List.length_append, List.length_cons, List.length_nil, List.length_map, List.length_range]; omega)), rfl⟩)) ?_ (runB_one (run_raise A.toWh tk C.over rfl)))))⟩
      cases q : firstEnd ws row with
      | none => exact absurd q hb
      | some p => rfl
/-! ### shares -/
theorem sc_shares : FnScope ["die", "words", "row"] ["die", "words", "row"] (defScope (topS 38)) := ⟨rfl, rfl, rfl, by decide +kernel, rfl, by decide +kernel, by decide +kernel⟩
theorem ok_shares (Df : DfG K mg "shares" (topS 38) ["die", "words", "row"]) (B : Bts mg)
    (C : Clss K mg E)
    (c_outcome : FnG P w K mg base 6 "outcome" ["die", "words", "row"] (fun ds r => S_outcome ds r ∨ XX_outcome E ds r)) : FnG P w K mg base 7 "shares" ["die", "words", "row"] (fun ds r => S_shares ds r ∨ XX_shares E ds r) := by
  refine fn_D Df sc_shares (fun ds r h => h.elim (fun h => S_shares_len h) (fun h => XX_shares_len h)) fun X W hP hw hK hm hb A tk ds r hS => ?_
  subst hP hw hK hm hb
  have hsz := szL
  rcases hS with hS | hS
  · obtain ⟨die, ws, row, rfl, ok, rfl⟩ := hS
    exact ⟨_, .inl rfl, runB_one (run_retN (evn_slM ((evn_call A.toWh c_outcome (by decide) (by rfl) (eva_cons (ev_var A.toWh 0 rfl (.inl rfl) rfl) (eva_cons (ev_var A.toWh 1 rfl (.inl rfl) rfl) (eva_cons (ev_var A.toWh 2 rfl (.inl rfl) rfl) eva_nil))) (.inl ⟨_, _, _, rfl, (by assumption), rfl⟩))).ev evo_none (evo_some (ev_neg ev_int))))⟩
  · obtain ⟨die, ws, row, c, rfl, sz, sr, bad, rfl⟩ := hS
    exact ⟨_, .inl rfl, runB_X (run_retX (evx_sl (evx_call A.toWh tk c_outcome (by decide) (by rfl) (eva_cons (ev_var A.toWh 0 rfl (.inl rfl) rfl) (eva_cons (ev_var A.toWh 1 rfl (.inl rfl) rfl) (eva_cons (ev_var A.toWh 2 rfl (.inl rfl) rfl) eva_nil))) (.inr ⟨_, _, _, _, rfl, (by assumption), (by assumption), (by assumption), rfl⟩)) evo_none (evo_some (ev_neg ev_int))))⟩
/-! ### mean -/
theorem sc_mean : FnScope ["die", "words", "row"] ["die", "words", "row"] (defScope (topS 39)) := ⟨rfl, rfl, rfl, by decide +kernel, rfl, by decide +kernel, by decide +kernel⟩
theorem ok_mean (Df : DfG K mg "mean" (topS 39) ["die", "words", "row"]) (B : Bts mg)
    (C : Clss K mg E)
    (c_outcome : FnG P w K mg base 6 "outcome" ["die", "words", "row"] (fun ds r => S_outcome ds r ∨ XX_outcome E ds r)) : FnG P w K mg base 7 "mean" ["die", "words", "row"] (fun ds r => S_mean ds r ∨ XX_mean E ds r) := by
  refine fn_D Df sc_mean (fun ds r h => h.elim (fun h => S_mean_len h) (fun h => XX_mean_len h)) fun X W hP hw hK hm hb A tk ds r hS => ?_
  subst hP hw hK hm hb
  have hsz := szL
  rcases hS with hS | hS
  · obtain ⟨die, ws, row, rfl, ok, rfl⟩ := hS
    have ol := out_len (row := row) ok.1
    exact ⟨_, .inl rfl, runB_one (run_ret (ev_ixLast (enc := qD) 0 ((evn_call A.toWh c_outcome (by decide) (by rfl) (eva_cons (ev_var A.toWh 0 rfl (.inl rfl) rfl) (eva_cons (ev_var A.toWh 1 rfl (.inl rfl) rfl) (eva_cons (ev_var A.toWh 2 rfl (.inl rfl) rfl) eva_nil))) (.inl ⟨_, _, _, rfl, (by assumption), rfl⟩))).ev (ev_neg ev_int) (by (rw [ol]; omega))))⟩
  · obtain ⟨die, ws, row, c, rfl, sz, sr, bad, rfl⟩ := hS
    exact ⟨_, .inl rfl, runB_X (run_retX (evx_ix (evx_call A.toWh tk c_outcome (by decide) (by rfl) (eva_cons (ev_var A.toWh 0 rfl (.inl rfl) rfl) (eva_cons (ev_var A.toWh 1 rfl (.inl rfl) rfl) (eva_cons (ev_var A.toWh 2 rfl (.inl rfl) rfl) eva_nil))) (.inr ⟨_, _, _, _, rfl, (by assumption), (by assumption), (by assumption), rfl⟩))))⟩
/-! ### longer -/
theorem sc_longer : FnScope ["die", "words", "known", "counts", "found", "state", "sign", "then"] ["die", "words", "known", "counts"] (defScope (topS 42)) := ⟨rfl, rfl, rfl, by decide +kernel, rfl, by decide +kernel, by decide +kernel⟩
theorem ok_longer (Df : DfG K mg "longer" (topS 42) ["die", "words", "known", "counts"]) (B : Bts mg)
    (C : Clss K mg E)
    (c_longest_end : FnG P w K mg base 1 "longest_end" ["known", "text"] S_longest_end)
    (g_SIGNS : GlG K mg "SIGNS" (sD [97, 98, 99, 100])) : FnG P w K mg base 2 "longer" ["die", "words", "known", "counts"] S_longer := by
  refine fn_D Df sc_longer (fun ds r h => S_longer_len h) fun X W hP hw hK hm hb A tk ds r hS => ?_
  subst hP hw hK hm hb
  have hsz := szL
  obtain ⟨die, ws, kn, cnt, rfl, h1, h2, rfl⟩ := hS
  have sl := sgC_len die.length
  have inner : ∀ (st : List Nat), st ∈ cnt.map (·.1) → ∀ (l : List Nat) (kv : Cn), kv.length + l.length ≤ 9000 → ForR X W 6 (bodyOf (stAt (bodyOf (stAt (bodyOf (stAt (defBody (topS 42)) 1)) 0)) 0)) (l.map fun c => sD [c]) [.va (nums die), .va (txts ws), .va (txts kn), .va (dD iD cnt), .od (dkv iD kv), .va (sD st), .no, .no] (.nx [.va (nums die), .va (txts ws), .va (txts kn), .va (dD iD cnt), .od (dkv iD (l.foldl (fun kv s => addKv kv (longestEnd kn (st ++ [s])) (get0 cnt st)) kv)), .va (sD st), .no, .no]) := by
    intro st hst l
    have ls := h2 st hst
    have hk := lookup_key hst
    induction l with
    | nil => intro kv _; exact .nil
    | cons c l ih =>
      intro kv h
      rw [List.length_cons] at h
      have pl : (addKv kv (longestEnd kn (st ++ [c])) (get0 cnt st)).length ≤ kv.length + 1 := putL_len _ _ _
      exact .nx (RunB.clrO 6 (RunB.clrO 7 (runB_cons (run_set A 7 rfl (.inl rfl) (ev_call A.toWh c_longest_end (by decide) (by rfl) (eva_cons (ev_var A.toWh 2 rfl (.inl rfl) rfl) (eva_cons (ev_addT (ev_var A.toWh 5 rfl (.inl rfl) rfl) (ev_var A.toWh 6 rfl (.inl rfl) rfl) (by first | omega | assumption | rfl | (simp only [List.length_append, List.length_cons, List.length_nil, List.length_map, List.length_range]; omega))) eva_nil)) ⟨_, _, rfl, (by first | omega | assumption | rfl | (simp only [List.length_append, List.length_cons, List.length_nil, List.length_map, List.length_range]; omega)), rfl⟩)) (runB_one (run_dputM (enc := iD) A 4 rfl (.inl rfl) rfl (ev_var A.toWh 7 rfl (.inl rfl) rfl) (EvE.lift (frzAll_frz _) (ev_add (ev_dgetDM _ A.toWh (ev_var A.toWh 4 rfl (.inl rfl) rfl) (ev_var A.toWh 7 rfl (.inl rfl) rfl) ev_int rfl ⟨by rfl, by rfl, by rfl, by rfl⟩) (ev_dgetM (enc := iD) A.toWh (ev_var A.toWh 3 rfl (.inl rfl) rfl) (ev_var A.toWh 5 rfl (.inl rfl) rfl) (by assumption))) rfl) rfl (by first | omega | assumption | rfl | (simp only [List.length_append, List.length_cons, List.length_nil, List.length_map, List.length_range]; omega))))))) (ih _ (Nat.le_trans (Nat.add_le_add_right pl l.length) (by omega)))
  have loop : ∀ (l : List (List Nat)), (∀ st ∈ l, st ∈ cnt.map (·.1)) → ∀ kv : Cn, kv.length + 4 * l.length ≤ 8000 → ForR X W 5 (bodyOf (stAt (defBody (topS 42)) 1)) (l.map sD) [.va (nums die), .va (txts ws), .va (txts kn), .va (dD iD cnt), .od (dkv iD kv), .no, .no, .no] (.nx [.va (nums die), .va (txts ws), .va (txts kn), .va (dD iD cnt), .od (dkv iD (l.foldl (longSt (longestEnd kn) (sgC die.length) ws cnt) kv)), .no, .no, .no]) := by
    intro l
    induction l with
    | nil => intro _ kv _; exact .nil
    | cons st l ih =>
      intro hl kv h
      rw [List.length_cons] at h
      have hst := hl st List.mem_cons_self
      have pl := longSt_len (next := longestEnd kn) (sg := sgC die.length) (ws := ws) (cnt := cnt) (kv := kv) (st := st)
      rw [List.foldl_cons]
      by_cases hw : st ∈ ws
      · have e : longSt (longestEnd kn) (sgC die.length) ws cnt kv st = kv := if_pos hw
        rw [e]
        refine .nx (RunB.clrO 5 (runB_one (run_ifF (evt_ninL (ev_var A.toWh 5 rfl (.inl rfl) rfl) (ev_var A.toWh 1 rfl (.inl rfl) rfl)) ?_ runB_nil))) (ih (fun t ht => hl t (List.mem_cons_of_mem _ ht)) kv (by omega))
        rw [decide_eq_true hw]; rfl
      · have e : longSt (longestEnd kn) (sgC die.length) ws cnt kv st = (sgC die.length).foldl (fun kv s => addKv kv (longestEnd kn (st ++ [s])) (get0 cnt st)) kv := if_neg hw
        have I := inner st hst (sgC die.length) kv (by omega)
        rw [← e] at I
        refine .nx (RunB.clrO 5 (runB_one (run_ifT (evt_ninL (ev_var A.toWh 5 rfl (.inl rfl) rfl) (ev_var A.toWh 1 rfl (.inl rfl) rfl)) ?_ (runB_one (show Run X W _ _ (.nx [.va (nums die), .va (txts ws), .va (txts kn), .va (dD iD cnt), .od (dkv iD (longSt (longestEnd kn) (sgC die.length) ws cnt kv st)), .va (sD st), .no, .no]) from ?_))))) (ih (fun t ht => hl t (List.mem_cons_of_mem _ ht)) _ (by omega))
        · rw [decide_eq_false hw]; rfl
        · refine (run_for A 6 rfl (.inl rfl) (evi_strT (ev_slT (ev_gl A.toWh g_SIGNS (by rfl)) evo_none (evo_some (ev_lenM A.toWh (by rfl) B.len (ev_var A.toWh 0 rfl (.inl rfl) rfl))) (by first | omega | assumption | rfl | (simp only [List.length_append, List.length_cons, List.length_nil, List.length_map, List.length_range]; omega)))) ?_)
          exact I
  refine ⟨_, .inl rfl, runB_cons (run_setM A 4 rfl (.inl rfl) evm_nil) (runB_to [.va (nums die), .va (txts ws), .va (txts kn), .va (dD iD cnt), .od (dkv iD (longL (longestEnd kn) (sgC die.length) ws cnt)), .no, .no, .no] ?_ (runB_one (run_retOd A 4 rfl (.inl rfl) rfl)))⟩
  refine (run_for A 5 rfl (.inl rfl) (evi_list ((evn_listM A.toWh (by rfl) B.list (ev_var A.toWh 3 rfl (.inl rfl) rfl))).ev) ?_)
  exact loop (cnt.map (·.1)) (fun _ h => h) [] (by rw [List.length_nil, List.length_map]; omega)
/-! ### counted -/
theorem sc_counted : FnScope ["die", "words", "many", "known", "counts", "k"] ["die", "words", "many"] (defScope (topS 43)) := ⟨rfl, rfl, rfl, by decide +kernel, rfl, by decide +kernel, by decide +kernel⟩
theorem ok_counted (Df : DfG K mg "counted" (topS 43) ["die", "words", "many"]) (B : Bts mg)
    (C : Clss K mg E)
    (c_ask_race : FnG P w K mg base 3 "ask_race" ["die", "words"] (fun ds r => S_ask_race ds r ∨ XX_ask_race E ds r))
    (c_beginnings_of : FnG P w K mg base 1 "beginnings_of" ["words"] S_beginnings_of)
    (c_longer : FnG P w K mg base 2 "longer" ["die", "words", "known", "counts"] S_longer)
    (g_MOST : GlG K mg "MOST" (iD 60)) : FnG P w K mg base 4 "counted" ["die", "words", "many"] (fun ds r => S_counted ds r ∨ XX_counted E ds r) := by
  refine fn_D Df sc_counted (fun ds r h => h.elim (fun h => S_counted_len h) (fun h => XX_counted_len h)) fun X W hP hw hK hm hb A tk ds r hS => ?_
  subst hP hw hK hm hb
  have hsz := szL
  rcases hS with hS | hS
  · obtain ⟨die, ws, m, rfl, ok, m0, m60, rfl⟩ := hS
    have o4 := ok.four
    have o6 := ok.six
    have hne := ok.ne
    have loop : ∀ (l : List Nat) (cnt : Cn), KeyOk (beginsL ws) cnt → ForR X W 5 (bodyOf (stAt (defBody (topS 43)) 4)) (l.map fun (k : Nat) => iD k) [.va (nums die), .va (txts ws), .va (iD m), .va (txts (beginsL ws)), .va (dD iD cnt), .no] (.nx [.va (nums die), .va (txts ws), .va (iD m), .va (txts (beginsL ws)), .va (dD iD (l.foldl (fun c _ => longL (longestEnd (beginsL ws)) (sgC die.length) ws c) cnt)), .no]) := by
      intro l
      induction l with
      | nil => intro cnt _; exact .nil
      | cons k l ih =>
        intro cnt hk
        obtain ⟨z1, z2⟩ := key_sizes o4 o6 hk
        have z3 : ∀ t ∈ cnt.map (·.1), t.length ≤ 900 := fun t ht => Nat.le_trans (z2 t ht) (by decide)
        exact .nx (RunB.clrO 5 (runB_one (run_set A 4 rfl (.inl rfl) ((evm_call A.toWh c_longer (by decide) (by rfl) (eva_cons (ev_var A.toWh 0 rfl (.inl rfl) rfl) (eva_cons (ev_var A.toWh 1 rfl (.inl rfl) rfl) (eva_cons (ev_var A.toWh 3 rfl (.inl rfl) rfl) (eva_cons (ev_var A.toWh 4 rfl (.inl rfl) rfl) eva_nil)))) ⟨_, _, _, _, rfl, (by first | omega | assumption | rfl | (simp only [List.length_append, List.length_cons, List.length_nil, List.length_map, List.length_range]; omega)), (by assumption), rfl⟩)).ev))) (ih _ (longL_ok (long_in hne) _ _ _))
    refine ⟨_, .inl rfl, runB_cons (run_expr (ev_call A.toWh c_ask_race (by decide) (by rfl) (eva_cons (ev_var A.toWh 0 rfl (.inl rfl) rfl) (eva_cons (ev_var A.toWh 1 rfl (.inl rfl) rfl) eva_nil)) (.inl ⟨_, _, rfl, (by assumption), rfl⟩))) (runB_cons (run_ifF (evt_not (evt_lele ev_int (ev_var A.toWh 2 rfl (.inl rfl) rfl) (ev_gl A.toWh g_MOST (by rfl)))) ?_ runB_nil) (runB_cons (run_set A 3 rfl (.inl rfl) ((evn_call A.toWh c_beginnings_of (by decide) (by rfl) (eva_cons (ev_var A.toWh 1 rfl (.inl rfl) rfl) eva_nil) ⟨_, rfl, (by first | omega | assumption | rfl | (simp only [List.length_append, List.length_cons, List.length_nil, List.length_map, List.length_range]; omega)), (by assumption), rfl⟩)).ev) (runB_cons (run_set A 4 rfl (.inl rfl) ((evm_disp1M (enc := iD) (ev_strC [] (by rfl)) ev_int rfl)).ev) (runB_to [.va (nums die), .va (txts ws), .va (iD m), .va (txts (beginsL ws)), .va (dD iD (cntP die.length ws m.toNat)), .no] ?_ (runB_one (run_ret (ev_var A.toWh 4 rfl (.inl rfl) rfl)))))))⟩
    · rw [decide_eq_true m0, decide_eq_true m60]; rfl
    · refine (run_for A 5 rfl (.inl rfl) (evi_rangeN A.toWh (by rfl) B.range (ev_var A.toWh 2 rfl (.inl rfl) rfl) (by first | omega | rfl | assumption) (by first | omega | assumption | rfl | (simp only [List.length_append, List.length_cons, List.length_nil, List.length_map, List.length_range]; omega))) ?_)
      exact loop (List.range m.toNat) [([], 1)] ⟨List.pairwise_singleton _ _, fun t h => by rw [List.mem_singleton.mp h]; exact nil_in hne⟩
  · obtain ⟨die, ws, m, c, rfl, sz, bad, rfl⟩ := hS
    rcases bad with hb | ⟨ok, hb, rfl⟩
    · exact ⟨_, .inl rfl, runB_X (run_exprX (evx_call A.toWh tk c_ask_race (by decide) (by rfl) (eva_cons (ev_var A.toWh 0 rfl (.inl rfl) rfl) (eva_cons (ev_var A.toWh 1 rfl (.inl rfl) rfl) eva_nil)) (.inr ⟨_, _, _, rfl, (by assumption), (by assumption), rfl⟩)))⟩
    · refine ⟨_, .inl rfl, runB_cons (run_expr (ev_call A.toWh c_ask_race (by decide) (by rfl) (eva_cons (ev_var A.toWh 0 rfl (.inl rfl) rfl) (eva_cons (ev_var A.toWh 1 rfl (.inl rfl) rfl) eva_nil)) (.inl ⟨_, _, rfl, (by assumption), rfl⟩))) (runB_X (run_ifT (evt_not (evt_lele ev_int (ev_var A.toWh 2 rfl (.inl rfl) rfl) (ev_gl A.toWh g_MOST (by rfl)))) ?_ (runB_one (run_raise A.toWh tk C.row rfl))))⟩
      rw [← Bool.decide_and, decide_eq_false hb]; rfl
/-! ### open_rows -/
theorem sc_open_rows : FnScope ["die", "words", "many", "counts", "state"] ["die", "words", "many"] (defScope (topS 44)) := ⟨rfl, rfl, rfl, by decide +kernel, rfl, by decide +kernel, by decide +kernel⟩
theorem ok_open_rows (Df : DfG K mg "open_rows" (topS 44) ["die", "words", "many"]) (B : Bts mg)
    (C : Clss K mg E)
    (c_counted : FnG P w K mg base 4 "counted" ["die", "words", "many"] (fun ds r => S_counted ds r ∨ XX_counted E ds r)) : FnG P w K mg base 5 "open_rows" ["die", "words", "many"] (fun ds r => S_open_rows ds r ∨ XX_open_rows E ds r) := by
  refine fn_D Df sc_open_rows (fun ds r h => h.elim (fun h => S_open_rows_len h) (fun h => XX_open_rows_len h)) fun X W hP hw hK hm hb A tk ds r hS => ?_
  subst hP hw hK hm hb
  have hsz := szL
  rcases hS with hS | hS
  · obtain ⟨die, ws, m, rfl, ok, m0, m60, rfl⟩ := hS
    have z := key_sizes ok.four ok.six (cntP_ok (n := die.length) ok.ne m.toNat)
    have z1 := z.1
    exact ⟨_, .inl rfl, runB_cons (run_set A 3 rfl (.inr rfl) (ev_call A.toWh c_counted (by decide) (by rfl) (eva_cons (ev_var A.toWh 0 rfl (.inl rfl) rfl) (eva_cons (ev_var A.toWh 1 rfl (.inr (.inl rfl)) rfl) (eva_cons (ev_var A.toWh 2 rfl (.inl rfl) rfl) eva_nil))) (.inl ⟨_, _, _, rfl, (by assumption), (by first | omega | assumption | rfl | (simp only [List.length_append, List.length_cons, List.length_nil, List.length_map, List.length_range]; omega)), (by first | omega | assumption | rfl | (simp only [List.length_append, List.length_cons, List.length_nil, List.length_map, List.length_range]; omega)), rfl⟩))) (runB_one (run_ret (ev_sum A.toWh (by rfl) B.sum ((evn_lc iD 4 A.toWh ⟨rfl, by decide +kernel, rfl, (.inl rfl), Nat.le_of_ble_eq_true rfl⟩ (evi_list ((evn_listM A.toWh (by rfl) B.list (ev_var A.toWh 3 rfl (.inr (.inl rfl)) rfl))).ev) (fun a1 ha2 X3 hX4 => evts_one (evt_ninL (ev_var (A.toWh.blk hX4) 4 rfl (.inl rfl) rfl) (ev_var (A.toWh.blk hX4) 1 rfl (.inr (.inl rfl)) rfl))) (fun a1 ha2 ht5 X3 hX4 => (ev_dgetM (enc := iD) (A.toWh.blk hX4) (ev_var (A.toWh.blk hX4) 3 rfl (.inr (.inl rfl)) rfl) (ev_var (A.toWh.blk hX4) 4 rfl (.inl rfl) rfl) (by exact lookup_key (by assumption)))) (fun _ => rfl) (by first | omega | assumption | rfl | (simp only [List.length_append, List.length_cons, List.length_nil, List.length_map, List.length_range]; omega)))).ev)))⟩
  · obtain ⟨die, ws, m, c, rfl, sz, bad, rfl⟩ := hS
    exact ⟨_, .inl rfl, runB_X (run_setX A 3 rfl (.inr rfl) (evx_call A.toWh tk c_counted (by decide) (by rfl) (eva_cons (ev_var A.toWh 0 rfl (.inl rfl) rfl) (eva_cons (ev_var A.toWh 1 rfl (.inr (.inl rfl)) rfl) (eva_cons (ev_var A.toWh 2 rfl (.inl rfl) rfl) eva_nil))) (.inr ⟨_, _, _, _, rfl, (by assumption), (by assumption), rfl⟩)))⟩
/-! ### ended_rows -/
theorem sc_ended_rows : FnScope ["die", "words", "many", "counts", "word"] ["die", "words", "many"] (defScope (topS 45)) := ⟨rfl, rfl, rfl, by decide +kernel, rfl, by decide +kernel, by decide +kernel⟩
theorem ok_ended_rows (Df : DfG K mg "ended_rows" (topS 45) ["die", "words", "many"]) (B : Bts mg)
    (C : Clss K mg E)
    (c_counted : FnG P w K mg base 4 "counted" ["die", "words", "many"] (fun ds r => S_counted ds r ∨ XX_counted E ds r)) : FnG P w K mg base 5 "ended_rows" ["die", "words", "many"] (fun ds r => S_ended_rows ds r ∨ XX_ended_rows E ds r) := by
  refine fn_D Df sc_ended_rows (fun ds r h => h.elim (fun h => S_ended_rows_len h) (fun h => XX_ended_rows_len h)) fun X W hP hw hK hm hb A tk ds r hS => ?_
  subst hP hw hK hm hb
  have hsz := szL
  rcases hS with hS | hS
  · obtain ⟨die, ws, m, rfl, ok, m0, m60, rfl⟩ := hS
    have o4 := ok.four
    exact ⟨_, .inl rfl, runB_cons (run_set A 3 rfl (.inr rfl) (ev_call A.toWh c_counted (by decide) (by rfl) (eva_cons (ev_var A.toWh 0 rfl (.inl rfl) rfl) (eva_cons (ev_var A.toWh 1 rfl (.inl rfl) rfl) (eva_cons (ev_var A.toWh 2 rfl (.inl rfl) rfl) eva_nil))) (.inl ⟨_, _, _, rfl, (by assumption), (by first | omega | assumption | rfl | (simp only [List.length_append, List.length_cons, List.length_nil, List.length_map, List.length_range]; omega)), (by first | omega | assumption | rfl | (simp only [List.length_append, List.length_cons, List.length_nil, List.length_map, List.length_range]; omega)), rfl⟩))) (runB_one (run_retN (evn_lc0 iD 4 A.toWh ⟨rfl, by decide +kernel, rfl, (.inl rfl), Nat.le_of_ble_eq_true rfl⟩ (evi_list (ev_var A.toWh 1 rfl (.inl rfl) rfl)) (fun a1 ha2 X3 hX4 => (ev_dgetDM _ (A.toWh.blk hX4) (ev_var (A.toWh.blk hX4) 3 rfl (.inr (.inl rfl)) rfl) (ev_var (A.toWh.blk hX4) 4 rfl (.inl rfl) rfl) ev_int rfl ⟨by rfl, by rfl, by rfl, by rfl⟩)) (fun _ => rfl) (by first | omega | assumption | rfl | (simp only [List.length_append, List.length_cons, List.length_nil, List.length_map, List.length_range]; omega)))))⟩
  · obtain ⟨die, ws, m, c, rfl, sz, bad, rfl⟩ := hS
    exact ⟨_, .inl rfl, runB_X (run_setX A 3 rfl (.inr rfl) (evx_call A.toWh tk c_counted (by decide) (by rfl) (eva_cons (ev_var A.toWh 0 rfl (.inl rfl) rfl) (eva_cons (ev_var A.toWh 1 rfl (.inl rfl) rfl) (eva_cons (ev_var A.toWh 2 rfl (.inl rfl) rfl) eva_nil))) (.inr ⟨_, _, _, _, rfl, (by assumption), (by assumption), rfl⟩)))⟩
/-! ### _law_cell_at -/
theorem sc__law_cell_at : FnScope ["script", "k"] ["script", "k"] (defScope (topS 47)) := ⟨rfl, rfl, rfl, by decide +kernel, rfl, by decide +kernel, by decide +kernel⟩
theorem ok__law_cell_at (Df : DfG K mg "_law_cell_at" (topS 47) ["script", "k"]) (B : Bts mg)
    (C : Clss K mg E) : FnG P w K mg base 1 "_law_cell_at" ["script", "k"] S__law_cell_at := by
  refine fn_D Df sc__law_cell_at (fun ds r h => S__law_cell_at_len h) fun X W hP hw hK hm hb A tk ds r hS => ?_
  subst hP hw hK hm hb
  have hsz := szL
  obtain ⟨ns, k, rfl, h0, rfl⟩ := hS
  refine ⟨_, .inl rfl, ?_⟩
  by_cases h : k < ns.length
  · have e : cellAt ns k = ns.getD k.toNat 0 := if_pos h
    rw [e]
    exact runB_stop (run_ifT (evt_lt (ev_var A.toWh 1 rfl (.inl rfl) rfl) (ev_lenM A.toWh (by rfl) B.len (ev_var A.toWh 0 rfl (.inl rfl) rfl))) (decide_eq_true h) (runB_one (run_ret (ev_ixG (enc := iD) 0 (ev_var A.toWh 0 rfl (.inl rfl) rfl) (ev_var A.toWh 1 rfl (.inl rfl) rfl) (by first | omega | assumption | rfl | (simp only [List.length_append, List.length_cons, List.length_nil, List.length_map, List.length_range]; omega)) (by first | omega | assumption | rfl | (simp only [List.length_append, List.length_cons, List.length_nil, List.length_map, List.length_range]; omega)))))) rfl
  · have e : cellAt ns k = 0 := if_neg h
    rw [e]
    exact runB_cons (run_ifF (evt_lt (ev_var A.toWh 1 rfl (.inl rfl) rfl) (ev_lenM A.toWh (by rfl) B.len (ev_var A.toWh 0 rfl (.inl rfl) rfl))) (decide_eq_false h) runB_nil) (runB_one (run_ret ev_int))
/-! ### _law_next -/
theorem sc__law_next : FnScope ["seed"] ["seed"] (defScope (topS 48)) := ⟨rfl, rfl, rfl, by decide +kernel, rfl, by decide +kernel, by decide +kernel⟩
theorem ok__law_next (Df : DfG K mg "_law_next" (topS 48) ["seed"]) (B : Bts mg)
    (C : Clss K mg E) : FnG P w K mg base 1 "_law_next" ["seed"] S__law_next := by
  refine fn_D Df sc__law_next (fun ds r h => S__law_next_len h) fun X W hP hw hK hm hb A tk ds r hS => ?_
  subst hP hw hK hm hb
  have hsz := szL
  obtain ⟨s, rfl, rfl⟩ := hS
  have h1 : 0 ≤ (s + 7919) % 2147483647 := Int.emod_nonneg _ (by decide)
  have h2 : (s + 7919) % 2147483647 < 2147483647 := Int.emod_lt_of_pos _ (by decide)
  exact ⟨_, .inl rfl, runB_cons (run_set A 0 rfl (.inl rfl) (ev_mod (ev_add (ev_var A.toWh 0 rfl (.inl rfl) rfl) ev_int) ev_int (by first | omega | assumption | rfl | (simp only [List.length_append, List.length_cons, List.length_nil, List.length_map, List.length_range]; omega)))) (runB_one (run_ret (ev_mod (ev_add (ev_add (ev_mul (ev_var A.toWh 0 rfl (.inl rfl) rfl) (ev_var A.toWh 0 rfl (.inl rfl) rfl) (by first | exact .inl ⟨by omega, by omega⟩ | exact .inr ⟨by omega, by omega⟩)) (ev_mul ev_int (ev_var A.toWh 0 rfl (.inl rfl) rfl) (by first | exact .inl ⟨by omega, by omega⟩ | exact .inr ⟨by omega, by omega⟩))) ev_int) ev_int (by first | omega | assumption | rfl | (simp only [List.length_append, List.length_cons, List.length_nil, List.length_map, List.length_range]; omega)))))⟩
/-! ### _law_die -/
theorem sc__law_die : FnScope ["cell", "many", "k"] ["cell"] (defScope (topS 49)) := ⟨rfl, rfl, rfl, by decide +kernel, rfl, by decide +kernel, by decide +kernel⟩
theorem ok__law_die (Df : DfG K mg "_law_die" (topS 49) ["cell"]) (B : Bts mg)
    (C : Clss K mg E)
    (c__law_next : FnG P w K mg base 1 "_law_next" ["seed"] S__law_next) : FnG P w K mg base 2 "_law_die" ["cell"] S__law_die := by
  refine fn_D Df sc__law_die (fun ds r h => S__law_die_len h) fun X W hP hw hK hm hb A tk ds r hS => ?_
  subst hP hw hK hm hb
  have hsz := szL
  obtain ⟨c, rfl, rfl⟩ := hS
  have h0 : 0 ≤ c % 3 := Int.emod_nonneg _ (by decide)
  have h3 : c % 3 < 3 := Int.emod_lt_of_pos _ (by decide)
  refine ⟨_, .inl rfl, runB_cons (run_set A 1 rfl (.inl rfl) (ev_add ev_int (ev_mod (ev_var A.toWh 0 rfl (.inr (.inl rfl)) rfl) ev_int (by first | omega | assumption | rfl | (simp only [List.length_append, List.length_cons, List.length_nil, List.length_map, List.length_range]; omega))))) ?_⟩
  by_cases h : c / 3 % 3 = 0
  · have e : dieL c = (List.range (2 + c % 3).toNat).map fun _ => 1 := if_pos h
    rw [e]
    exact runB_stop (run_ifT (evt_eqI (ev_mod (ev_fdiv (ev_var A.toWh 0 rfl (.inr (.inl rfl)) rfl) ev_int ⟨(by first | omega | assumption | rfl | (simp only [List.length_append, List.length_cons, List.length_nil, List.length_map, List.length_range]; omega)), (by first | omega | assumption | rfl | (simp only [List.length_append, List.length_cons, List.length_nil, List.length_map, List.length_range]; omega))⟩) ev_int (by first | omega | assumption | rfl | (simp only [List.length_append, List.length_cons, List.length_nil, List.length_map, List.length_range]; omega))) ev_int) (decide_eq_true h) (runB_one (run_retN (evn_lc0 iD 2 A.toWh ⟨rfl, by decide +kernel, rfl, (.inl rfl), Nat.le_of_ble_eq_true rfl⟩ (evi_rangeN A.toWh (by rfl) B.range (ev_var A.toWh 1 rfl (.inl rfl) rfl) (by first | omega | rfl | assumption) (by first | omega | assumption | rfl | (simp only [List.length_append, List.length_cons, List.length_nil, List.length_map, List.length_range]; omega))) (fun a1 ha2 X3 hX4 => ev_int) (fun _ => rfl) (by first | omega | assumption | rfl | (simp only [List.length_append, List.length_cons, List.length_nil, List.length_map, List.length_range]; omega)))))) rfl
  · have e : dieL c = (List.range (2 + c % 3).toNat).map fun (k : Nat) => 1 + nextI (c / 9 + 31 * (k : Int)) / 7 % 9 := if_neg h
    rw [e]
    exact runB_cons (run_ifF (evt_eqI (ev_mod (ev_fdiv (ev_var A.toWh 0 rfl (.inr (.inl rfl)) rfl) ev_int ⟨(by first | omega | assumption | rfl | (simp only [List.length_append, List.length_cons, List.length_nil, List.length_map, List.length_range]; omega)), (by first | omega | assumption | rfl | (simp only [List.length_append, List.length_cons, List.length_nil, List.length_map, List.length_range]; omega))⟩) ev_int (by first | omega | assumption | rfl | (simp only [List.length_append, List.length_cons, List.length_nil, List.length_map, List.length_range]; omega))) ev_int) (decide_eq_false h) runB_nil) (runB_one (run_retN (evn_lc0 iD 2 A.toWh ⟨rfl, by decide +kernel, rfl, (.inl rfl), Nat.le_of_ble_eq_true rfl⟩ (evi_rangeN A.toWh (by rfl) B.range (ev_var A.toWh 1 rfl (.inl rfl) rfl) (by first | omega | rfl | assumption) (by first | omega | assumption | rfl | (simp only [List.length_append, List.length_cons, List.length_nil, List.length_map, List.length_range]; omega))) (fun a1 ha2 X3 hX4 => (ev_add ev_int (ev_mod (ev_fdiv (ev_call (A.toWh.blk hX4) (c__law_next.blk hX4) (by decide) (by rfl) (eva_cons (ev_add (ev_fdiv (ev_var (A.toWh.blk hX4) 0 rfl (.inr (.inl rfl)) rfl) ev_int ⟨(by first | omega | assumption | rfl | (simp only [List.length_append, List.length_cons, List.length_nil, List.length_map, List.length_range]; omega)), (by first | omega | assumption | rfl | (simp only [List.length_append, List.length_cons, List.length_nil, List.length_map, List.length_range]; omega))⟩) (ev_mul ev_int (ev_var (A.toWh.blk hX4) 2 rfl (.inl rfl) rfl) (by first | exact .inl ⟨by omega, by omega⟩ | exact .inr ⟨by omega, by omega⟩))) eva_nil) ⟨_, rfl, rfl⟩) ev_int ⟨(by first | omega | assumption | rfl | (simp only [List.length_append, List.length_cons, List.length_nil, List.length_map, List.length_range]; omega)), (by first | omega | assumption | rfl | (simp only [List.length_append, List.length_cons, List.length_nil, List.length_map, List.length_range]; omega))⟩) ev_int (by first | omega | assumption | rfl | (simp only [List.length_append, List.length_cons, List.length_nil, List.length_map, List.length_range]; omega))))) (fun _ => rfl) (by first | omega | assumption | rfl | (simp only [List.length_append, List.length_cons, List.length_nil, List.length_map, List.length_range]; omega)))))
/-! ### _law_thrown -/
theorem sc__law_thrown : FnScope ["cell", "many", "signs", "text", "seed", "k"] ["cell", "many", "signs"] (defScope (topS 50)) := ⟨rfl, rfl, rfl, by decide +kernel, rfl, by decide +kernel, by decide +kernel⟩
theorem ok__law_thrown (Df : DfG K mg "_law_thrown" (topS 50) ["cell", "many", "signs"]) (B : Bts mg)
    (C : Clss K mg E)
    (c__law_next : FnG P w K mg base 1 "_law_next" ["seed"] S__law_next) : FnG P w K mg base 2 "_law_thrown" ["cell", "many", "signs"] S__law_thrown := by
  refine fn_D Df sc__law_thrown (fun ds r h => S__law_thrown_len h) fun X W hP hw hK hm hb A tk ds r hS => ?_
  subst hP hw hK hm hb
  have hsz := szL
  obtain ⟨c, m, sg, rfl, h0, h1, h2, h3, rfl⟩ := hS
  have loop : ∀ (l : List Nat) (t : List Nat) (s : Int), t.length + l.length ≤ 1000 → ForR X W 5 (bodyOf (stAt (defBody (topS 50)) 2)) (l.map fun (k : Nat) => iD k) [.va (iD c), .va (iD m), .va (iD sg), .va (sD t), .va (iD s), .no] (.nx [.va (iD c), .va (iD m), .va (iD sg), .va (sD (l.foldl (thrownStep sg) (t, s)).1), .va (iD (l.foldl (thrownStep sg) (t, s)).2), .no]) := by
    intro l
    induction l with
    | nil => intro t s _; exact .nil
    | cons k l ih =>
      intro t s h
      rw [List.length_cons] at h
      have i0 : 0 ≤ s / 7 % sg := Int.emod_nonneg _ (by omega)
      have i1 : s / 7 % sg < sg := Int.emod_lt_of_pos _ (by omega)
      refine .nx (RunB.clrO 5 (runB_cons (run_set A 3 rfl (.inl rfl) (ev_addT (ev_var A.toWh 3 rfl (.inl rfl) rfl) (ev_ixTG (ev_strC [97, 98, 99, 100] (by rfl)) (ev_mod (ev_fdiv (ev_var A.toWh 4 rfl (.inl rfl) rfl) ev_int ⟨(by first | omega | assumption | rfl | (simp only [List.length_append, List.length_cons, List.length_nil, List.length_map, List.length_range]; omega)), (by first | omega | assumption | rfl | (simp only [List.length_append, List.length_cons, List.length_nil, List.length_map, List.length_range]; omega))⟩) (ev_var A.toWh 2 rfl (.inl rfl) rfl) (by first | omega | assumption | rfl | (simp only [List.length_append, List.length_cons, List.length_nil, List.length_map, List.length_range]; omega))) (by first | omega | assumption | rfl | (simp only [List.length_append, List.length_cons, List.length_nil, List.length_map, List.length_range]; omega)) (by first | omega | assumption | rfl | (simp only [List.length_append, List.length_cons, List.length_nil, List.length_map, List.length_range]; omega)) (by first | omega | assumption | rfl | (simp only [List.length_append, List.length_cons, List.length_nil, List.length_map, List.length_range]; omega))) (by first | omega | assumption | rfl | (simp only [List.length_append, List.length_cons, List.length_nil, List.length_map, List.length_range]; omega)))) (runB_one (run_set A 4 rfl (.inl rfl) (ev_call A.toWh c__law_next (by decide) (by rfl) (eva_cons (ev_add (ev_var A.toWh 4 rfl (.inl rfl) rfl) (ev_var A.toWh 5 rfl (.inl rfl) rfl)) eva_nil) ⟨_, rfl, rfl⟩))))) (ih _ _ ?_)
      rw [List.length_append, List.length_singleton]; omega
  refine ⟨_, .inl rfl, runB_cons (run_set A 3 rfl (.inl rfl) (ev_strC [] (by rfl))) (runB_cons (run_set A 4 rfl (.inl rfl) (ev_call A.toWh c__law_next (by decide) (by rfl) (eva_cons (ev_var A.toWh 0 rfl (.inl rfl) rfl) eva_nil) ⟨_, rfl, rfl⟩)) (runB_to [.va (iD c), .va (iD m), .va (iD sg), .va (sD ((List.range m.toNat).foldl (thrownStep sg) ([], nextI c)).1), .va (iD ((List.range m.toNat).foldl (thrownStep sg) ([], nextI c)).2), .no] ?_ (runB_one (run_ret (ev_var A.toWh 3 rfl (.inl rfl) rfl)))))⟩
  refine (run_for A 5 rfl (.inl rfl) (evi_rangeN A.toWh (by rfl) B.range (ev_var A.toWh 1 rfl (.inl rfl) rfl) (by first | omega | rfl | assumption) (by first | omega | assumption | rfl | (simp only [List.length_append, List.length_cons, List.length_nil, List.length_map, List.length_range]; omega))) ?_)
  exact loop (List.range m.toNat) [] (nextI c) (by rw [List.length_range, List.length_nil]; omega)
/-! ### _law_word -/
theorem sc__law_word : FnScope ["cell", "signs", "word"] ["cell", "signs"] (defScope (topS 51)) := ⟨rfl, rfl, rfl, by decide +kernel, rfl, by decide +kernel, by decide +kernel⟩
theorem ok__law_word (Df : DfG K mg "_law_word" (topS 51) ["cell", "signs"]) (B : Bts mg)
    (C : Clss K mg E)
    (c__law_thrown : FnG P w K mg base 2 "_law_thrown" ["cell", "many", "signs"] S__law_thrown) : FnG P w K mg base 3 "_law_word" ["cell", "signs"] S__law_word := by
  refine fn_D Df sc__law_word (fun ds r h => S__law_word_len h) fun X W hP hw hK hm hb A tk ds r hS => ?_
  subst hP hw hK hm hb
  have hsz := szL
  obtain ⟨c, sg, rfl, h1, h2, rfl⟩ := hS
  have h0 : 0 ≤ c % 6 := Int.emod_nonneg _ (by decide)
  have h6 : c % 6 < 6 := Int.emod_lt_of_pos _ (by decide)
  have len := thrownL_len (c / 8) (1 + c % 6).toNat sg
  have lc := cutL_len (thrownL (c / 8) (1 + c % 6).toNat sg) none (some (1 + c / 24 % 2))
  have lf : (List.replicate 6 (cutL (thrownL (c / 8) (1 + c % 6).toNat sg) none (some (1 + c / 24 % 2)))).flatten.length ≤ 36 := by
    rw [List.length_flatten, List.map_replicate, List.sum_replicate_nat]; omega
  refine ⟨_, .inl rfl, runB_cons (run_set A 2 rfl (.inl rfl) (ev_call A.toWh c__law_thrown (by decide) (by rfl) (eva_cons (ev_fdiv (ev_var A.toWh 0 rfl (.inl rfl) rfl) ev_int ⟨(by first | omega | assumption | rfl | (simp only [List.length_append, List.length_cons, List.length_nil, List.length_map, List.length_range]; omega)), (by first | omega | assumption | rfl | (simp only [List.length_append, List.length_cons, List.length_nil, List.length_map, List.length_range]; omega))⟩) (eva_cons (ev_add ev_int (ev_mod (ev_var A.toWh 0 rfl (.inl rfl) rfl) ev_int (by first | omega | assumption | rfl | (simp only [List.length_append, List.length_cons, List.length_nil, List.length_map, List.length_range]; omega)))) (eva_cons (ev_var A.toWh 1 rfl (.inl rfl) rfl) eva_nil))) ⟨_, _, _, rfl, (by first | omega | assumption | rfl | (simp only [List.length_append, List.length_cons, List.length_nil, List.length_map, List.length_range]; omega)), (by first | omega | assumption | rfl | (simp only [List.length_append, List.length_cons, List.length_nil, List.length_map, List.length_range]; omega)), (by first | omega | assumption | rfl | (simp only [List.length_append, List.length_cons, List.length_nil, List.length_map, List.length_range]; omega)), (by first | omega | assumption | rfl | (simp only [List.length_append, List.length_cons, List.length_nil, List.length_map, List.length_range]; omega)), rfl⟩)) ?_⟩
  by_cases h : c / 6 % 4 = 0
  · have e : wordL c sg = cutL (List.replicate 6 (cutL (thrownL (c / 8) (1 + c % 6).toNat sg) none (some (1 + c / 24 % 2)))).flatten none (some ((thrownL (c / 8) (1 + c % 6).toNat sg).length : Int)) := if_pos h
    rw [e]
    exact runB_cons (run_ifT (evt_eqI (ev_mod (ev_fdiv (ev_var A.toWh 0 rfl (.inl rfl) rfl) ev_int ⟨(by first | omega | assumption | rfl | (simp only [List.length_append, List.length_cons, List.length_nil, List.length_map, List.length_range]; omega)), (by first | omega | assumption | rfl | (simp only [List.length_append, List.length_cons, List.length_nil, List.length_map, List.length_range]; omega))⟩) ev_int (by first | omega | assumption | rfl | (simp only [List.length_append, List.length_cons, List.length_nil, List.length_map, List.length_range]; omega))) ev_int) (decide_eq_true h) (runB_one (run_set A 2 rfl (.inl rfl) (ev_slT (ev_mulT (ev_slT (ev_var A.toWh 2 rfl (.inl rfl) rfl) evo_none (evo_some (ev_add ev_int (ev_mod (ev_fdiv (ev_var A.toWh 0 rfl (.inl rfl) rfl) ev_int ⟨(by first | omega | assumption | rfl | (simp only [List.length_append, List.length_cons, List.length_nil, List.length_map, List.length_range]; omega)), (by first | omega | assumption | rfl | (simp only [List.length_append, List.length_cons, List.length_nil, List.length_map, List.length_range]; omega))⟩) ev_int (by first | omega | assumption | rfl | (simp only [List.length_append, List.length_cons, List.length_nil, List.length_map, List.length_range]; omega))))) (by first | omega | exact Nat.le_trans lf (by omega))) ev_int (by first | omega | exact Nat.le_trans lf (by omega)) (by first | omega | exact Nat.le_trans lf (by omega)) (by first | omega | exact Nat.le_trans lf (by omega))) evo_none (evo_some (ev_lenT' A.toWh (by rfl) B.len (ev_var A.toWh 2 rfl (.inl rfl) rfl) (by first | omega | exact Nat.le_trans lf (by omega)))) (by first | omega | exact Nat.le_trans lf (by omega)))))) (runB_one (run_ret (ev_var A.toWh 2 rfl (.inl rfl) rfl)))
  · have e : wordL c sg = thrownL (c / 8) (1 + c % 6).toNat sg := if_neg h
    rw [e]
    exact runB_cons (run_ifF (evt_eqI (ev_mod (ev_fdiv (ev_var A.toWh 0 rfl (.inl rfl) rfl) ev_int ⟨(by first | omega | assumption | rfl | (simp only [List.length_append, List.length_cons, List.length_nil, List.length_map, List.length_range]; omega)), (by first | omega | assumption | rfl | (simp only [List.length_append, List.length_cons, List.length_nil, List.length_map, List.length_range]; omega))⟩) ev_int (by first | omega | assumption | rfl | (simp only [List.length_append, List.length_cons, List.length_nil, List.length_map, List.length_range]; omega))) ev_int) (decide_eq_false h) runB_nil) (runB_one (run_ret (ev_var A.toWh 2 rfl (.inl rfl) rfl)))
/-! ### _law_words -/
theorem sc__law_words : FnScope ["script", "at", "signs", "words", "k", "word", "one"] ["script", "at", "signs"] (defScope (topS 52)) := ⟨rfl, rfl, rfl, by decide +kernel, rfl, by decide +kernel, by decide +kernel⟩
theorem ok__law_words (Df : DfG K mg "_law_words" (topS 52) ["script", "at", "signs"]) (B : Bts mg)
    (C : Clss K mg E)
    (c__law_word : FnG P w K mg base 3 "_law_word" ["cell", "signs"] S__law_word)
    (c__law_cell_at : FnG P w K mg base 1 "_law_cell_at" ["script", "k"] S__law_cell_at) : FnG P w K mg base 4 "_law_words" ["script", "at", "signs"] S__law_words := by
  refine fn_D Df sc__law_words (fun ds r h => S__law_words_len h) fun X W hP hw hK hm hb A tk ds r hS => ?_
  subst hP hw hK hm hb
  have hsz := szL
  obtain ⟨ns, a, sg, rfl, h0, h1, h4, rfl⟩ := hS
  have loop : ∀ (l : List Nat) (ws : List (List Nat)), ws.length + l.length ≤ 1000 → ForR X W 4 (bodyOf (stAt (defBody (topS 52)) 1)) (l.map fun (k : Nat) => iD k) [.va (nums ns), .va (iD a), .va (iD sg), .ow (ws.map sD), .no, .no, .no] (.nx [.va (nums ns), .va (iD a), .va (iD sg), .ow ((l.foldl (wordsStep ns a sg) ws).map sD), .no, .no, .no]) := by
    intro l
    induction l with
    | nil => intro ws _; exact .nil
    | cons k l ih =>
      intro ws h
      rw [List.length_cons] at h
      rw [List.foldl_cons]
      by_cases hc : ((ws.map (clash (wordL (cellAt ns (a + 1 + (k : Int)) % 1000003 + 7 * (k : Int)) sg))).any fun t => t) = true
      · have e : wordsStep ns a sg ws k = ws := if_pos hc
        rw [e]
        refine .nx (RunB.clrO 4 (RunB.clrO 5 (runB_cons (run_set A 5 rfl (.inr rfl) (ev_call A.toWh c__law_word (by decide) (by rfl) (eva_cons (ev_add (ev_mod (ev_call A.toWh c__law_cell_at (by decide) (by rfl) (eva_cons (ev_var A.toWh 0 rfl (.inl rfl) rfl) (eva_cons (ev_add (ev_add (ev_var A.toWh 1 rfl (.inl rfl) rfl) ev_int) (ev_var A.toWh 4 rfl (.inl rfl) rfl)) eva_nil)) ⟨_, _, rfl, (by first | omega | assumption | rfl | (simp only [List.length_append, List.length_cons, List.length_nil, List.length_map, List.length_range]; omega)), rfl⟩) ev_int (by first | omega | assumption | rfl | (simp only [List.length_append, List.length_cons, List.length_nil, List.length_map, List.length_range]; omega))) (ev_mul ev_int (ev_var A.toWh 4 rfl (.inl rfl) rfl) (by first | exact .inl ⟨by omega, by omega⟩ | exact .inr ⟨by omega, by omega⟩))) (eva_cons (ev_var A.toWh 2 rfl (.inl rfl) rfl) eva_nil)) ⟨_, _, rfl, (by first | omega | assumption | rfl | (simp only [List.length_append, List.length_cons, List.length_nil, List.length_map, List.length_range]; omega)), (by first | omega | assumption | rfl | (simp only [List.length_append, List.length_cons, List.length_nil, List.length_map, List.length_range]; omega)), rfl⟩)) (runB_one (run_ifF (EvT.lift (frzAll_frz _) (evt_not (evt_val (ev_any A.toWh (by rfl) B.any ((evn_lc0 bD 6 A.toWh ⟨rfl, by decide +kernel, rfl, (.inl rfl), Nat.le_of_ble_eq_true rfl⟩ (evi_list (ev_var A.toWh 3 rfl (.inl rfl) rfl)) (fun a1 ha2 X3 hX4 => (ev_or (ev_inT (ev_var (A.toWh.blk hX4) 5 rfl (.inr (.inl rfl)) rfl) (ev_var (A.toWh.blk hX4) 6 rfl (.inl rfl) rfl)) (fun hc6 => (ev_one (ev_inT (ev_var (A.toWh.blk hX4) 6 rfl (.inl rfl) rfl) (ev_var (A.toWh.blk hX4) 5 rfl (.inr (.inl rfl)) rfl)))))) (fun _ => rfl) (by first | omega | assumption | rfl | (simp only [List.length_append, List.length_cons, List.length_nil, List.length_map, List.length_range]; omega)))).ev)))) ?_ runB_nil))))) (ih ws (by omega))
        exact congrArg (fun b => !b) hc
      · have e : wordsStep ns a sg ws k = ws ++ [wordL (cellAt ns (a + 1 + (k : Int)) % 1000003 + 7 * (k : Int)) sg] := if_neg hc
        rw [e]
        refine .nx (RunB.clrO 4 (RunB.clrO 5 (runB_cons (run_set A 5 rfl (.inr rfl) (ev_call A.toWh c__law_word (by decide) (by rfl) (eva_cons (ev_add (ev_mod (ev_call A.toWh c__law_cell_at (by decide) (by rfl) (eva_cons (ev_var A.toWh 0 rfl (.inl rfl) rfl) (eva_cons (ev_add (ev_add (ev_var A.toWh 1 rfl (.inl rfl) rfl) ev_int) (ev_var A.toWh 4 rfl (.inl rfl) rfl)) eva_nil)) ⟨_, _, rfl, (by first | omega | assumption | rfl | (simp only [List.length_append, List.length_cons, List.length_nil, List.length_map, List.length_range]; omega)), rfl⟩) ev_int (by first | omega | assumption | rfl | (simp only [List.length_append, List.length_cons, List.length_nil, List.length_map, List.length_range]; omega))) (ev_mul ev_int (ev_var A.toWh 4 rfl (.inl rfl) rfl) (by first | exact .inl ⟨by omega, by omega⟩ | exact .inr ⟨by omega, by omega⟩))) (eva_cons (ev_var A.toWh 2 rfl (.inl rfl) rfl) eva_nil)) ⟨_, _, rfl, (by first | omega | assumption | rfl | (simp only [List.length_append, List.length_cons, List.length_nil, List.length_map, List.length_range]; omega)), (by first | omega | assumption | rfl | (simp only [List.length_append, List.length_cons, List.length_nil, List.length_map, List.length_range]; omega)), rfl⟩)) (runB_one (run_ifT (EvT.lift (frzAll_frz _) (evt_not (evt_val (ev_any A.toWh (by rfl) B.any ((evn_lc0 bD 6 A.toWh ⟨rfl, by decide +kernel, rfl, (.inl rfl), Nat.le_of_ble_eq_true rfl⟩ (evi_list (ev_var A.toWh 3 rfl (.inl rfl) rfl)) (fun a1 ha2 X3 hX4 => (ev_or (ev_inT (ev_var (A.toWh.blk hX4) 5 rfl (.inr (.inl rfl)) rfl) (ev_var (A.toWh.blk hX4) 6 rfl (.inl rfl) rfl)) (fun hc6 => (ev_one (ev_inT (ev_var (A.toWh.blk hX4) 6 rfl (.inl rfl) rfl) (ev_var (A.toWh.blk hX4) 5 rfl (.inr (.inl rfl)) rfl)))))) (fun _ => rfl) (by first | omega | assumption | rfl | (simp only [List.length_append, List.length_cons, List.length_nil, List.length_map, List.length_range]; omega)))).ev)))) ?_ (runB_one (run_appendM (enc := sD) A 3 _ rfl (.inl rfl) rfl (ev_var A.toWh 5 rfl (.inr (.inl rfl)) rfl) rfl (by first | omega | assumption | rfl | (simp only [List.length_append, List.length_cons, List.length_nil, List.length_map, List.length_range]; omega))))))))) (ih _ ?_)
        · exact congrArg (fun b => !b) (Bool.eq_false_iff.mpr hc)
        · rw [List.length_append, List.length_singleton]; omega
  have b0 : 0 ≤ cellAt ns a % 4 := Int.emod_nonneg _ (by decide)
  have b4 : cellAt ns a % 4 < 4 := Int.emod_lt_of_pos _ (by decide)
  refine ⟨_, .inl rfl, runB_cons (run_setN A 3 rfl (.inl rfl) (evn_lst (as := []) eva_nil rfl (Nat.zero_le _))) (runB_to [.va (nums ns), .va (iD a), .va (iD sg), .ow ((wordsL ns a sg).map sD), .no, .no, .no] ?_ (runB_one (run_retO A 3 rfl (.inl rfl) rfl)))⟩
  refine (run_for A 4 rfl (.inl rfl) (evi_rangeN A.toWh (by rfl) B.range (ev_add ev_int (ev_mod (ev_call A.toWh c__law_cell_at (by decide) (by rfl) (eva_cons (ev_var A.toWh 0 rfl (.inl rfl) rfl) (eva_cons (ev_var A.toWh 1 rfl (.inl rfl) rfl) eva_nil)) ⟨_, _, rfl, (by first | omega | assumption | rfl | (simp only [List.length_append, List.length_cons, List.length_nil, List.length_map, List.length_range]; omega)), rfl⟩) ev_int (by first | omega | assumption | rfl | (simp only [List.length_append, List.length_cons, List.length_nil, List.length_map, List.length_range]; omega)))) (by first | omega | rfl | assumption) (by first | omega | assumption | rfl | (simp only [List.length_append, List.length_cons, List.length_nil, List.length_map, List.length_range]; omega))) ?_)
  exact loop (List.range (1 + cellAt ns a % 4).toNat) [] (by rw [List.length_range, List.length_nil]; omega)
/-! ### _law_open -/
theorem sc__law_open : FnScope ["words", "row", "many", "word"] ["words", "row"] (defScope (topS 53)) := ⟨rfl, rfl, rfl, by decide +kernel, rfl, by decide +kernel, by decide +kernel⟩
theorem ok__law_open (Df : DfG K mg "_law_open" (topS 53) ["words", "row"]) (B : Bts mg)
    (C : Clss K mg E) : FnG P w K mg base 1 "_law_open" ["words", "row"] S__law_open := by
  refine fn_D Df sc__law_open (fun ds r h => S__law_open_len h) fun X W hP hw hK hm hb A tk ds r hS => ?_
  subst hP hw hK hm hb
  have hsz := szL
  obtain ⟨ws, t, rfl, h1, h2, rfl⟩ := hS
  have loop : ∀ (l : List Nat), ForR X W 2 (bodyOf (stAt (defBody (topS 53)) 0)) (l.map fun (k : Nat) => iD k) [.va (txts ws), .va (sD t), .no, .no] (match l.find? (opT ws t) with | none => .nx [.va (txts ws), .va (sD t), .no, .no] | some k => .rt (sD (cutL t none (some ((k : Int) - 1))))) := by
    intro l
    induction l with
    | nil => exact .nil
    | cons k l ih =>
      cases hc : opT ws t k with
      | true =>
        rw [List.find?_cons_of_pos hc]
        exact .rt (runB_one (run_ifT (evt_val (ev_any A.toWh (by rfl) B.any ((evn_lc0 bD 3 A.toWh ⟨rfl, by decide +kernel, rfl, (.inl rfl), Nat.le_of_ble_eq_true rfl⟩ (evi_list (ev_var A.toWh 0 rfl (.inl rfl) rfl)) (fun a1 ha2 X3 hX4 => (ev_ends (ev_slT (ev_var (A.toWh.blk hX4) 1 rfl (.inr (.inl rfl)) rfl) evo_none (evo_some (ev_var (A.toWh.blk hX4) 2 rfl (.inr (.inl rfl)) rfl)) (by first | omega | assumption | rfl | (simp only [List.length_append, List.length_cons, List.length_nil, List.length_map, List.length_range]; omega))) (ev_var (A.toWh.blk hX4) 3 rfl (.inl rfl) rfl))) (fun _ => rfl) (by first | omega | assumption | rfl | (simp only [List.length_append, List.length_cons, List.length_nil, List.length_map, List.length_range]; omega)))).ev)) hc (runB_one (run_ret (ev_slT (ev_var A.toWh 1 rfl (.inr (.inl rfl)) rfl) evo_none (evo_some (ev_sub (ev_var A.toWh 2 rfl (.inr (.inl rfl)) rfl) ev_int)) (by first | omega | assumption | rfl | (simp only [List.length_append, List.length_cons, List.length_nil, List.length_map, List.length_range]; omega))))))) rfl
      | false =>
        rw [List.find?_cons_of_neg (by rw [hc]; decide)]
        exact .nx (RunB.clrO 2 (runB_one (run_ifF (evt_val (ev_any A.toWh (by rfl) B.any ((evn_lc0 bD 3 A.toWh ⟨rfl, by decide +kernel, rfl, (.inl rfl), Nat.le_of_ble_eq_true rfl⟩ (evi_list (ev_var A.toWh 0 rfl (.inl rfl) rfl)) (fun a1 ha2 X3 hX4 => (ev_ends (ev_slT (ev_var (A.toWh.blk hX4) 1 rfl (.inr (.inl rfl)) rfl) evo_none (evo_some (ev_var (A.toWh.blk hX4) 2 rfl (.inr (.inl rfl)) rfl)) (by first | omega | assumption | rfl | (simp only [List.length_append, List.length_cons, List.length_nil, List.length_map, List.length_range]; omega))) (ev_var (A.toWh.blk hX4) 3 rfl (.inl rfl) rfl))) (fun _ => rfl) (by first | omega | assumption | rfl | (simp only [List.length_append, List.length_cons, List.length_nil, List.length_map, List.length_range]; omega)))).ev)) hc runB_nil))) ih
  have L := loop (List.range ((t.length : Int) + 1).toNat)
  cases hf : (List.range ((t.length : Int) + 1).toNat).find? (opT ws t) with
  | none =>
    have e : openL ws t = t := by unfold openL; rw [hf]
    rw [hf] at L
    rw [e]
    refine ⟨_, .inl rfl, runB_to [.va (txts ws), .va (sD t), .no, .no] ?_ (runB_one (run_ret (ev_var A.toWh 1 rfl (.inr (.inl rfl)) rfl)))⟩
    refine (run_for A 2 rfl (.inr rfl) (evi_rangeN A.toWh (by rfl) B.range (ev_add (ev_lenT' A.toWh (by rfl) B.len (ev_var A.toWh 1 rfl (.inr (.inl rfl)) rfl) (by first | omega | assumption | rfl | (simp only [List.length_append, List.length_cons, List.length_nil, List.length_map, List.length_range]; omega))) ev_int) (by first | omega | rfl | assumption) (by first | omega | assumption | rfl | (simp only [List.length_append, List.length_cons, List.length_nil, List.length_map, List.length_range]; omega))) ?_)
    exact L
  | some k =>
    have e : openL ws t = cutL t none (some ((k : Int) - 1)) := by unfold openL; rw [hf]
    rw [hf] at L
    rw [e]
    refine ⟨_, .inl rfl, runB_stop (u := .rt (sD (cutL t none (some ((k : Int) - 1))))) ?_ rfl⟩
    refine (run_for A 2 rfl (.inr rfl) (evi_rangeN A.toWh (by rfl) B.range (ev_add (ev_lenT' A.toWh (by rfl) B.len (ev_var A.toWh 1 rfl (.inr (.inl rfl)) rfl) (by first | omega | assumption | rfl | (simp only [List.length_append, List.length_cons, List.length_nil, List.length_map, List.length_range]; omega))) ev_int) (by first | omega | rfl | assumption) (by first | omega | assumption | rfl | (simp only [List.length_append, List.length_cons, List.length_nil, List.length_map, List.length_range]; omega))) ?_)
    exact L
/-! ### _law_kind -/
theorem sc__law_kind : FnScope ["e", "kinds"] ["e"] (defScope (topS 54)) := ⟨rfl, rfl, rfl, by decide +kernel, rfl, by decide +kernel, by decide +kernel⟩
theorem ok__law_kind (Df : DfG K mg "_law_kind" (topS 54) ["e"]) (B : Bts mg) (C : Clss K mg E) {D : Addr} {j : Nat} (kd : KindC K E D j) : KndG P w K mg base 1 D (kindN j) := by
  obtain ⟨f, fd, h1, h2, h3⟩ := Df
  obtain ⟨oc, od, kV, doc, pm, an, cdv, ct, osl, rfl, lk, hcd⟩ := h1.ex
  refine ⟨f, _, fn_ofK lk hcd sc__law_kind ?_, h2, h1.kp, h3⟩
  intro X q hP hw hK hm hb A hfn hq hz hf
  subst hP hw hK hm hb
  have hsz := szL
  obtain ⟨b1, b2, b3⟩ := bits7_ok kd.lt
  have hj := kd.lt
  refine runB_to [.rf q.1, .ow ([j == 0, j == 1, j == 2, j == 3].map bD)] (run_setN0 A (hfn _) 1 rfl (.inl rfl) (evn_lstM (enc := bD) [_, _, _, _] (eva_consM _ (ev_isE A kd.xc hq hz hf (m := 0) rfl (.inl rfl) rfl (by rfl) B.isinstance (by rfl) C.die.gl kd.k0) (eva_consM _ (ev_isE A kd.xc hq hz hf (m := 0) rfl (.inl rfl) rfl (by rfl) B.isinstance (by rfl) C.word.gl kd.k1) (eva_consM _ (ev_isE A kd.xc hq hz hf (m := 0) rfl (.inl rfl) rfl (by rfl) B.isinstance (by rfl) C.race.gl kd.k2) (eva_consM _ (ev_isE A kd.xc hq hz hf (m := 0) rfl (.inl rfl) rfl (by rfl) B.isinstance (by rfl) C.row.gl kd.k3) eva_nilM)))) (fun _ => rfl) (by show 4 ≤ sizeLine; omega))) ?_
  refine runB_to [.rf q.1, .ow ((bits7 j).map bD)] (run_setN0 A (hfn _) 1 rfl (.inl rfl) (evn_catM (enc := bD) (evc_own0 A 1 rfl (.inl rfl) rfl) (evn_lstM (enc := bD) [_, _, _] (eva_consM _ (ev_isE A kd.xc hq hz hf (m := 0) rfl (.inl rfl) rfl (by rfl) B.isinstance (by rfl) C.over.gl kd.k4) (eva_consM _ (ev_isE A kd.xc hq hz hf (m := 0) rfl (.inl rfl) rfl (by rfl) B.isinstance (by rfl) C.many.gl kd.k5) (eva_consM _ (ev_isE A kd.xc hq hz hf (m := 0) rfl (.inl rfl) rfl (by rfl) B.isinstance (by rfl) C.note.gl kd.k6) eva_nilM))) (fun _ => rfl) (by show 3 ≤ sizeLine; omega)).toC (by show 4 + 3 ≤ sizeLine; omega))) ?_
  refine runB_cons (run_ifF (EvT.lift (frzAll_frz _) (evw_or (evt_not (evt_val (ev_isEV A kd.xc hq hz hf (m := 0) rfl (.inl rfl) rfl (by rfl) B.isinstance (by rfl) C.value (by rfl) kd.kv))) fun _ => evw_or1 (evt_neI (ev_countB (ev_var0 A 1 rfl (.inl rfl) rfl) ev_bl) ev_int)).t) ?_ runB_nil) (runB_one (Run.cast (run_ret (EvE.lift (frzAll_frz _) (ev_ixG (enc := sD) [] (EvN.ev (evn_lstM (enc := sD) [_, _, _, _, _, _, _] (eva_consM _ (ev_strC [100, 105, 101] (by rfl)) (eva_consM _ (ev_strC [119, 111, 114, 100] (by rfl)) (eva_consM _ (ev_strC [114, 97, 99, 101] (by rfl)) (eva_consM _ (ev_strC [114, 111, 119] (by rfl)) (eva_consM _ (ev_strC [111, 118, 101, 114] (by rfl)) (eva_consM _ (ev_strC [109, 97, 110, 121] (by rfl)) (eva_consM _ (ev_strC [110, 111, 116, 101] (by rfl)) eva_nilM))))))) (fun _ => rfl) (by show 7 ≤ sizeLine; omega))) (ev_indexB (ev_var0 A 1 rfl (.inl rfl) rfl) ev_bl b2) (by omega) (by rw [b3]; show (j : Int) < 7; omega)) rfl)) ?_))
  · rw [b1]; rfl
  · rw [b3]; rfl
/-! ### _law_asked -/
theorem sc__law_asked : FnScope ["turn", "die", "words", "row"] ["turn", "die", "words", "row"] (defScope (topS 55)) := ⟨rfl, rfl, rfl, by decide +kernel, rfl, by decide +kernel, by decide +kernel⟩
theorem ok__law_asked (Df : DfG K mg "_law_asked" (topS 55) ["turn", "die", "words", "row"]) (B : Bts mg)
    (C : Clss K mg E)
    (c_mean : FnG P w K mg base 7 "mean" ["die", "words", "row"] (fun ds r => S_mean ds r ∨ XX_mean E ds r))
    (c_state_of : FnG P w K mg base 4 "state_of" ["die", "words", "row"] (fun ds r => S_state_of ds r ∨ XX_state_of E ds r))
    (c_ended : FnG P w K mg base 4 "ended" ["die", "words", "row"] (fun ds r => S_ended ds r ∨ XX_ended E ds r))
    (c_shares : FnG P w K mg base 7 "shares" ["die", "words", "row"] (fun ds r => S_shares ds r ∨ XX_shares E ds r)) : FnG P w K mg base 8 "_law_asked" ["turn", "die", "words", "row"] (S17__law_asked E) := by
  refine fn_D Df sc__law_asked (fun ds r h => S17__law_asked_len h) fun X W hP hw hK hm hb A tk ds r hS => ?_
  subst hP hw hK hm hb
  have hsz := szL
  obtain ⟨t, die, ws, row, rfl, ok, lr, t0, t1, how⟩ := hS
  have sz := ok.sz
  rcases how with ⟨bad, rfl⟩ | ⟨hr, t2, hf, rfl⟩ | ⟨hr, hf, rfl⟩
  · refine ⟨_, .inl rfl, ?_⟩
    by_cases e0 : t = 0
    · exact runB_X (run_ifT (evt_eqI (ev_var A.toWh 0 rfl (.inl rfl) rfl) ev_int) (decide_eq_true e0) (runB_one (run_retX (evx_call A.toWh tk c_state_of (by decide) (by rfl) (eva_cons (ev_var A.toWh 1 rfl (.inl rfl) rfl) (eva_cons (ev_var A.toWh 2 rfl (.inl rfl) rfl) (eva_cons (ev_var A.toWh 3 rfl (.inl rfl) rfl) eva_nil))) (.inr ⟨_, _, _, _, rfl, (by first | exact sz | exact lr), (by first | exact sz | exact lr), (by exact .inr ⟨ok, bad, rfl⟩), rfl⟩)))))
    refine runB_cons (run_ifF (evt_eqI (ev_var A.toWh 0 rfl (.inl rfl) rfl) ev_int) (decide_eq_false e0) runB_nil) ?_
    by_cases e1 : t = 1
    · exact runB_X (run_ifT (evt_eqI (ev_var A.toWh 0 rfl (.inl rfl) rfl) ev_int) (decide_eq_true e1) (runB_one (run_retX (evx_call A.toWh tk c_ended (by decide) (by rfl) (eva_cons (ev_var A.toWh 1 rfl (.inl rfl) rfl) (eva_cons (ev_var A.toWh 2 rfl (.inl rfl) rfl) (eva_cons (ev_var A.toWh 3 rfl (.inl rfl) rfl) eva_nil))) (.inr ⟨_, _, _, _, rfl, (by first | exact sz | exact lr), (by first | exact sz | exact lr), (by exact .inr ⟨ok, bad, rfl⟩), rfl⟩)))))
    refine runB_cons (run_ifF (evt_eqI (ev_var A.toWh 0 rfl (.inl rfl) rfl) ev_int) (decide_eq_false e1) runB_nil) ?_
    by_cases e2 : t = 2
    · exact runB_X (run_ifT (evt_eqI (ev_var A.toWh 0 rfl (.inl rfl) rfl) ev_int) (decide_eq_true e2) (runB_one (run_retX (evx_call A.toWh tk c_shares (by decide) (by rfl) (eva_cons (ev_var A.toWh 1 rfl (.inl rfl) rfl) (eva_cons (ev_var A.toWh 2 rfl (.inl rfl) rfl) (eva_cons (ev_var A.toWh 3 rfl (.inl rfl) rfl) eva_nil))) (.inr ⟨_, _, _, _, rfl, (by first | exact sz | exact lr), (by first | exact sz | exact lr), (by exact .inl (.inr ⟨ok, bad, rfl⟩)), rfl⟩)))))
    refine runB_cons (run_ifF (evt_eqI (ev_var A.toWh 0 rfl (.inl rfl) rfl) ev_int) (decide_eq_false e2) runB_nil) ?_
    exact runB_one (run_retX (evx_call A.toWh tk c_mean (by decide) (by rfl) (eva_cons (ev_var A.toWh 1 rfl (.inl rfl) rfl) (eva_cons (ev_var A.toWh 2 rfl (.inl rfl) rfl) (eva_cons (ev_var A.toWh 3 rfl (.inl rfl) rfl) eva_nil))) (.inr ⟨_, _, _, _, rfl, (by first | exact sz | exact lr), (by first | exact sz | exact lr), (by exact .inl (.inr ⟨ok, bad, rfl⟩)), rfl⟩)))
  · refine ⟨_, .inl rfl, runB_cons (run_ifF (evt_eqI (ev_var A.toWh 0 rfl (.inl rfl) rfl) ev_int) (decide_eq_false (by omega)) runB_nil) (runB_cons (run_ifF (evt_eqI (ev_var A.toWh 0 rfl (.inl rfl) rfl) ev_int) (decide_eq_false (by omega)) runB_nil) ?_)⟩
    by_cases e2 : t = 2
    · exact runB_X (run_ifT (evt_eqI (ev_var A.toWh 0 rfl (.inl rfl) rfl) ev_int) (decide_eq_true e2) (runB_one (run_retX (evx_call A.toWh tk c_shares (by decide) (by rfl) (eva_cons (ev_var A.toWh 1 rfl (.inl rfl) rfl) (eva_cons (ev_var A.toWh 2 rfl (.inl rfl) rfl) (eva_cons (ev_var A.toWh 3 rfl (.inl rfl) rfl) eva_nil))) (.inr ⟨_, _, _, _, rfl, (by first | exact sz | exact lr), (by first | exact sz | exact lr), (by exact .inr ⟨ok, hr, hf, rfl⟩), rfl⟩)))))
    refine runB_cons (run_ifF (evt_eqI (ev_var A.toWh 0 rfl (.inl rfl) rfl) ev_int) (decide_eq_false e2) runB_nil) ?_
    exact runB_one (run_retX (evx_call A.toWh tk c_mean (by decide) (by rfl) (eva_cons (ev_var A.toWh 1 rfl (.inl rfl) rfl) (eva_cons (ev_var A.toWh 2 rfl (.inl rfl) rfl) (eva_cons (ev_var A.toWh 3 rfl (.inl rfl) rfl) eva_nil))) (.inr ⟨_, _, _, _, rfl, (by first | exact sz | exact lr), (by first | exact sz | exact lr), (by exact .inr ⟨ok, hr, hf, rfl⟩), rfl⟩)))
  · refine ⟨_, .inl rfl, ?_⟩
    by_cases e0 : t = 0
    · exact runB_stop (run_ifT (evt_eqI (ev_var A.toWh 0 rfl (.inl rfl) rfl) ev_int) (decide_eq_true e0) (runB_one (run_retD ((ev_call A.toWh c_state_of (by decide) (by rfl) (eva_cons (ev_var A.toWh 1 rfl (.inl rfl) rfl) (eva_cons (ev_var A.toWh 2 rfl (.inl rfl) rfl) (eva_cons (ev_var A.toWh 3 rfl (.inl rfl) rfl) eva_nil))) (.inl ⟨_, _, _, rfl, (by exact ok), (by exact hr), rfl⟩))).dn))) rfl
    refine runB_cons (run_ifF (evt_eqI (ev_var A.toWh 0 rfl (.inl rfl) rfl) ev_int) (decide_eq_false e0) runB_nil) ?_
    by_cases e1 : t = 1
    · exact runB_stop (run_ifT (evt_eqI (ev_var A.toWh 0 rfl (.inl rfl) rfl) ev_int) (decide_eq_true e1) (runB_one (run_retD ((ev_call A.toWh c_ended (by decide) (by rfl) (eva_cons (ev_var A.toWh 1 rfl (.inl rfl) rfl) (eva_cons (ev_var A.toWh 2 rfl (.inl rfl) rfl) (eva_cons (ev_var A.toWh 3 rfl (.inl rfl) rfl) eva_nil))) (.inl ⟨_, _, _, rfl, (by exact ok), (by exact hr), rfl⟩))).dn))) rfl
    refine runB_cons (run_ifF (evt_eqI (ev_var A.toWh 0 rfl (.inl rfl) rfl) ev_int) (decide_eq_false e1) runB_nil) ?_
    have op : opOk die ws row := ⟨ok, hr, hf.resolve_left (by omega)⟩
    by_cases e2 : t = 2
    · exact runB_stop (run_ifT (evt_eqI (ev_var A.toWh 0 rfl (.inl rfl) rfl) ev_int) (decide_eq_true e2) (runB_one (run_retD ((evn_call A.toWh c_shares (by decide) (by rfl) (eva_cons (ev_var A.toWh 1 rfl (.inl rfl) rfl) (eva_cons (ev_var A.toWh 2 rfl (.inl rfl) rfl) (eva_cons (ev_var A.toWh 3 rfl (.inl rfl) rfl) eva_nil))) (.inl ⟨_, _, _, rfl, (by exact op), rfl⟩))).dn))) rfl
    refine runB_cons (run_ifF (evt_eqI (ev_var A.toWh 0 rfl (.inl rfl) rfl) ev_int) (decide_eq_false e2) runB_nil) ?_
    exact runB_one (run_retD ((ev_call A.toWh c_mean (by decide) (by rfl) (eva_cons (ev_var A.toWh 1 rfl (.inl rfl) rfl) (eva_cons (ev_var A.toWh 2 rfl (.inl rfl) rfl) (eva_cons (ev_var A.toWh 3 rfl (.inl rfl) rfl) eva_nil))) (.inl ⟨_, _, _, rfl, (by exact op), rfl⟩))).dn)
/-! ### _law_tried -/
theorem sc__law_tried : FnScope ["turn", "die", "words", "given", "e"] ["turn", "die", "words", "given"] (defScope (topS 56)) := ⟨rfl, rfl, rfl, by decide +kernel, rfl, by decide +kernel, by decide +kernel⟩
theorem ok__law_tried (Df : DfG K mg "_law_tried" (topS 56) ["turn", "die", "words", "given"]) (B : Bts mg)
    (C : Clss K mg E)
    (c_open_rows : FnG P w K mg base 5 "open_rows" ["die", "words", "many"] (fun ds r => S_open_rows ds r ∨ XX_open_rows E ds r))
    (c__law_kind_row : KndG P w K mg base 1 E.row (kindN 3)) (k_row : KindC K E E.row 3)
    (c__law_kind_over : KndG P w K mg base 1 E.over (kindN 4)) (k_over : KindC K E E.over 4)
    (c_ended_rows : FnG P w K mg base 5 "ended_rows" ["die", "words", "many"] (fun ds r => S_ended_rows ds r ∨ XX_ended_rows E ds r))
    (c__law_asked : FnG P w K mg base 8 "_law_asked" ["turn", "die", "words", "row"] (S17__law_asked E)) : FnG P w K mg base 9 "_law_tried" ["turn", "die", "words", "given"] (S17__law_tried E) := by
  refine fn_D Df sc__law_tried (fun ds r h => S17__law_tried_len h) fun X W hP hw hK hm hb A tk ds r hS => ?_
  subst hP hw hK hm hb
  have hsz := szL
  obtain ⟨t, die, ws, g, rfl, ok, how⟩ := hS
  have sz := ok.sz
  rcases how with ⟨row, rfl, lr, t0, t4, how⟩ | ⟨m, rfl, ht, how⟩
  · rcases how with ⟨hr, rfl⟩ | ⟨hr, t2, hf, rfl⟩ | ⟨hr, hf, rfl⟩
    · exact ⟨_, .inl rfl, runB_stop (run_try (i := 4) (u := .ex (.ref E.row)) (v := .rt (sD (kindN 3))) A tk rfl rfl (by rfl) C.base k_row.ex rfl (fun W' pn xe A tk => runB_one (run_ifF (evt_eqI (ev_var A.toWh 0 rfl (.inl rfl) rfl) ev_int) (decide_eq_false (by omega)) (runB_one (run_ifF (evt_eqI (ev_var A.toWh 0 rfl (.inl rfl) rfl) ev_int) (decide_eq_false (by omega)) (runB_one (run_exprX (evx_call A.toWh tk c__law_asked (by decide) (by rfl) (eva_cons (ev_var A.toWh 0 rfl (.inl rfl) rfl) (eva_cons (ev_var A.toWh 1 rfl (.inl rfl) rfl) (eva_cons (ev_var A.toWh 2 rfl (.inl rfl) rfl) (eva_cons (ev_var A.toWh 3 rfl (.inl rfl) rfl) eva_nil)))) ⟨_, _, _, _, rfl, (by exact ok), (by exact lr), (by exact t0), (by exact t4), (by exact .inl ⟨hr, rfl⟩)⟩))))))) (.inl rfl) (fun _ a oe pn W' hz hf => ⟨_, rfl, runB_one (run_ret (ev_kind (i := 4) A.toWh0.suite A.roomS c__law_kind_row (by decide) List.mem_cons_self hz hf rfl (.inl rfl) rfl (by rfl)))⟩)) rfl⟩
    · exact ⟨_, .inl rfl, runB_stop (run_try (i := 4) (u := .ex (.ref E.over)) (v := .rt (sD (kindN 4))) A tk rfl rfl (by rfl) C.base k_over.ex rfl (fun W' pn xe A tk => runB_one (run_ifF (evt_eqI (ev_var A.toWh 0 rfl (.inl rfl) rfl) ev_int) (decide_eq_false (by omega)) (runB_one (run_ifF (evt_eqI (ev_var A.toWh 0 rfl (.inl rfl) rfl) ev_int) (decide_eq_false (by omega)) (runB_one (run_exprX (evx_call A.toWh tk c__law_asked (by decide) (by rfl) (eva_cons (ev_var A.toWh 0 rfl (.inl rfl) rfl) (eva_cons (ev_var A.toWh 1 rfl (.inl rfl) rfl) (eva_cons (ev_var A.toWh 2 rfl (.inl rfl) rfl) (eva_cons (ev_var A.toWh 3 rfl (.inl rfl) rfl) eva_nil)))) ⟨_, _, _, _, rfl, (by exact ok), (by exact lr), (by exact t0), (by exact t4), (by exact .inr (.inl ⟨hr, t2, hf, rfl⟩))⟩))))))) (.inl rfl) (fun _ a oe pn W' hz hf => ⟨_, rfl, runB_one (run_ret (ev_kind (i := 4) A.toWh0.suite A.roomS c__law_kind_over (by decide) List.mem_cons_self hz hf rfl (.inl rfl) rfl (by rfl)))⟩)) rfl⟩
    · exact ⟨_, .inl rfl, runB_cons (run_try (i := 4) (u := .nx [.va (iD t), .va (nums die), .va (txts ws), .va (sD row), .no]) (v := .nx [.va (iD t), .va (nums die), .va (txts ws), .va (sD row), .no]) (C := E.row) A tk rfl rfl (by rfl) C.base k_row.ex rfl (fun W' pn xe A tk => runB_one (run_ifF (evt_eqI (ev_var A.toWh 0 rfl (.inl rfl) rfl) ev_int) (decide_eq_false (by omega)) (runB_one (run_ifF (evt_eqI (ev_var A.toWh 0 rfl (.inl rfl) rfl) ev_int) (decide_eq_false (by omega)) (runB_one (run_exprD (evd_call A.toWh c__law_asked (by decide) (by rfl) (eva_cons (ev_var A.toWh 0 rfl (.inl rfl) rfl) (eva_cons (ev_var A.toWh 1 rfl (.inl rfl) rfl) (eva_cons (ev_var A.toWh 2 rfl (.inl rfl) rfl) (eva_cons (ev_var A.toWh 3 rfl (.inl rfl) rfl) eva_nil)))) ⟨_, _, _, _, rfl, (by exact ok), (by exact lr), (by exact t0), (by exact t4), (by exact .inr (.inr ⟨hr, hf, rfl⟩))⟩))))))) (.inr rfl) (fun h => nomatch h)) (runB_one (run_ret (ev_strC [100, 111, 110, 101] (by rfl))))⟩
  · rcases how with ⟨hb, rfl⟩ | ⟨hb, rfl⟩
    · rcases ht with rfl | rfl
      · exact ⟨_, .inl rfl, runB_stop (run_try (i := 4) (u := .ex (.ref E.row)) (v := .rt (sD (kindN 3))) A tk rfl rfl (by rfl) C.base k_row.ex rfl (fun W' pn xe A tk => runB_one (run_ifT (evt_eqI (ev_var A.toWh 0 rfl (.inl rfl) rfl) ev_int) rfl (runB_one (run_exprX (evx_call A.toWh tk c_open_rows (by decide) (by rfl) (eva_cons (ev_var A.toWh 1 rfl (.inl rfl) rfl) (eva_cons (ev_var A.toWh 2 rfl (.inl rfl) rfl) (eva_cons (ev_var A.toWh 3 rfl (.inl rfl) rfl) eva_nil))) (.inr ⟨_, _, _, _, rfl, (by exact sz), (by exact .inr ⟨ok, hb, rfl⟩), rfl⟩)))))) (.inl rfl) (fun _ a oe pn W' hz hf => ⟨_, rfl, runB_one (run_ret (ev_kind (i := 4) A.toWh0.suite A.roomS c__law_kind_row (by decide) List.mem_cons_self hz hf rfl (.inl rfl) rfl (by rfl)))⟩)) rfl⟩
      · exact ⟨_, .inl rfl, runB_stop (run_try (i := 4) (u := .ex (.ref E.row)) (v := .rt (sD (kindN 3))) A tk rfl rfl (by rfl) C.base k_row.ex rfl (fun W' pn xe A tk => runB_one (run_ifF (evt_eqI (ev_var A.toWh 0 rfl (.inl rfl) rfl) ev_int) rfl (runB_one (run_ifT (evt_eqI (ev_var A.toWh 0 rfl (.inl rfl) rfl) ev_int) rfl (runB_one (run_exprX (evx_call A.toWh tk c_ended_rows (by decide) (by rfl) (eva_cons (ev_var A.toWh 1 rfl (.inl rfl) rfl) (eva_cons (ev_var A.toWh 2 rfl (.inl rfl) rfl) (eva_cons (ev_var A.toWh 3 rfl (.inl rfl) rfl) eva_nil))) (.inr ⟨_, _, _, _, rfl, (by exact sz), (by exact .inr ⟨ok, hb, rfl⟩), rfl⟩)))))))) (.inl rfl) (fun _ a oe pn W' hz hf => ⟨_, rfl, runB_one (run_ret (ev_kind (i := 4) A.toWh0.suite A.roomS c__law_kind_row (by decide) List.mem_cons_self hz hf rfl (.inl rfl) rfl (by rfl)))⟩)) rfl⟩
    · obtain ⟨m0, m1⟩ := hb
      rcases ht with rfl | rfl
      · exact ⟨_, .inl rfl, runB_cons (run_try (i := 4) (u := .nx [.va (iD 4), .va (nums die), .va (txts ws), .va (iD m), .no]) (v := .nx [.va (iD 4), .va (nums die), .va (txts ws), .va (iD m), .no]) (C := E.row) A tk rfl rfl (by rfl) C.base k_row.ex rfl (fun W' pn xe A tk => runB_one (run_ifT (evt_eqI (ev_var A.toWh 0 rfl (.inl rfl) rfl) ev_int) rfl (runB_one (run_exprD ((ev_call A.toWh c_open_rows (by decide) (by rfl) (eva_cons (ev_var A.toWh 1 rfl (.inl rfl) rfl) (eva_cons (ev_var A.toWh 2 rfl (.inl rfl) rfl) (eva_cons (ev_var A.toWh 3 rfl (.inl rfl) rfl) eva_nil))) (.inl ⟨_, _, _, rfl, (by exact ok), (by first | omega | assumption | rfl | (simp only [List.length_append, List.length_cons, List.length_nil, List.length_map, List.length_range]; omega)), (by first | omega | assumption | rfl | (simp only [List.length_append, List.length_cons, List.length_nil, List.length_map, List.length_range]; omega)), rfl⟩))).dn)))) (.inr rfl) (fun h => nomatch h)) (runB_one (run_ret (ev_strC [100, 111, 110, 101] (by rfl))))⟩
      · exact ⟨_, .inl rfl, runB_cons (run_try (i := 4) (u := .nx [.va (iD 5), .va (nums die), .va (txts ws), .va (iD m), .no]) (v := .nx [.va (iD 5), .va (nums die), .va (txts ws), .va (iD m), .no]) (C := E.row) A tk rfl rfl (by rfl) C.base k_row.ex rfl (fun W' pn xe A tk => runB_one (run_ifF (evt_eqI (ev_var A.toWh 0 rfl (.inl rfl) rfl) ev_int) rfl (runB_one (run_ifT (evt_eqI (ev_var A.toWh 0 rfl (.inl rfl) rfl) ev_int) rfl (runB_one (run_exprD ((evn_call A.toWh c_ended_rows (by decide) (by rfl) (eva_cons (ev_var A.toWh 1 rfl (.inl rfl) rfl) (eva_cons (ev_var A.toWh 2 rfl (.inl rfl) rfl) (eva_cons (ev_var A.toWh 3 rfl (.inl rfl) rfl) eva_nil))) (.inl ⟨_, _, _, rfl, (by exact ok), (by first | omega | assumption | rfl | (simp only [List.length_append, List.length_cons, List.length_nil, List.length_map, List.length_range]; omega)), (by first | omega | assumption | rfl | (simp only [List.length_append, List.length_cons, List.length_nil, List.length_map, List.length_range]; omega)), rfl⟩))).dn)))))) (.inr rfl) (fun h => nomatch h)) (runB_one (run_ret (ev_strC [100, 111, 110, 101] (by rfl))))⟩
/-! ### law -/
theorem sc_law : FnScope ["script", "die", "words", "row", "at", "bad", "turn", "still", "taken", "far", "many"] ["script"] (defScope (topS 57)) := ⟨rfl, rfl, rfl, by decide +kernel, rfl, by decide +kernel, by decide +kernel⟩
theorem ok_law {f : Addr} {fd : FuncData} (Fu : Fun K "law" "law" (topS 57) f fd) (B : Bts mg)
    (C : Clss K mg E)
    (c__law_die : FnG P w K mg base 2 "_law_die" ["cell"] S__law_die)
    (c__law_thrown : FnG P w K mg base 2 "_law_thrown" ["cell", "many", "signs"] S__law_thrown)
    (c__law_words : FnG P w K mg base 4 "_law_words" ["script", "at", "signs"] S__law_words)
    (c__law_cell_at : FnG P w K mg base 1 "_law_cell_at" ["script", "k"] S__law_cell_at)
    (c__law_open : FnG P w K mg base 1 "_law_open" ["words", "row"] S__law_open)
    (c__law_tried : FnG P w K mg base 9 "_law_tried" ["turn", "die", "words", "given"] (S17__law_tried E)) : FnOk P w K mg base (L2.CX P w) 10 f fd ["script"] (spD K S_law) := by
  refine fn_body Fu sc_law (fun ds r h => S_law_len h) fun X W hP hw hK hm hb A tk ds r hS => ?_
  subst hP hw hK hm hb
  have hsz := szL
  obtain ⟨ns, rfl, hl, rfl⟩ := hS
  refine ⟨_, .inl rfl, runB_cons (run_set A 1 rfl (.inl rfl) ((evn_call A.toWh c__law_die (by decide) (by rfl) (eva_cons (ev_mod (ev_call A.toWh c__law_cell_at (by decide) (by rfl) (eva_cons (ev_var A.toWh 0 rfl (.inl rfl) rfl) (eva_cons ev_int eva_nil)) ⟨_, _, rfl, (by first | omega | assumption | rfl | (simp only [List.length_append, List.length_cons, List.length_nil, List.length_map, List.length_range]; omega)), rfl⟩) ev_int (by first | omega | assumption | rfl | (simp only [List.length_append, List.length_cons, List.length_nil, List.length_map, List.length_range]; omega))) eva_nil) ⟨_, rfl, rfl⟩)).ev) ?_⟩
  have dk := dieL_ok (cellAt ns 0 % 1000003)
  generalize dieL (cellAt ns 0 % 1000003) = die at dk
  have d2 := dk.1
  have d4 := dk.2.1
  have ok := (wordsL_ok ns 1 dk).two
  refine runB_cons (run_set A 2 rfl (.inl rfl) ((evn_slM ((evn_call A.toWh c__law_words (by decide) (by rfl) (eva_cons (ev_var A.toWh 0 rfl (.inl rfl) rfl) (eva_cons ev_int (eva_cons (ev_lenM A.toWh (by rfl) B.len (ev_var A.toWh 1 rfl (.inl rfl) rfl)) eva_nil))) ⟨_, _, _, rfl, (by first | omega | assumption | rfl | (simp only [List.length_append, List.length_cons, List.length_nil, List.length_map, List.length_range]; omega)), (by first | omega | assumption | rfl | (simp only [List.length_append, List.length_cons, List.length_nil, List.length_map, List.length_range]; omega)), (by first | omega | assumption | rfl | (simp only [List.length_append, List.length_cons, List.length_nil, List.length_map, List.length_range]; omega)), rfl⟩)).ev evo_none (evo_some ev_int))).ev) ?_
  generalize cutL (wordsL ns 1 die.length) none (some 2) = ws at ok
  have o4 := ok.four
  have o1 := ok.2.2.1
  have ra := race_a dk
  have l60 := thrownL_len (cellAt ns 6) (60 : Int).toNat die.length
  have e60 : (60 : Int).toNat = 60 := rfl
  rw [e60] at l60
  have hr : okRow die.length (thrownL (cellAt ns 6) 60 die.length) := ⟨by omega, thrownL_ok _ _ _ (by omega) d4⟩
  refine runB_to [.va (nums ns), .va (nums die), .va (txts ws), .va (sD (thrownL (cellAt ns 6) 60 die.length)), .no, .no, .no, .no, .no, .no, .no] (run_set A 3 rfl (.inl rfl) (ev_call A.toWh c__law_thrown (by decide) (by rfl) (eva_cons (ev_call A.toWh c__law_cell_at (by decide) (by rfl) (eva_cons (ev_var A.toWh 0 rfl (.inl rfl) rfl) (eva_cons ev_int eva_nil)) ⟨_, _, rfl, (by first | omega | assumption | rfl | (simp only [List.length_append, List.length_cons, List.length_nil, List.length_map, List.length_range]; omega)), rfl⟩) (eva_cons ev_int (eva_cons (ev_lenM A.toWh (by rfl) B.len (ev_var A.toWh 1 rfl (.inl rfl) rfl)) eva_nil))) ⟨_, _, _, rfl, (by first | omega | assumption | rfl | (simp only [List.length_append, List.length_cons, List.length_nil, List.length_map, List.length_range]; omega)), (by first | omega | assumption | rfl | (simp only [List.length_append, List.length_cons, List.length_nil, List.length_map, List.length_range]; omega)), (by first | omega | assumption | rfl | (simp only [List.length_append, List.length_cons, List.length_nil, List.length_map, List.length_range]; omega)), (by first | omega | assumption | rfl | (simp only [List.length_append, List.length_cons, List.length_nil, List.length_map, List.length_range]; omega)), rfl⟩)) ?_
  generalize thrownL (cellAt ns 6) 60 die.length = row at hr l60
  have a0 : 0 ≤ cellAt ns 7 % 60 := Int.emod_nonneg _ (by decide)
  have a1 : cellAt ns 7 % 60 < 60 := Int.emod_lt_of_pos _ (by decide)
  refine runB_cons (run_set A 4 rfl (.inl rfl) (ev_mod (ev_call A.toWh c__law_cell_at (by decide) (by rfl) (eva_cons (ev_var A.toWh 0 rfl (.inl rfl) rfl) (eva_cons ev_int eva_nil)) ⟨_, _, rfl, (by first | omega | assumption | rfl | (simp only [List.length_append, List.length_cons, List.length_nil, List.length_map, List.length_range]; omega)), rfl⟩) ev_int (by first | omega | assumption | rfl | (simp only [List.length_append, List.length_cons, List.length_nil, List.length_map, List.length_range]; omega)))) ?_
  generalize cellAt ns 7 % 60 = at_ at a0 a1
  have b1 := cutL_len row none (some (1 + cellAt ns 8 % 30))
  refine runB_cons (run_set A 5 rfl (.inl rfl) (ev_addT (ev_var A.toWh 3 rfl (.inl rfl) rfl) (ev_slT (ev_var A.toWh 3 rfl (.inl rfl) rfl) evo_none (evo_some (ev_add ev_int (ev_mod (ev_call A.toWh c__law_cell_at (by decide) (by rfl) (eva_cons (ev_var A.toWh 0 rfl (.inl rfl) rfl) (eva_cons ev_int eva_nil)) ⟨_, _, rfl, (by first | omega | assumption | rfl | (simp only [List.length_append, List.length_cons, List.length_nil, List.length_map, List.length_range]; omega)), rfl⟩) ev_int (by first | omega | assumption | rfl | (simp only [List.length_append, List.length_cons, List.length_nil, List.length_map, List.length_range]; omega))))) (by omega)) (by omega))) ?_
  obtain ⟨n1, n2⟩ := bad_long (n := die.length) l60 (cellAt ns 8)
  generalize row ++ cutL row none (some (1 + cellAt ns 8 % 30)) = bad0 at n1 n2
  have rest : ∀ bad : List Nat, ¬ okRow die.length bad → bad.length ≤ 1000 → RunB X W (((defBody (topS 57))).drop 6) [.va (nums ns), .va (nums die), .va (txts ws), .va (sD row), .va (iD at_), .va (sD bad), .no, .no, .no, .no, .no] (.rt (bD true)) := by
    intro bad hb lb
    have loop1 : ∀ l : List Nat, (∀ j ∈ l, j < 4) → ForR X W 6 (bodyOf (stAt (defBody (topS 57)) 6)) (l.map fun (j : Nat) => iD j) [.va (nums ns), .va (nums die), .va (txts ws), .va (sD row), .va (iD at_), .va (sD bad), .no, .no, .no, .no, .no] (.nx [.va (nums ns), .va (nums die), .va (txts ws), .va (sD row), .va (iD at_), .va (sD bad), .no, .no, .no, .no, .no]) := by
      intro l
      induction l with
      | nil => intro _; exact .nil
      | cons j l ih =>
        intro h
        have hj := h j List.mem_cons_self
        refine .nx (RunB.clrO 6 (runB_one (run_ifF (evt_neT (ev_call A.toWh c__law_tried (by decide) (by rfl) (eva_cons (ev_var A.toWh 6 rfl (.inl rfl) rfl) (eva_cons ((evn_list A.toWh (by rfl) B.list (ev_var A.toWh 1 rfl (.inl rfl) rfl))).ev (eva_cons ((evn_list A.toWh (by rfl) B.list (ev_var A.toWh 2 rfl (.inl rfl) rfl))).ev (eva_cons (ev_var A.toWh 5 rfl (.inl rfl) rfl) eva_nil)))) ⟨_, _, _, _, rfl, (by exact ok), (by exact .inl ⟨bad, rfl, lb, by omega, by omega, .inl ⟨hb, rfl⟩⟩)⟩) (ev_strC [114, 111, 119] (by rfl))) ?_ runB_nil))) (ih fun j hj => h j (List.mem_cons_of_mem _ hj))
        decide
    refine runB_to [.va (nums ns), .va (nums die), .va (txts ws), .va (sD row), .va (iD at_), .va (sD bad), .no, .no, .no, .no, .no] ?_ ?_
    · refine (run_for A 6 rfl (.inl rfl) (evi_rangeN A.toWh (by rfl) B.range ev_int (by rfl) (by first | omega | assumption | rfl | (simp only [List.length_append, List.length_cons, List.length_nil, List.length_map, List.length_range]; omega))) ?_)
      exact loop1 (List.range 4) (fun j hj => List.mem_range.mp hj)
    have r6 := hr.1
    have ol := open_len ws row
    obtain ⟨s1, s2, s3⟩ := still_ok ok hr
    refine runB_cons (run_set A 7 rfl (.inl rfl) (ev_slT (ev_call A.toWh c__law_open (by decide) (by rfl) (eva_cons (ev_var A.toWh 2 rfl (.inl rfl) rfl) (eva_cons (ev_var A.toWh 3 rfl (.inl rfl) rfl) eva_nil)) ⟨_, _, rfl, (by first | omega | assumption | rfl | (simp only [List.length_append, List.length_cons, List.length_nil, List.length_map, List.length_range]; omega)), (by first | omega | assumption | rfl | (simp only [List.length_append, List.length_cons, List.length_nil, List.length_map, List.length_range]; omega)), rfl⟩) evo_none (evo_some ev_int) (by first | omega | assumption | rfl | (simp only [List.length_append, List.length_cons, List.length_nil, List.length_map, List.length_range]; omega)))) ?_
    generalize cutL (openL ws row) none (some 40) = still at s1 s2 s3
    have w0 : 0 ≤ cellAt ns 10 % (ws.length : Int) := Int.emod_nonneg _ (by omega)
    have w1 : cellAt ns 10 % (ws.length : Int) < ws.length := Int.emod_lt_of_pos _ (by omega)
    have wm : ws.getD (cellAt ns 10 % (ws.length : Int)).toNat [] ∈ ws := by
      rw [getD_lt (show (cellAt ns 10 % (ws.length : Int)).toNat < ws.length by omega)]
      exact List.getElem_mem _
    have w6 := ok.six _ wm
    have tk' := taken_ok ok s1 s3 hr wm (cellAt ns 11)
    have c2 := cutL_len row none (some (cellAt ns 11 % 14))
    refine runB_cons (run_set A 8 rfl (.inl rfl) (ev_addT (ev_addT (ev_var A.toWh 7 rfl (.inl rfl) rfl) (ev_ixG (enc := sD) [] (ev_var A.toWh 2 rfl (.inl rfl) rfl) (ev_mod (ev_call A.toWh c__law_cell_at (by decide) (by rfl) (eva_cons (ev_var A.toWh 0 rfl (.inl rfl) rfl) (eva_cons ev_int eva_nil)) ⟨_, _, rfl, (by first | omega | assumption | rfl | (simp only [List.length_append, List.length_cons, List.length_nil, List.length_map, List.length_range]; omega)), rfl⟩) (ev_lenM A.toWh (by rfl) B.len (ev_var A.toWh 2 rfl (.inl rfl) rfl)) (by first | omega | decide)) (by first | omega | assumption | rfl | (simp only [List.length_append, List.length_cons, List.length_nil, List.length_map, List.length_range]; omega)) (by first | omega | assumption | rfl | (simp only [List.length_append, List.length_cons, List.length_nil, List.length_map, List.length_range]; omega))) (by first | omega | (rw [List.length_append]; omega))) (ev_slT (ev_var A.toWh 3 rfl (.inl rfl) rfl) evo_none (evo_some (ev_mod (ev_call A.toWh c__law_cell_at (by decide) (by rfl) (eva_cons (ev_var A.toWh 0 rfl (.inl rfl) rfl) (eva_cons ev_int eva_nil)) ⟨_, _, rfl, (by first | omega | assumption | rfl | (simp only [List.length_append, List.length_cons, List.length_nil, List.length_map, List.length_range]; omega)), rfl⟩) ev_int (by first | omega | decide))) (by first | omega | (rw [List.length_append]; omega))) (by first | omega | (rw [List.length_append]; omega)))) ?_
    generalize still ++ ws.getD (cellAt ns 10 % (ws.length : Int)).toNat [] ++ cutL row none (some (cellAt ns 11 % 14)) = taken at tk'
    obtain ⟨t1, t2⟩ := tk'
    have t6 := t1.1
    have loop2 : ∀ l : List Nat, (∀ j ∈ l, j < 4) → ForR X W 6 (bodyOf (stAt (defBody (topS 57)) 9)) (l.map fun (j : Nat) => iD j) [.va (nums ns), .va (nums die), .va (txts ws), .va (sD row), .va (iD at_), .va (sD bad), .no, .va (sD still), .va (sD taken), .no, .no] (.nx [.va (nums ns), .va (nums die), .va (txts ws), .va (sD row), .va (iD at_), .va (sD bad), .no, .va (sD still), .va (sD taken), .no, .no]) := by
      intro l
      induction l with
      | nil => intro _; exact .nil
      | cons j l ih =>
        intro h
        have hj := h j List.mem_cons_self
        refine .nx (RunB.clrO 6 (show RunB X W _ [.va (nums ns), .va (nums die), .va (txts ws), .va (sD row), .va (iD at_), .va (sD bad), .va (iD j), .va (sD still), .va (sD taken), .no, .no] (.nx [.va (nums ns), .va (nums die), .va (txts ws), .va (sD row), .va (iD at_), .va (sD bad), .va (iD j), .va (sD still), .va (sD taken), .no, .no]) from ?_)) (ih fun j hj => h j (List.mem_cons_of_mem _ hj))
        by_cases j2 : j < 2
        · refine runB_cons (run_ifF (evt_neT (ev_call A.toWh c__law_tried (by decide) (by rfl) (eva_cons (ev_var A.toWh 6 rfl (.inl rfl) rfl) (eva_cons ((evn_list A.toWh (by rfl) B.list (ev_var A.toWh 1 rfl (.inl rfl) rfl))).ev (eva_cons ((evn_list A.toWh (by rfl) B.list (ev_var A.toWh 2 rfl (.inl rfl) rfl))).ev (eva_cons (ev_var A.toWh 8 rfl (.inl rfl) rfl) eva_nil)))) ⟨_, _, _, _, rfl, (by exact ok), (by exact .inl ⟨taken, rfl, by omega, by omega, by omega, .inr (.inr ⟨t1, .inl (by omega), rfl⟩)⟩)⟩) (ev_ixG (enc := sD) [] ((evn_lstM (enc := sD) [_, _, _, _] (eva_consM _ (ev_strC [100, 111, 110, 101] (by rfl)) (eva_consM _ (ev_strC [100, 111, 110, 101] (by rfl)) (eva_consM _ (ev_strC [111, 118, 101, 114] (by rfl)) (eva_consM _ (ev_strC [111, 118, 101, 114] (by rfl)) eva_nilM)))) (fun _ => rfl) (by show _ ≤ sizeLine; rw [sizeLine_eq]; exact Nat.le_of_ble_eq_true rfl))).ev (ev_var A.toWh 6 rfl (.inl rfl) rfl) (by first | omega | (show _ < (4 : Int); omega)) (by first | omega | (show _ < (4 : Int); omega)))) ?_ runB_nil) (runB_one (run_ifF (evt_neT (ev_call A.toWh c__law_tried (by decide) (by rfl) (eva_cons (ev_var A.toWh 6 rfl (.inl rfl) rfl) (eva_cons ((evn_list A.toWh (by rfl) B.list (ev_var A.toWh 1 rfl (.inl rfl) rfl))).ev (eva_cons ((evn_list A.toWh (by rfl) B.list (ev_var A.toWh 2 rfl (.inl rfl) rfl))).ev (eva_cons (ev_var A.toWh 7 rfl (.inl rfl) rfl) eva_nil)))) ⟨_, _, _, _, rfl, (by exact ok), (by exact .inl ⟨still, rfl, by omega, by omega, by omega, .inr (.inr ⟨s1, .inr s2, rfl⟩)⟩)⟩) (ev_strC [100, 111, 110, 101] (by rfl))) ?_ runB_nil))
          · have : j = 0 ∨ j = 1 := by omega
            rcases this with rfl | rfl <;> decide
          · decide
        · refine runB_cons (run_ifF (evt_neT (ev_call A.toWh c__law_tried (by decide) (by rfl) (eva_cons (ev_var A.toWh 6 rfl (.inl rfl) rfl) (eva_cons ((evn_list A.toWh (by rfl) B.list (ev_var A.toWh 1 rfl (.inl rfl) rfl))).ev (eva_cons ((evn_list A.toWh (by rfl) B.list (ev_var A.toWh 2 rfl (.inl rfl) rfl))).ev (eva_cons (ev_var A.toWh 8 rfl (.inl rfl) rfl) eva_nil)))) ⟨_, _, _, _, rfl, (by exact ok), (by exact .inl ⟨taken, rfl, by omega, by omega, by omega, .inr (.inl ⟨t1, by omega, t2, rfl⟩)⟩)⟩) (ev_ixG (enc := sD) [] ((evn_lstM (enc := sD) [_, _, _, _] (eva_consM _ (ev_strC [100, 111, 110, 101] (by rfl)) (eva_consM _ (ev_strC [100, 111, 110, 101] (by rfl)) (eva_consM _ (ev_strC [111, 118, 101, 114] (by rfl)) (eva_consM _ (ev_strC [111, 118, 101, 114] (by rfl)) eva_nilM)))) (fun _ => rfl) (by show _ ≤ sizeLine; rw [sizeLine_eq]; exact Nat.le_of_ble_eq_true rfl))).ev (ev_var A.toWh 6 rfl (.inl rfl) rfl) (by first | omega | (show _ < (4 : Int); omega)) (by first | omega | (show _ < (4 : Int); omega)))) ?_ runB_nil) (runB_one (run_ifF (evt_neT (ev_call A.toWh c__law_tried (by decide) (by rfl) (eva_cons (ev_var A.toWh 6 rfl (.inl rfl) rfl) (eva_cons ((evn_list A.toWh (by rfl) B.list (ev_var A.toWh 1 rfl (.inl rfl) rfl))).ev (eva_cons ((evn_list A.toWh (by rfl) B.list (ev_var A.toWh 2 rfl (.inl rfl) rfl))).ev (eva_cons (ev_var A.toWh 7 rfl (.inl rfl) rfl) eva_nil)))) ⟨_, _, _, _, rfl, (by exact ok), (by exact .inl ⟨still, rfl, by omega, by omega, by omega, .inr (.inr ⟨s1, .inr s2, rfl⟩)⟩)⟩) (ev_strC [100, 111, 110, 101] (by rfl))) ?_ runB_nil))
          · have : j = 2 ∨ j = 3 := by omega
            rcases this with rfl | rfl <;> decide
          · decide
    refine runB_to [.va (nums ns), .va (nums die), .va (txts ws), .va (sD row), .va (iD at_), .va (sD bad), .no, .va (sD still), .va (sD taken), .no, .no] ?_ ?_
    · refine (run_for A 6 rfl (.inl rfl) (evi_rangeN A.toWh (by rfl) B.range ev_int (by rfl) (by first | omega | assumption | rfl | (simp only [List.length_append, List.length_cons, List.length_nil, List.length_map, List.length_range]; omega))) ?_)
      exact loop2 (List.range 4) (fun j hj => List.mem_range.mp hj)
    have f0 : 0 ≤ cellAt ns 12 % (10 : Int) ^ (20 : Int).toNat := Int.emod_nonneg _ (by decide)
    refine runB_cons (run_set A 9 rfl (.inl rfl) (ev_mod (ev_call A.toWh c__law_cell_at (by decide) (by rfl) (eva_cons (ev_var A.toWh 0 rfl (.inl rfl) rfl) (eva_cons ev_int eva_nil)) ⟨_, _, rfl, (by first | omega | assumption | rfl | (simp only [List.length_append, List.length_cons, List.length_nil, List.length_map, List.length_range]; omega)), rfl⟩) (ev_pow ev_int ev_int ⟨by decide, by decide, by decide⟩) (by decide))) ?_
    generalize cellAt ns 12 % (10 : Int) ^ (20 : Int).toNat = far at f0
    have k0 : 0 ≤ cellAt ns 13 % 4 := Int.emod_nonneg _ (by decide)
    have k4 : cellAt ns 13 % 4 < 4 := Int.emod_lt_of_pos _ (by decide)
    have mo := far_out f0 k0 k4
    refine runB_cons (run_set A 10 rfl (.inl rfl) (ev_ixG (enc := iD) 0 ((evn_lstM (enc := iD) [_, _, _, _] (eva_consM _ (ev_neg ev_int) (eva_consM _ ev_int (eva_consM _ (ev_sub (ev_neg ev_int) (ev_var A.toWh 9 rfl (.inl rfl) rfl)) (eva_consM _ (ev_add ev_int (ev_var A.toWh 9 rfl (.inl rfl) rfl)) eva_nilM)))) (fun _ => rfl) (by show _ ≤ sizeLine; rw [sizeLine_eq]; exact Nat.le_of_ble_eq_true rfl))).ev (ev_mod (ev_call A.toWh c__law_cell_at (by decide) (by rfl) (eva_cons (ev_var A.toWh 0 rfl (.inl rfl) rfl) (eva_cons ev_int eva_nil)) ⟨_, _, rfl, (by first | omega | assumption | rfl | (simp only [List.length_append, List.length_cons, List.length_nil, List.length_map, List.length_range]; omega)), rfl⟩) ev_int (by first | omega | assumption | rfl | (simp only [List.length_append, List.length_cons, List.length_nil, List.length_map, List.length_range]; omega))) (by first | omega | (show _ < (4 : Int); omega)) (by first | omega | (show _ < (4 : Int); omega)))) ?_
    generalize ([-1, 61, -1 - far, 61 + far] : List Int).getD (cellAt ns 13 % 4).toNat 0 = many at mo ⊢
    have loop3 : ∀ l : List Nat, (∀ j ∈ l, j < 2) → ForR X W 6 (bodyOf (stAt (defBody (topS 57)) 12)) (l.map fun (j : Nat) => iD (4 + (j : Int))) [.va (nums ns), .va (nums die), .va (txts ws), .va (sD row), .va (iD at_), .va (sD bad), .no, .va (sD still), .va (sD taken), .va (iD far), .va (iD many)] (.nx [.va (nums ns), .va (nums die), .va (txts ws), .va (sD row), .va (iD at_), .va (sD bad), .no, .va (sD still), .va (sD taken), .va (iD far), .va (iD many)]) := by
      intro l
      induction l with
      | nil => intro _; exact .nil
      | cons j l ih =>
        intro h
        have hj := h j List.mem_cons_self
        refine .nx (RunB.clrO 6 (runB_cons (run_ifF (evt_neT (ev_call A.toWh c__law_tried (by decide) (by rfl) (eva_cons (ev_var A.toWh 6 rfl (.inl rfl) rfl) (eva_cons ((evn_list A.toWh (by rfl) B.list (ev_var A.toWh 1 rfl (.inl rfl) rfl))).ev (eva_cons ((evn_list A.toWh (by rfl) B.list (ev_var A.toWh 2 rfl (.inl rfl) rfl))).ev (eva_cons (ev_var A.toWh 10 rfl (.inl rfl) rfl) eva_nil)))) ⟨_, _, _, _, rfl, (by exact ok), (by exact .inr ⟨many, rfl, by omega, .inl ⟨mo, rfl⟩⟩)⟩) (ev_strC [114, 111, 119] (by rfl))) ?_ runB_nil) (runB_one (run_ifF (evt_neT (ev_call A.toWh c__law_tried (by decide) (by rfl) (eva_cons (ev_var A.toWh 6 rfl (.inl rfl) rfl) (eva_cons ((evn_list A.toWh (by rfl) B.list (ev_var A.toWh 1 rfl (.inl rfl) rfl))).ev (eva_cons ((evn_lstM (enc := sD) [_] (eva_consM _ (ev_strC [97] (by rfl)) eva_nilM) (fun _ => rfl) (by show _ ≤ sizeLine; rw [sizeLine_eq]; exact Nat.le_of_ble_eq_true rfl))).ev (eva_cons ev_int eva_nil)))) ⟨_, _, _, _, rfl, (by exact ra), (by exact .inr ⟨60, rfl, by omega, .inr ⟨by omega, rfl⟩⟩)⟩) (ev_strC [100, 111, 110, 101] (by rfl))) ?_ runB_nil)))) (ih fun j hj => h j (List.mem_cons_of_mem _ hj))
        · decide
        · decide
    refine runB_to [.va (nums ns), .va (nums die), .va (txts ws), .va (sD row), .va (iD at_), .va (sD bad), .no, .va (sD still), .va (sD taken), .va (iD far), .va (iD many)] ?_ (runB_cons (run_ifF (evt_neT (ev_call A.toWh c__law_tried (by decide) (by rfl) (eva_cons ev_int (eva_cons ((evn_list A.toWh (by rfl) B.list (ev_var A.toWh 1 rfl (.inl rfl) rfl))).ev (eva_cons ((evn_list A.toWh (by rfl) B.list (ev_var A.toWh 2 rfl (.inl rfl) rfl))).ev (eva_cons (ev_var A.toWh 3 rfl (.inl rfl) rfl) eva_nil)))) ⟨_, _, _, _, rfl, (by exact ok), (by exact .inl ⟨row, rfl, by omega, by omega, by omega, .inr (.inr ⟨hr, .inl (by omega), rfl⟩)⟩)⟩) (ev_strC [100, 111, 110, 101] (by rfl))) ?_ runB_nil) (runB_one (Run.cast (run_ret (ev_eqT (ev_call A.toWh c__law_tried (by decide) (by rfl) (eva_cons ev_int (eva_cons ((evn_list A.toWh (by rfl) B.list (ev_var A.toWh 1 rfl (.inl rfl) rfl))).ev (eva_cons ((evn_list A.toWh (by rfl) B.list (ev_var A.toWh 2 rfl (.inl rfl) rfl))).ev (eva_cons ev_int eva_nil)))) ⟨_, _, _, _, rfl, (by exact ok), (by exact .inr ⟨0, rfl, by omega, .inr ⟨by omega, rfl⟩⟩)⟩) (ev_strC [100, 111, 110, 101] (by rfl)))) ?_)))
    · refine (run_for A 6 rfl (.inl rfl) (evi_range2 A.toWh (by rfl) B.range ev_int ev_int ⟨(by decide), (by decide), (by decide), (by decide)⟩) ?_)
      exact loop3 (List.range 2) (fun j hj => List.mem_range.mp hj)
    · decide
    · exact congrArg (fun t => Out.rt (bD t)) (decide_eq_true rfl)
  by_cases hc : cellAt ns 8 % 2 = 1
  · have k0 : 0 ≤ cellAt ns 9 % 5 := Int.emod_nonneg _ (by decide)
    have k5 : cellAt ns 9 % 5 < 5 := Int.emod_lt_of_pos _ (by decide)
    have ff := five17 d2 d4 k0 k5
    have c1 := cutL_len row none (some at_)
    have c2 := cutL_len row (some (at_ + 1)) none
    obtain ⟨m1, m2⟩ := bad_sign l60 (show (cutL row none (some at_)).length ≤ 60 by omega) (show (cutL row (some (at_ + 1)) none).length ≤ 60 by omega) ff
    have lf : (([[([97, 98, 99, 100, 101] : List Nat).getD (die.length : Int).toNat 0], [65], [32], [49], [45]] : List (List Nat)).getD (cellAt ns 9 % 5).toNat []).length = 1 := by
      obtain ⟨x, e, _⟩ := ff
      rw [e]; rfl
    exact runB_cons (run_ifT (evt_eqI (ev_mod (ev_call A.toWh c__law_cell_at (by decide) (by rfl) (eva_cons (ev_var A.toWh 0 rfl (.inl rfl) rfl) (eva_cons ev_int eva_nil)) ⟨_, _, rfl, (by first | omega | assumption | rfl | (simp only [List.length_append, List.length_cons, List.length_nil, List.length_map, List.length_range]; omega)), rfl⟩) ev_int (by first | omega | assumption | rfl | (simp only [List.length_append, List.length_cons, List.length_nil, List.length_map, List.length_range]; omega))) ev_int) (decide_eq_true hc) (runB_one (run_set A 5 rfl (.inl rfl) (ev_addT (ev_addT (ev_slT (ev_var A.toWh 3 rfl (.inl rfl) rfl) evo_none (evo_some (ev_var A.toWh 4 rfl (.inl rfl) rfl)) (by first | omega | (show 5 ≤ sizeLine; omega) | (rw [List.length_append]; omega))) (ev_ixG (enc := sD) [] ((evn_lstM (enc := sD) [_, _, _, _, _] (eva_consM _ (ev_ixTG (ev_strC [97, 98, 99, 100, 101] (by rfl)) (ev_lenM A.toWh (by rfl) B.len (ev_var A.toWh 1 rfl (.inl rfl) rfl)) (by first | omega | (show _ < (5 : Int); omega)) (by first | omega | (show _ < (5 : Int); omega)) (by first | omega | (show 5 ≤ sizeLine; omega) | (rw [List.length_append]; omega))) (eva_consM _ (ev_strC [65] (by rfl)) (eva_consM _ (ev_strC [32] (by rfl)) (eva_consM _ (ev_strC [49] (by rfl)) (eva_consM _ (ev_strC [45] (by rfl)) eva_nilM))))) (fun _ => rfl) (by show _ ≤ sizeLine; rw [sizeLine_eq]; exact Nat.le_of_ble_eq_true rfl))).ev (ev_mod (ev_call A.toWh c__law_cell_at (by decide) (by rfl) (eva_cons (ev_var A.toWh 0 rfl (.inl rfl) rfl) (eva_cons ev_int eva_nil)) ⟨_, _, rfl, (by first | omega | assumption | rfl | (simp only [List.length_append, List.length_cons, List.length_nil, List.length_map, List.length_range]; omega)), rfl⟩) ev_int (by first | omega | assumption | rfl | (simp only [List.length_append, List.length_cons, List.length_nil, List.length_map, List.length_range]; omega))) (by first | omega | (show _ < (5 : Int); omega)) (by first | omega | (show _ < (5 : Int); omega))) (by first | omega | (show 5 ≤ sizeLine; omega) | (rw [List.length_append]; omega))) (ev_slT (ev_var A.toWh 3 rfl (.inl rfl) rfl) (evo_some (ev_add (ev_var A.toWh 4 rfl (.inl rfl) rfl) ev_int)) evo_none (by first | omega | (show 5 ≤ sizeLine; omega) | (rw [List.length_append]; omega))) (by first | omega | (show 5 ≤ sizeLine; omega) | (rw [List.length_append]; omega)))))) (rest _ m1 (by omega))
  · exact runB_cons (run_ifF (evt_eqI (ev_mod (ev_call A.toWh c__law_cell_at (by decide) (by rfl) (eva_cons (ev_var A.toWh 0 rfl (.inl rfl) rfl) (eva_cons ev_int eva_nil)) ⟨_, _, rfl, (by first | omega | assumption | rfl | (simp only [List.length_append, List.length_cons, List.length_nil, List.length_map, List.length_range]; omega)), rfl⟩) ev_int (by first | omega | assumption | rfl | (simp only [List.length_append, List.length_cons, List.length_nil, List.length_map, List.length_range]; omega))) ev_int) (decide_eq_false hc) runB_nil) (rest bad0 n1 (by omega))
end
/-! ### what the top has left -/
theorem all_mk {P : Program} {w : World} {K : PySem.W.Frag} {h : Heap} {mg : Str → Option Value} {fa : Addr} (HK : K.In h) (G : h.Ns mainGlobals mg) (hfa : mg "law" = some (.ref fa))
    {f0 : Addr} {od0 an0 : Option Addr} {sl0 : Array (Option Value)} {oc0 kV0 dc0 pm0 cd0 ct0 : Value}
    (a0 : PySem.W.nsIn K mainGlobals "common" = some (some (.ref f0))) (l0 : K.lookup f0 = some ⟨oc0, od0, .func (PySem.W.fnOf "common" "common" (defArgs (topS 10)) (defBody (topS 10)) (defScope (topS 10)) .none kV0 dc0 pm0 an0 cd0 ct0), sl0⟩) (k0 : PySem.W.codeIn K cd0 "common" = true) (q0 : PySem.W.keepIn K (.ref f0) = true)
    {f1 : Addr} {od1 an1 : Option Addr} {sl1 : Array (Option Value)} {oc1 kV1 dc1 pm1 cd1 ct1 : Value}
    (a1 : PySem.W.nsIn K mainGlobals "share" = some (some (.ref f1))) (l1 : K.lookup f1 = some ⟨oc1, od1, .func (PySem.W.fnOf "share" "share" (defArgs (topS 11)) (defBody (topS 11)) (defScope (topS 11)) .none kV1 dc1 pm1 an1 cd1 ct1), sl1⟩) (k1 : PySem.W.codeIn K cd1 "share" = true) (q1 : PySem.W.keepIn K (.ref f1) = true)
    {f2 : Addr} {od2 an2 : Option Addr} {sl2 : Array (Option Value)} {oc2 kV2 dc2 pm2 cd2 ct2 : Value}
    (a2 : PySem.W.nsIn K mainGlobals "plus" = some (some (.ref f2))) (l2 : K.lookup f2 = some ⟨oc2, od2, .func (PySem.W.fnOf "plus" "plus" (defArgs (topS 12)) (defBody (topS 12)) (defScope (topS 12)) .none kV2 dc2 pm2 an2 cd2 ct2), sl2⟩) (k2 : PySem.W.codeIn K cd2 "plus" = true) (q2 : PySem.W.keepIn K (.ref f2) = true)
    {f3 : Addr} {od3 an3 : Option Addr} {sl3 : Array (Option Value)} {oc3 kV3 dc3 pm3 cd3 ct3 : Value}
    (a3 : PySem.W.nsIn K mainGlobals "minus" = some (some (.ref f3))) (l3 : K.lookup f3 = some ⟨oc3, od3, .func (PySem.W.fnOf "minus" "minus" (defArgs (topS 13)) (defBody (topS 13)) (defScope (topS 13)) .none kV3 dc3 pm3 an3 cd3 ct3), sl3⟩) (k3 : PySem.W.codeIn K cd3 "minus" = true) (q3 : PySem.W.keepIn K (.ref f3) = true)
    {f4 : Addr} {od4 an4 : Option Addr} {sl4 : Array (Option Value)} {oc4 kV4 dc4 pm4 cd4 ct4 : Value}
    (a4 : PySem.W.nsIn K mainGlobals "times" = some (some (.ref f4))) (l4 : K.lookup f4 = some ⟨oc4, od4, .func (PySem.W.fnOf "times" "times" (defArgs (topS 14)) (defBody (topS 14)) (defScope (topS 14)) .none kV4 dc4 pm4 an4 cd4 ct4), sl4⟩) (k4 : PySem.W.codeIn K cd4 "times" = true) (q4 : PySem.W.keepIn K (.ref f4) = true)
    {f5 : Addr} {od5 an5 : Option Addr} {sl5 : Array (Option Value)} {oc5 kV5 dc5 pm5 cd5 ct5 : Value}
    (a5 : PySem.W.nsIn K mainGlobals "over" = some (some (.ref f5))) (l5 : K.lookup f5 = some ⟨oc5, od5, .func (PySem.W.fnOf "over" "over" (defArgs (topS 15)) (defBody (topS 15)) (defScope (topS 15)) .none kV5 dc5 pm5 an5 cd5 ct5), sl5⟩) (k5 : PySem.W.codeIn K cd5 "over" = true) (q5 : PySem.W.keepIn K (.ref f5) = true)
    {f6 : Addr} {od6 an6 : Option Addr} {sl6 : Array (Option Value)} {oc6 kV6 dc6 pm6 cd6 ct6 : Value}
    (a6 : PySem.W.nsIn K mainGlobals "ask_die" = some (some (.ref f6))) (l6 : K.lookup f6 = some ⟨oc6, od6, .func (PySem.W.fnOf "ask_die" "ask_die" (defArgs (topS 18)) (defBody (topS 18)) (defScope (topS 18)) .none kV6 dc6 pm6 an6 cd6 ct6), sl6⟩) (k6 : PySem.W.codeIn K cd6 "ask_die" = true) (q6 : PySem.W.keepIn K (.ref f6) = true)
    {f7 : Addr} {od7 an7 : Option Addr} {sl7 : Array (Option Value)} {oc7 kV7 dc7 pm7 cd7 ct7 : Value}
    (a7 : PySem.W.nsIn K mainGlobals "is_thrown" = some (some (.ref f7))) (l7 : K.lookup f7 = some ⟨oc7, od7, .func (PySem.W.fnOf "is_thrown" "is_thrown" (defArgs (topS 19)) (defBody (topS 19)) (defScope (topS 19)) .none kV7 dc7 pm7 an7 cd7 ct7), sl7⟩) (k7 : PySem.W.codeIn K cd7 "is_thrown" = true) (q7 : PySem.W.keepIn K (.ref f7) = true)
    {f8 : Addr} {od8 an8 : Option Addr} {sl8 : Array (Option Value)} {oc8 kV8 dc8 pm8 cd8 ct8 : Value}
    (a8 : PySem.W.nsIn K mainGlobals "ask_word" = some (some (.ref f8))) (l8 : K.lookup f8 = some ⟨oc8, od8, .func (PySem.W.fnOf "ask_word" "ask_word" (defArgs (topS 20)) (defBody (topS 20)) (defScope (topS 20)) .none kV8 dc8 pm8 an8 cd8 ct8), sl8⟩) (k8 : PySem.W.codeIn K cd8 "ask_word" = true) (q8 : PySem.W.keepIn K (.ref f8) = true)
    {f9 : Addr} {od9 an9 : Option Addr} {sl9 : Array (Option Value)} {oc9 kV9 dc9 pm9 cd9 ct9 : Value}
    (a9 : PySem.W.nsIn K mainGlobals "ask_race" = some (some (.ref f9))) (l9 : K.lookup f9 = some ⟨oc9, od9, .func (PySem.W.fnOf "ask_race" "ask_race" (defArgs (topS 21)) (defBody (topS 21)) (defScope (topS 21)) .none kV9 dc9 pm9 an9 cd9 ct9), sl9⟩) (k9 : PySem.W.codeIn K cd9 "ask_race" = true) (q9 : PySem.W.keepIn K (.ref f9) = true)
    {f10 : Addr} {od10 an10 : Option Addr} {sl10 : Array (Option Value)} {oc10 kV10 dc10 pm10 cd10 ct10 : Value}
    (a10 : PySem.W.nsIn K mainGlobals "ask_row" = some (some (.ref f10))) (l10 : K.lookup f10 = some ⟨oc10, od10, .func (PySem.W.fnOf "ask_row" "ask_row" (defArgs (topS 22)) (defBody (topS 22)) (defScope (topS 22)) .none kV10 dc10 pm10 an10 cd10 ct10), sl10⟩) (k10 : PySem.W.codeIn K cd10 "ask_row" = true) (q10 : PySem.W.keepIn K (.ref f10) = true)
    {f11 : Addr} {od11 an11 : Option Addr} {sl11 : Array (Option Value)} {oc11 kV11 dc11 pm11 cd11 ct11 : Value}
    (a11 : PySem.W.nsIn K mainGlobals "overlaps_of" = some (some (.ref f11))) (l11 : K.lookup f11 = some ⟨oc11, od11, .func (PySem.W.fnOf "overlaps_of" "overlaps_of" (defArgs (topS 23)) (defBody (topS 23)) (defScope (topS 23)) .none kV11 dc11 pm11 an11 cd11 ct11), sl11⟩) (k11 : PySem.W.codeIn K cd11 "overlaps_of" = true) (q11 : PySem.W.keepIn K (.ref f11) = true)
    {f12 : Addr} {od12 an12 : Option Addr} {sl12 : Array (Option Value)} {oc12 kV12 dc12 pm12 cd12 ct12 : Value}
    (a12 : PySem.W.nsIn K mainGlobals "beginnings_of" = some (some (.ref f12))) (l12 : K.lookup f12 = some ⟨oc12, od12, .func (PySem.W.fnOf "beginnings_of" "beginnings_of" (defArgs (topS 24)) (defBody (topS 24)) (defScope (topS 24)) .none kV12 dc12 pm12 an12 cd12 ct12), sl12⟩) (k12 : PySem.W.codeIn K cd12 "beginnings_of" = true) (q12 : PySem.W.keepIn K (.ref f12) = true)
    {f13 : Addr} {od13 an13 : Option Addr} {sl13 : Array (Option Value)} {oc13 kV13 dc13 pm13 cd13 ct13 : Value}
    (a13 : PySem.W.nsIn K mainGlobals "longest_end" = some (some (.ref f13))) (l13 : K.lookup f13 = some ⟨oc13, od13, .func (PySem.W.fnOf "longest_end" "longest_end" (defArgs (topS 25)) (defBody (topS 25)) (defScope (topS 25)) .none kV13 dc13 pm13 an13 cd13 ct13), sl13⟩) (k13 : PySem.W.codeIn K cd13 "longest_end" = true) (q13 : PySem.W.keepIn K (.ref f13) = true)
    {f14 : Addr} {od14 an14 : Option Addr} {sl14 : Array (Option Value)} {oc14 kV14 dc14 pm14 cd14 ct14 : Value}
    (a14 : PySem.W.nsIn K mainGlobals "state_by" = some (some (.ref f14))) (l14 : K.lookup f14 = some ⟨oc14, od14, .func (PySem.W.fnOf "state_by" "state_by" (defArgs (topS 26)) (defBody (topS 26)) (defScope (topS 26)) .none kV14 dc14 pm14 an14 cd14 ct14), sl14⟩) (k14 : PySem.W.codeIn K cd14 "state_by" = true) (q14 : PySem.W.keepIn K (.ref f14) = true)
    {f15 : Addr} {od15 an15 : Option Addr} {sl15 : Array (Option Value)} {oc15 kV15 dc15 pm15 cd15 ct15 : Value}
    (a15 : PySem.W.nsIn K mainGlobals "state_of" = some (some (.ref f15))) (l15 : K.lookup f15 = some ⟨oc15, od15, .func (PySem.W.fnOf "state_of" "state_of" (defArgs (topS 27)) (defBody (topS 27)) (defScope (topS 27)) .none kV15 dc15 pm15 an15 cd15 ct15), sl15⟩) (k15 : PySem.W.codeIn K cd15 "state_of" = true) (q15 : PySem.W.keepIn K (.ref f15) = true)
    {f16 : Addr} {od16 an16 : Option Addr} {sl16 : Array (Option Value)} {oc16 kV16 dc16 pm16 cd16 ct16 : Value}
    (a16 : PySem.W.nsIn K mainGlobals "first_end" = some (some (.ref f16))) (l16 : K.lookup f16 = some ⟨oc16, od16, .func (PySem.W.fnOf "first_end" "first_end" (defArgs (topS 28)) (defBody (topS 28)) (defScope (topS 28)) .none kV16 dc16 pm16 an16 cd16 ct16), sl16⟩) (k16 : PySem.W.codeIn K cd16 "first_end" = true) (q16 : PySem.W.keepIn K (.ref f16) = true)
    {f17 : Addr} {od17 an17 : Option Addr} {sl17 : Array (Option Value)} {oc17 kV17 dc17 pm17 cd17 ct17 : Value}
    (a17 : PySem.W.nsIn K mainGlobals "ended" = some (some (.ref f17))) (l17 : K.lookup f17 = some ⟨oc17, od17, .func (PySem.W.fnOf "ended" "ended" (defArgs (topS 29)) (defBody (topS 29)) (defScope (topS 29)) .none kV17 dc17 pm17 an17 cd17 ct17), sl17⟩) (k17 : PySem.W.codeIn K cd17 "ended" = true) (q17 : PySem.W.keepIn K (.ref f17) = true)
    {f18 : Addr} {od18 an18 : Option Addr} {sl18 : Array (Option Value)} {oc18 kV18 dc18 pm18 cd18 ct18 : Value}
    (a18 : PySem.W.nsIn K mainGlobals "worth" = some (some (.ref f18))) (l18 : K.lookup f18 = some ⟨oc18, od18, .func (PySem.W.fnOf "worth" "worth" (defArgs (topS 32)) (defBody (topS 32)) (defScope (topS 32)) .none kV18 dc18 pm18 an18 cd18 ct18), sl18⟩) (k18 : PySem.W.codeIn K cd18 "worth" = true) (q18 : PySem.W.keepIn K (.ref f18) = true)
    {f19 : Addr} {od19 an19 : Option Addr} {sl19 : Array (Option Value)} {oc19 kV19 dc19 pm19 cd19 ct19 : Value}
    (a19 : PySem.W.nsIn K mainGlobals "meeting" = some (some (.ref f19))) (l19 : K.lookup f19 = some ⟨oc19, od19, .func (PySem.W.fnOf "meeting" "meeting" (defArgs (topS 33)) (defBody (topS 33)) (defScope (topS 33)) .none kV19 dc19 pm19 an19 cd19 ct19), sl19⟩) (k19 : PySem.W.codeIn K cd19 "meeting" = true) (q19 : PySem.W.keepIn K (.ref f19) = true)
    {f20 : Addr} {od20 an20 : Option Addr} {sl20 : Array (Option Value)} {oc20 kV20 dc20 pm20 cd20 ct20 : Value}
    (a20 : PySem.W.nsIn K mainGlobals "held" = some (some (.ref f20))) (l20 : K.lookup f20 = some ⟨oc20, od20, .func (PySem.W.fnOf "held" "held" (defArgs (topS 34)) (defBody (topS 34)) (defScope (topS 34)) .none kV20 dc20 pm20 an20 cd20 ct20), sl20⟩) (k20 : PySem.W.codeIn K cd20 "held" = true) (q20 : PySem.W.keepIn K (.ref f20) = true)
    {f21 : Addr} {od21 an21 : Option Addr} {sl21 : Array (Option Value)} {oc21 kV21 dc21 pm21 cd21 ct21 : Value}
    (a21 : PySem.W.nsIn K mainGlobals "cleared" = some (some (.ref f21))) (l21 : K.lookup f21 = some ⟨oc21, od21, .func (PySem.W.fnOf "cleared" "cleared" (defArgs (topS 35)) (defBody (topS 35)) (defScope (topS 35)) .none kV21 dc21 pm21 an21 cd21 ct21), sl21⟩) (k21 : PySem.W.codeIn K cd21 "cleared" = true) (q21 : PySem.W.keepIn K (.ref f21) = true)
    {f22 : Addr} {od22 an22 : Option Addr} {sl22 : Array (Option Value)} {oc22 kV22 dc22 pm22 cd22 ct22 : Value}
    (a22 : PySem.W.nsIn K mainGlobals "solved" = some (some (.ref f22))) (l22 : K.lookup f22 = some ⟨oc22, od22, .func (PySem.W.fnOf "solved" "solved" (defArgs (topS 36)) (defBody (topS 36)) (defScope (topS 36)) .none kV22 dc22 pm22 an22 cd22 ct22), sl22⟩) (k22 : PySem.W.codeIn K cd22 "solved" = true) (q22 : PySem.W.keepIn K (.ref f22) = true)
    {f23 : Addr} {od23 an23 : Option Addr} {sl23 : Array (Option Value)} {oc23 kV23 dc23 pm23 cd23 ct23 : Value}
    (a23 : PySem.W.nsIn K mainGlobals "outcome" = some (some (.ref f23))) (l23 : K.lookup f23 = some ⟨oc23, od23, .func (PySem.W.fnOf "outcome" "outcome" (defArgs (topS 37)) (defBody (topS 37)) (defScope (topS 37)) .none kV23 dc23 pm23 an23 cd23 ct23), sl23⟩) (k23 : PySem.W.codeIn K cd23 "outcome" = true) (q23 : PySem.W.keepIn K (.ref f23) = true)
    {f24 : Addr} {od24 an24 : Option Addr} {sl24 : Array (Option Value)} {oc24 kV24 dc24 pm24 cd24 ct24 : Value}
    (a24 : PySem.W.nsIn K mainGlobals "shares" = some (some (.ref f24))) (l24 : K.lookup f24 = some ⟨oc24, od24, .func (PySem.W.fnOf "shares" "shares" (defArgs (topS 38)) (defBody (topS 38)) (defScope (topS 38)) .none kV24 dc24 pm24 an24 cd24 ct24), sl24⟩) (k24 : PySem.W.codeIn K cd24 "shares" = true) (q24 : PySem.W.keepIn K (.ref f24) = true)
    {f25 : Addr} {od25 an25 : Option Addr} {sl25 : Array (Option Value)} {oc25 kV25 dc25 pm25 cd25 ct25 : Value}
    (a25 : PySem.W.nsIn K mainGlobals "mean" = some (some (.ref f25))) (l25 : K.lookup f25 = some ⟨oc25, od25, .func (PySem.W.fnOf "mean" "mean" (defArgs (topS 39)) (defBody (topS 39)) (defScope (topS 39)) .none kV25 dc25 pm25 an25 cd25 ct25), sl25⟩) (k25 : PySem.W.codeIn K cd25 "mean" = true) (q25 : PySem.W.keepIn K (.ref f25) = true)
    {f26 : Addr} {od26 an26 : Option Addr} {sl26 : Array (Option Value)} {oc26 kV26 dc26 pm26 cd26 ct26 : Value}
    (a26 : PySem.W.nsIn K mainGlobals "longer" = some (some (.ref f26))) (l26 : K.lookup f26 = some ⟨oc26, od26, .func (PySem.W.fnOf "longer" "longer" (defArgs (topS 42)) (defBody (topS 42)) (defScope (topS 42)) .none kV26 dc26 pm26 an26 cd26 ct26), sl26⟩) (k26 : PySem.W.codeIn K cd26 "longer" = true) (q26 : PySem.W.keepIn K (.ref f26) = true)
    {f27 : Addr} {od27 an27 : Option Addr} {sl27 : Array (Option Value)} {oc27 kV27 dc27 pm27 cd27 ct27 : Value}
    (a27 : PySem.W.nsIn K mainGlobals "counted" = some (some (.ref f27))) (l27 : K.lookup f27 = some ⟨oc27, od27, .func (PySem.W.fnOf "counted" "counted" (defArgs (topS 43)) (defBody (topS 43)) (defScope (topS 43)) .none kV27 dc27 pm27 an27 cd27 ct27), sl27⟩) (k27 : PySem.W.codeIn K cd27 "counted" = true) (q27 : PySem.W.keepIn K (.ref f27) = true)
    {f28 : Addr} {od28 an28 : Option Addr} {sl28 : Array (Option Value)} {oc28 kV28 dc28 pm28 cd28 ct28 : Value}
    (a28 : PySem.W.nsIn K mainGlobals "open_rows" = some (some (.ref f28))) (l28 : K.lookup f28 = some ⟨oc28, od28, .func (PySem.W.fnOf "open_rows" "open_rows" (defArgs (topS 44)) (defBody (topS 44)) (defScope (topS 44)) .none kV28 dc28 pm28 an28 cd28 ct28), sl28⟩) (k28 : PySem.W.codeIn K cd28 "open_rows" = true) (q28 : PySem.W.keepIn K (.ref f28) = true)
    {f29 : Addr} {od29 an29 : Option Addr} {sl29 : Array (Option Value)} {oc29 kV29 dc29 pm29 cd29 ct29 : Value}
    (a29 : PySem.W.nsIn K mainGlobals "ended_rows" = some (some (.ref f29))) (l29 : K.lookup f29 = some ⟨oc29, od29, .func (PySem.W.fnOf "ended_rows" "ended_rows" (defArgs (topS 45)) (defBody (topS 45)) (defScope (topS 45)) .none kV29 dc29 pm29 an29 cd29 ct29), sl29⟩) (k29 : PySem.W.codeIn K cd29 "ended_rows" = true) (q29 : PySem.W.keepIn K (.ref f29) = true)
    {f30 : Addr} {od30 an30 : Option Addr} {sl30 : Array (Option Value)} {oc30 kV30 dc30 pm30 cd30 ct30 : Value}
    (a30 : PySem.W.nsIn K mainGlobals "_law_cell_at" = some (some (.ref f30))) (l30 : K.lookup f30 = some ⟨oc30, od30, .func (PySem.W.fnOf "_law_cell_at" "_law_cell_at" (defArgs (topS 47)) (defBody (topS 47)) (defScope (topS 47)) .none kV30 dc30 pm30 an30 cd30 ct30), sl30⟩) (k30 : PySem.W.codeIn K cd30 "_law_cell_at" = true) (q30 : PySem.W.keepIn K (.ref f30) = true)
    {f31 : Addr} {od31 an31 : Option Addr} {sl31 : Array (Option Value)} {oc31 kV31 dc31 pm31 cd31 ct31 : Value}
    (a31 : PySem.W.nsIn K mainGlobals "_law_next" = some (some (.ref f31))) (l31 : K.lookup f31 = some ⟨oc31, od31, .func (PySem.W.fnOf "_law_next" "_law_next" (defArgs (topS 48)) (defBody (topS 48)) (defScope (topS 48)) .none kV31 dc31 pm31 an31 cd31 ct31), sl31⟩) (k31 : PySem.W.codeIn K cd31 "_law_next" = true) (q31 : PySem.W.keepIn K (.ref f31) = true)
    {f32 : Addr} {od32 an32 : Option Addr} {sl32 : Array (Option Value)} {oc32 kV32 dc32 pm32 cd32 ct32 : Value}
    (a32 : PySem.W.nsIn K mainGlobals "_law_die" = some (some (.ref f32))) (l32 : K.lookup f32 = some ⟨oc32, od32, .func (PySem.W.fnOf "_law_die" "_law_die" (defArgs (topS 49)) (defBody (topS 49)) (defScope (topS 49)) .none kV32 dc32 pm32 an32 cd32 ct32), sl32⟩) (k32 : PySem.W.codeIn K cd32 "_law_die" = true) (q32 : PySem.W.keepIn K (.ref f32) = true)
    {f33 : Addr} {od33 an33 : Option Addr} {sl33 : Array (Option Value)} {oc33 kV33 dc33 pm33 cd33 ct33 : Value}
    (a33 : PySem.W.nsIn K mainGlobals "_law_thrown" = some (some (.ref f33))) (l33 : K.lookup f33 = some ⟨oc33, od33, .func (PySem.W.fnOf "_law_thrown" "_law_thrown" (defArgs (topS 50)) (defBody (topS 50)) (defScope (topS 50)) .none kV33 dc33 pm33 an33 cd33 ct33), sl33⟩) (k33 : PySem.W.codeIn K cd33 "_law_thrown" = true) (q33 : PySem.W.keepIn K (.ref f33) = true)
    {f34 : Addr} {od34 an34 : Option Addr} {sl34 : Array (Option Value)} {oc34 kV34 dc34 pm34 cd34 ct34 : Value}
    (a34 : PySem.W.nsIn K mainGlobals "_law_word" = some (some (.ref f34))) (l34 : K.lookup f34 = some ⟨oc34, od34, .func (PySem.W.fnOf "_law_word" "_law_word" (defArgs (topS 51)) (defBody (topS 51)) (defScope (topS 51)) .none kV34 dc34 pm34 an34 cd34 ct34), sl34⟩) (k34 : PySem.W.codeIn K cd34 "_law_word" = true) (q34 : PySem.W.keepIn K (.ref f34) = true)
    {f35 : Addr} {od35 an35 : Option Addr} {sl35 : Array (Option Value)} {oc35 kV35 dc35 pm35 cd35 ct35 : Value}
    (a35 : PySem.W.nsIn K mainGlobals "_law_words" = some (some (.ref f35))) (l35 : K.lookup f35 = some ⟨oc35, od35, .func (PySem.W.fnOf "_law_words" "_law_words" (defArgs (topS 52)) (defBody (topS 52)) (defScope (topS 52)) .none kV35 dc35 pm35 an35 cd35 ct35), sl35⟩) (k35 : PySem.W.codeIn K cd35 "_law_words" = true) (q35 : PySem.W.keepIn K (.ref f35) = true)
    {f36 : Addr} {od36 an36 : Option Addr} {sl36 : Array (Option Value)} {oc36 kV36 dc36 pm36 cd36 ct36 : Value}
    (a36 : PySem.W.nsIn K mainGlobals "_law_open" = some (some (.ref f36))) (l36 : K.lookup f36 = some ⟨oc36, od36, .func (PySem.W.fnOf "_law_open" "_law_open" (defArgs (topS 53)) (defBody (topS 53)) (defScope (topS 53)) .none kV36 dc36 pm36 an36 cd36 ct36), sl36⟩) (k36 : PySem.W.codeIn K cd36 "_law_open" = true) (q36 : PySem.W.keepIn K (.ref f36) = true)
    {f37 : Addr} {od37 an37 : Option Addr} {sl37 : Array (Option Value)} {oc37 kV37 dc37 pm37 cd37 ct37 : Value}
    (a37 : PySem.W.nsIn K mainGlobals "_law_kind" = some (some (.ref f37))) (l37 : K.lookup f37 = some ⟨oc37, od37, .func (PySem.W.fnOf "_law_kind" "_law_kind" (defArgs (topS 54)) (defBody (topS 54)) (defScope (topS 54)) .none kV37 dc37 pm37 an37 cd37 ct37), sl37⟩) (k37 : PySem.W.codeIn K cd37 "_law_kind" = true) (q37 : PySem.W.keepIn K (.ref f37) = true)
    {f38 : Addr} {od38 an38 : Option Addr} {sl38 : Array (Option Value)} {oc38 kV38 dc38 pm38 cd38 ct38 : Value}
    (a38 : PySem.W.nsIn K mainGlobals "_law_asked" = some (some (.ref f38))) (l38 : K.lookup f38 = some ⟨oc38, od38, .func (PySem.W.fnOf "_law_asked" "_law_asked" (defArgs (topS 55)) (defBody (topS 55)) (defScope (topS 55)) .none kV38 dc38 pm38 an38 cd38 ct38), sl38⟩) (k38 : PySem.W.codeIn K cd38 "_law_asked" = true) (q38 : PySem.W.keepIn K (.ref f38) = true)
    {f39 : Addr} {od39 an39 : Option Addr} {sl39 : Array (Option Value)} {oc39 kV39 dc39 pm39 cd39 ct39 : Value}
    (a39 : PySem.W.nsIn K mainGlobals "_law_tried" = some (some (.ref f39))) (l39 : K.lookup f39 = some ⟨oc39, od39, .func (PySem.W.fnOf "_law_tried" "_law_tried" (defArgs (topS 56)) (defBody (topS 56)) (defScope (topS 56)) .none kV39 dc39 pm39 an39 cd39 ct39), sl39⟩) (k39 : PySem.W.codeIn K cd39 "_law_tried" = true) (q39 : PySem.W.keepIn K (.ref f39) = true)
    {f40 : Addr} {od40 an40 : Option Addr} {sl40 : Array (Option Value)} {oc40 kV40 dc40 pm40 cd40 ct40 : Value}
    (a40 : PySem.W.nsIn K mainGlobals "law" = some (some (.ref f40))) (l40 : K.lookup f40 = some ⟨oc40, od40, .func (PySem.W.fnOf "law" "law" (defArgs (topS 57)) (defBody (topS 57)) (defScope (topS 57)) .none kV40 dc40 pm40 an40 cd40 ct40), sl40⟩) (k40 : PySem.W.codeIn K cd40 "law" = true) (q40 : PySem.W.keepIn K (.ref f40) = true)
    (z_len : PySem.W.nsIn K mainGlobals "len" = some none)    (z_abs : PySem.W.nsIn K mainGlobals "abs" = some none)    (z_min : PySem.W.nsIn K mainGlobals "min" = some none)    (z_sum : PySem.W.nsIn K mainGlobals "sum" = some none)    (z_range : PySem.W.nsIn K mainGlobals "range" = some none)    (z_sorted : PySem.W.nsIn K mainGlobals "sorted" = some none)    (z_list : PySem.W.nsIn K mainGlobals "list" = some none)    (z_int : PySem.W.nsIn K mainGlobals "int" = some none)    (z_str : PySem.W.nsIn K mainGlobals "str" = some none)    (z_tuple : PySem.W.nsIn K mainGlobals "tuple" = some none)    (z_bool : PySem.W.nsIn K mainGlobals "bool" = some none)    (z_isinstance : PySem.W.nsIn K mainGlobals "isinstance" = some none)    (z_any : PySem.W.nsIn K mainGlobals "any" = some none)    (z_all : PySem.W.nsIn K mainGlobals "all" = some none)
    {t_SIGNS : Tok} (y_SIGNS : PySem.W.nsIn K mainGlobals "SIGNS" = some (some (.str "abcd" t_SIGNS)))
    {r_NOUGHT : Addr} {o_NOUGHT : Option Addr} {s_NOUGHT : Array (Option Value)} {n_NOUGHT : Nat} {t_NOUGHT u_NOUGHT : Tok} (y_NOUGHT : PySem.W.nsIn K mainGlobals "NOUGHT" = some (some (.ref r_NOUGHT))) (x_NOUGHT : K.lookup r_NOUGHT = some ⟨.type "tuple", o_NOUGHT, .seq #[.int 0 t_NOUGHT, .int 1 u_NOUGHT] n_NOUGHT, s_NOUGHT⟩)
    {t_MOST : Tok} (y_MOST : PySem.W.nsIn K mainGlobals "MOST" = some (some (.int 60 t_MOST)))
    {c_base c_die c_word c_race c_row c_over c_many c_note : Addr}
    (n_base : PySem.W.nsIn K mainGlobals "RaceError" = some (some (.ref c_base)))
    (n_die : PySem.W.nsIn K mainGlobals "NoDie" = some (some (.ref c_die))) (x_die : PySem.W.excIn K c_die [.type "ValueError", .type "Exception", .type "BaseException", .type "object"] "ValueError.__new__" = true) (q_die : PySem.W.keepIn K (.ref c_die) = true) (s_die : PySem.W.subIn K (.ref c_die) (.type "BaseException") = some true) (t_die : PySem.W.typeIn K (.ref c_die) = some (.type "type"))
    (n_word : PySem.W.nsIn K mainGlobals "NoWord" = some (some (.ref c_word))) (x_word : PySem.W.excIn K c_word [.type "ValueError", .type "Exception", .type "BaseException", .type "object"] "ValueError.__new__" = true) (q_word : PySem.W.keepIn K (.ref c_word) = true) (s_word : PySem.W.subIn K (.ref c_word) (.type "BaseException") = some true) (t_word : PySem.W.typeIn K (.ref c_word) = some (.type "type"))
    (n_race : PySem.W.nsIn K mainGlobals "NoRace" = some (some (.ref c_race))) (x_race : PySem.W.excIn K c_race [.type "ValueError", .type "Exception", .type "BaseException", .type "object"] "ValueError.__new__" = true) (q_race : PySem.W.keepIn K (.ref c_race) = true) (s_race : PySem.W.subIn K (.ref c_race) (.type "BaseException") = some true) (t_race : PySem.W.typeIn K (.ref c_race) = some (.type "type"))
    (n_row : PySem.W.nsIn K mainGlobals "NoRow" = some (some (.ref c_row))) (x_row : PySem.W.excIn K c_row [.type "ValueError", .type "Exception", .type "BaseException", .type "object"] "ValueError.__new__" = true) (q_row : PySem.W.keepIn K (.ref c_row) = true) (s_row : PySem.W.subIn K (.ref c_row) (.type "BaseException") = some true) (t_row : PySem.W.typeIn K (.ref c_row) = some (.type "type"))
    (n_over : PySem.W.nsIn K mainGlobals "Over" = some (some (.ref c_over))) (x_over : PySem.W.excIn K c_over [.type "ValueError", .type "Exception", .type "BaseException", .type "object"] "ValueError.__new__" = true) (q_over : PySem.W.keepIn K (.ref c_over) = true) (s_over : PySem.W.subIn K (.ref c_over) (.type "BaseException") = some true) (t_over : PySem.W.typeIn K (.ref c_over) = some (.type "type"))
    (n_many : PySem.W.nsIn K mainGlobals "TooMany" = some (some (.ref c_many))) (x_many : PySem.W.excIn K c_many [.type "ValueError", .type "Exception", .type "BaseException", .type "object"] "ValueError.__new__" = true) (q_many : PySem.W.keepIn K (.ref c_many) = true) (s_many : PySem.W.subIn K (.ref c_many) (.type "BaseException") = some true) (t_many : PySem.W.typeIn K (.ref c_many) = some (.type "type"))
    (n_note : PySem.W.nsIn K mainGlobals "NoNote" = some (some (.ref c_note))) (x_note : PySem.W.excIn K c_note [.type "ValueError", .type "Exception", .type "BaseException", .type "object"] "ValueError.__new__" = true) (q_note : PySem.W.keepIn K (.ref c_note) = true) (s_note : PySem.W.subIn K (.ref c_note) (.type "BaseException") = some true) (t_note : PySem.W.typeIn K (.ref c_note) = some (.type "type"))
    (sb_base : PySem.W.subIn K (.ref c_base) (.type "BaseException") = some true) (hd_base : PySem.W.hasDictIn K c_base = true) (ty_base : PySem.W.typeIn K (.ref c_base) = some (.type "type"))
    (z_ValueError : PySem.W.nsIn K mainGlobals "ValueError" = some none)
    (h0_row : PySem.W.findIn K (.ref c_row) "__getattribute__" = some (some (.builtin "BaseException.__getattribute__")))    (h1_row : PySem.W.findIn K (.ref c_row) "__getattr__" = some none)    (h2_row : PySem.W.subIn K (.ref c_row) (.type "BaseException") = some true)    (h3_row : PySem.W.hasDictIn K c_row = true)    (h4_row : PySem.W.findIn K (.ref c_row) "__class__" = some (some (.builtin "object.__class__")))    (h5_row : PySem.W.specialIn K (.builtin "object.__class__") "__get__" = some (some (.builtin "getset_descriptor.__get__")))    (h6_row : PySem.W.takesIn K (.builtin "object.__class__") = some true)    (h7_row : PySem.W.mroIn K c_row (.type "object") = some true)
    (k0_row : PySem.W.kitOne K (.ref c_row) (.ref c_die) = some false)    (k1_row : PySem.W.kitOne K (.ref c_row) (.ref c_word) = some false)    (k2_row : PySem.W.kitOne K (.ref c_row) (.ref c_race) = some false)    (k3_row : PySem.W.kitOne K (.ref c_row) (.ref c_row) = some true)    (k4_row : PySem.W.kitOne K (.ref c_row) (.ref c_over) = some false)    (k5_row : PySem.W.kitOne K (.ref c_row) (.ref c_many) = some false)    (k6_row : PySem.W.kitOne K (.ref c_row) (.ref c_note) = some false)
    (kv_row : PySem.W.kitOne K (.ref c_row) (.type "ValueError") = some true) (ex_row : PySem.W.subIn K (.ref c_row) (.ref c_base) = some true)
    (h0_over : PySem.W.findIn K (.ref c_over) "__getattribute__" = some (some (.builtin "BaseException.__getattribute__")))    (h1_over : PySem.W.findIn K (.ref c_over) "__getattr__" = some none)    (h2_over : PySem.W.subIn K (.ref c_over) (.type "BaseException") = some true)    (h3_over : PySem.W.hasDictIn K c_over = true)    (h4_over : PySem.W.findIn K (.ref c_over) "__class__" = some (some (.builtin "object.__class__")))    (h5_over : PySem.W.specialIn K (.builtin "object.__class__") "__get__" = some (some (.builtin "getset_descriptor.__get__")))    (h6_over : PySem.W.takesIn K (.builtin "object.__class__") = some true)    (h7_over : PySem.W.mroIn K c_over (.type "object") = some true)
    (k0_over : PySem.W.kitOne K (.ref c_over) (.ref c_die) = some false)    (k1_over : PySem.W.kitOne K (.ref c_over) (.ref c_word) = some false)    (k2_over : PySem.W.kitOne K (.ref c_over) (.ref c_race) = some false)    (k3_over : PySem.W.kitOne K (.ref c_over) (.ref c_row) = some false)    (k4_over : PySem.W.kitOne K (.ref c_over) (.ref c_over) = some true)    (k5_over : PySem.W.kitOne K (.ref c_over) (.ref c_many) = some false)    (k6_over : PySem.W.kitOne K (.ref c_over) (.ref c_note) = some false)
    (kv_over : PySem.W.kitOne K (.ref c_over) (.type "ValueError") = some true) (ex_over : PySem.W.subIn K (.ref c_over) (.ref c_base) = some true)
    : ∃ fd : FuncData, (∀ (s : Shared) (v : Value), BindsTo s fd ⟨[v], []⟩ [("script", v)]) ∧ ∀ base : Heap, K.In base → base.Ns mainGlobals mg → FnOk P w K mg base (L2.CX P w) 10 fa fd ["script"] (spD K S_law) := by
  cases (hfa.symm.trans (PySem.W.mg_of HK G a40))
  have B : Bts mg := ⟨PySem.W.mg_none_of HK G z_len, PySem.W.mg_none_of HK G z_abs, PySem.W.mg_none_of HK G z_min, PySem.W.mg_none_of HK G z_sum, PySem.W.mg_none_of HK G z_range, PySem.W.mg_none_of HK G z_sorted, PySem.W.mg_none_of HK G z_list, PySem.W.mg_none_of HK G z_int, PySem.W.mg_none_of HK G z_str, PySem.W.mg_none_of HK G z_tuple, PySem.W.mg_none_of HK G z_bool, PySem.W.mg_none_of HK G z_isinstance, PySem.W.mg_none_of HK G z_any, PySem.W.mg_none_of HK G z_all⟩
  have C : Clss K mg ⟨c_base, c_die, c_word, c_race, c_row, c_over, c_many, c_note⟩ := ⟨PySem.W.mg_of HK G n_base, ⟨x_die, PySem.W.mg_of HK G n_die, q_die, s_die, t_die⟩, ⟨x_word, PySem.W.mg_of HK G n_word, q_word, s_word, t_word⟩, ⟨x_race, PySem.W.mg_of HK G n_race, q_race, s_race, t_race⟩, ⟨x_row, PySem.W.mg_of HK G n_row, q_row, s_row, t_row⟩, ⟨x_over, PySem.W.mg_of HK G n_over, q_over, s_over, t_over⟩, ⟨x_many, PySem.W.mg_of HK G n_many, q_many, s_many, t_many⟩, ⟨x_note, PySem.W.mg_of HK G n_note, q_note, s_note, t_note⟩, PySem.W.mg_none_of HK G z_ValueError⟩
  have k_row : KindC K ⟨c_base, c_die, c_word, c_race, c_row, c_over, c_many, c_note⟩ c_row 3 := ⟨⟨h0_row, h1_row, h2_row, h3_row, h4_row, h5_row, h6_row, h7_row⟩, k0_row, k1_row, k2_row, k3_row, k4_row, k5_row, k6_row, kv_row, PySem.W.exm_ref sb_base hd_base ty_base ex_row, by decide⟩
  have k_over : KindC K ⟨c_base, c_die, c_word, c_race, c_row, c_over, c_many, c_note⟩ c_over 4 := ⟨⟨h0_over, h1_over, h2_over, h3_over, h4_over, h5_over, h6_over, h7_over⟩, k0_over, k1_over, k2_over, k3_over, k4_over, k5_over, k6_over, kv_over, PySem.W.exm_ref sb_base hd_base ty_base ex_over, by decide⟩
  have g_SIGNS : GlG K mg "SIGNS" (sD [97, 98, 99, 100]) := ⟨_, .str "abcd", PySem.W.mg_of HK G y_SIGNS, ⟨_, rfl⟩, fun H => rp_str.mpr (by rfl)⟩
  have g_NOUGHT : GlG K mg "NOUGHT" (qD 0) := ⟨_, .ref r_NOUGHT, PySem.W.mg_of HK G y_NOUGHT, rfl, fun H => rp_tup.mpr ⟨r_NOUGHT, [.int 0, .int 1], rfl, .inr ⟨_, _, _, x_NOUGHT, rfl, rfl, by show 2 ≤ sizeLine; decide, .cons ⟨_, rfl⟩ (.cons ⟨_, rfl⟩ .nil)⟩, .cons (.int 0) (.cons (.int 1) .nil)⟩⟩
  have g_MOST : GlG K mg "MOST" (iD 60) := ⟨_, .int 60, PySem.W.mg_of HK G y_MOST, ⟨_, rfl⟩, fun H => rp_int.mpr rfl⟩
  have F0 := fun_mk (st := topS 10) l0 k0 q0
  have D0 : DfG K mg "common" (topS 10) ["one", "other"] := ⟨f0, _, F0, PySem.W.mg_of HK G a0, F0.binds fun _ _ _ _ _ _ us hl => match us, hl with | [_, _], _ => rfl⟩
  have F1 := fun_mk (st := topS 11) l1 k1 q1
  have D1 : DfG K mg "share" (topS 11) ["top", "bottom"] := ⟨f1, _, F1, PySem.W.mg_of HK G a1, F1.binds fun _ _ _ _ _ _ us hl => match us, hl with | [_, _], _ => rfl⟩
  have F2 := fun_mk (st := topS 12) l2 k2 q2
  have D2 : DfG K mg "plus" (topS 12) ["one", "other"] := ⟨f2, _, F2, PySem.W.mg_of HK G a2, F2.binds fun _ _ _ _ _ _ us hl => match us, hl with | [_, _], _ => rfl⟩
  have F3 := fun_mk (st := topS 13) l3 k3 q3
  have D3 : DfG K mg "minus" (topS 13) ["one", "other"] := ⟨f3, _, F3, PySem.W.mg_of HK G a3, F3.binds fun _ _ _ _ _ _ us hl => match us, hl with | [_, _], _ => rfl⟩
  have F4 := fun_mk (st := topS 14) l4 k4 q4
  have D4 : DfG K mg "times" (topS 14) ["one", "other"] := ⟨f4, _, F4, PySem.W.mg_of HK G a4, F4.binds fun _ _ _ _ _ _ us hl => match us, hl with | [_, _], _ => rfl⟩
  have F5 := fun_mk (st := topS 15) l5 k5 q5
  have D5 : DfG K mg "over" (topS 15) ["one", "other"] := ⟨f5, _, F5, PySem.W.mg_of HK G a5, F5.binds fun _ _ _ _ _ _ us hl => match us, hl with | [_, _], _ => rfl⟩
  have F6 := fun_mk (st := topS 18) l6 k6 q6
  have D6 : DfG K mg "ask_die" (topS 18) ["die"] := ⟨f6, _, F6, PySem.W.mg_of HK G a6, F6.binds fun _ _ _ _ _ _ us hl => match us, hl with | [_], _ => rfl⟩
  have F7 := fun_mk (st := topS 19) l7 k7 q7
  have D7 : DfG K mg "is_thrown" (topS 19) ["die", "text"] := ⟨f7, _, F7, PySem.W.mg_of HK G a7, F7.binds fun _ _ _ _ _ _ us hl => match us, hl with | [_, _], _ => rfl⟩
  have F8 := fun_mk (st := topS 20) l8 k8 q8
  have D8 : DfG K mg "ask_word" (topS 20) ["die", "word"] := ⟨f8, _, F8, PySem.W.mg_of HK G a8, F8.binds fun _ _ _ _ _ _ us hl => match us, hl with | [_, _], _ => rfl⟩
  have F9 := fun_mk (st := topS 21) l9 k9 q9
  have D9 : DfG K mg "ask_race" (topS 21) ["die", "words"] := ⟨f9, _, F9, PySem.W.mg_of HK G a9, F9.binds fun _ _ _ _ _ _ us hl => match us, hl with | [_, _], _ => rfl⟩
  have F10 := fun_mk (st := topS 22) l10 k10 q10
  have D10 : DfG K mg "ask_row" (topS 22) ["die", "row"] := ⟨f10, _, F10, PySem.W.mg_of HK G a10, F10.binds fun _ _ _ _ _ _ us hl => match us, hl with | [_, _], _ => rfl⟩
  have F11 := fun_mk (st := topS 23) l11 k11 q11
  have D11 : DfG K mg "overlaps_of" (topS 23) ["one", "other"] := ⟨f11, _, F11, PySem.W.mg_of HK G a11, F11.binds fun _ _ _ _ _ _ us hl => match us, hl with | [_, _], _ => rfl⟩
  have F12 := fun_mk (st := topS 24) l12 k12 q12
  have D12 : DfG K mg "beginnings_of" (topS 24) ["words"] := ⟨f12, _, F12, PySem.W.mg_of HK G a12, F12.binds fun _ _ _ _ _ _ us hl => match us, hl with | [_], _ => rfl⟩
  have F13 := fun_mk (st := topS 25) l13 k13 q13
  have D13 : DfG K mg "longest_end" (topS 25) ["known", "text"] := ⟨f13, _, F13, PySem.W.mg_of HK G a13, F13.binds fun _ _ _ _ _ _ us hl => match us, hl with | [_, _], _ => rfl⟩
  have F14 := fun_mk (st := topS 26) l14 k14 q14
  have D14 : DfG K mg "state_by" (topS 26) ["known", "row"] := ⟨f14, _, F14, PySem.W.mg_of HK G a14, F14.binds fun _ _ _ _ _ _ us hl => match us, hl with | [_, _], _ => rfl⟩
  have F15 := fun_mk (st := topS 27) l15 k15 q15
  have D15 : DfG K mg "state_of" (topS 27) ["die", "words", "row"] := ⟨f15, _, F15, PySem.W.mg_of HK G a15, F15.binds fun _ _ _ _ _ _ us hl => match us, hl with | [_, _, _], _ => rfl⟩
  have F16 := fun_mk (st := topS 28) l16 k16 q16
  have D16 : DfG K mg "first_end" (topS 28) ["words", "row"] := ⟨f16, _, F16, PySem.W.mg_of HK G a16, F16.binds fun _ _ _ _ _ _ us hl => match us, hl with | [_, _], _ => rfl⟩
  have F17 := fun_mk (st := topS 29) l17 k17 q17
  have D17 : DfG K mg "ended" (topS 29) ["die", "words", "row"] := ⟨f17, _, F17, PySem.W.mg_of HK G a17, F17.binds fun _ _ _ _ _ _ us hl => match us, hl with | [_, _, _], _ => rfl⟩
  have F18 := fun_mk (st := topS 32) l18 k18 q18
  have D18 : DfG K mg "worth" (topS 32) ["die", "text"] := ⟨f18, _, F18, PySem.W.mg_of HK G a18, F18.binds fun _ _ _ _ _ _ us hl => match us, hl with | [_, _], _ => rfl⟩
  have F19 := fun_mk (st := topS 33) l19 k19 q19
  have D19 : DfG K mg "meeting" (topS 33) ["die", "one", "other"] := ⟨f19, _, F19, PySem.W.mg_of HK G a19, F19.binds fun _ _ _ _ _ _ us hl => match us, hl with | [_, _, _], _ => rfl⟩
  have F20 := fun_mk (st := topS 34) l20 k20 q20
  have D20 : DfG K mg "held" (topS 34) ["die", "row", "word"] := ⟨f20, _, F20, PySem.W.mg_of HK G a20, F20.binds fun _ _ _ _ _ _ us hl => match us, hl with | [_, _, _], _ => rfl⟩
  have F21 := fun_mk (st := topS 35) l21 k21 q21
  have D21 : DfG K mg "cleared" (topS 35) ["lines", "at"] := ⟨f21, _, F21, PySem.W.mg_of HK G a21, F21.binds fun _ _ _ _ _ _ us hl => match us, hl with | [_, _], _ => rfl⟩
  have F22 := fun_mk (st := topS 36) l22 k22 q22
  have D22 : DfG K mg "solved" (topS 36) ["lines"] := ⟨f22, _, F22, PySem.W.mg_of HK G a22, F22.binds fun _ _ _ _ _ _ us hl => match us, hl with | [_], _ => rfl⟩
  have F23 := fun_mk (st := topS 37) l23 k23 q23
  have D23 : DfG K mg "outcome" (topS 37) ["die", "words", "row"] := ⟨f23, _, F23, PySem.W.mg_of HK G a23, F23.binds fun _ _ _ _ _ _ us hl => match us, hl with | [_, _, _], _ => rfl⟩
  have F24 := fun_mk (st := topS 38) l24 k24 q24
  have D24 : DfG K mg "shares" (topS 38) ["die", "words", "row"] := ⟨f24, _, F24, PySem.W.mg_of HK G a24, F24.binds fun _ _ _ _ _ _ us hl => match us, hl with | [_, _, _], _ => rfl⟩
  have F25 := fun_mk (st := topS 39) l25 k25 q25
  have D25 : DfG K mg "mean" (topS 39) ["die", "words", "row"] := ⟨f25, _, F25, PySem.W.mg_of HK G a25, F25.binds fun _ _ _ _ _ _ us hl => match us, hl with | [_, _, _], _ => rfl⟩
  have F26 := fun_mk (st := topS 42) l26 k26 q26
  have D26 : DfG K mg "longer" (topS 42) ["die", "words", "known", "counts"] := ⟨f26, _, F26, PySem.W.mg_of HK G a26, F26.binds fun _ _ _ _ _ _ us hl => match us, hl with | [_, _, _, _], _ => rfl⟩
  have F27 := fun_mk (st := topS 43) l27 k27 q27
  have D27 : DfG K mg "counted" (topS 43) ["die", "words", "many"] := ⟨f27, _, F27, PySem.W.mg_of HK G a27, F27.binds fun _ _ _ _ _ _ us hl => match us, hl with | [_, _, _], _ => rfl⟩
  have F28 := fun_mk (st := topS 44) l28 k28 q28
  have D28 : DfG K mg "open_rows" (topS 44) ["die", "words", "many"] := ⟨f28, _, F28, PySem.W.mg_of HK G a28, F28.binds fun _ _ _ _ _ _ us hl => match us, hl with | [_, _, _], _ => rfl⟩
  have F29 := fun_mk (st := topS 45) l29 k29 q29
  have D29 : DfG K mg "ended_rows" (topS 45) ["die", "words", "many"] := ⟨f29, _, F29, PySem.W.mg_of HK G a29, F29.binds fun _ _ _ _ _ _ us hl => match us, hl with | [_, _, _], _ => rfl⟩
  have F30 := fun_mk (st := topS 47) l30 k30 q30
  have D30 : DfG K mg "_law_cell_at" (topS 47) ["script", "k"] := ⟨f30, _, F30, PySem.W.mg_of HK G a30, F30.binds fun _ _ _ _ _ _ us hl => match us, hl with | [_, _], _ => rfl⟩
  have F31 := fun_mk (st := topS 48) l31 k31 q31
  have D31 : DfG K mg "_law_next" (topS 48) ["seed"] := ⟨f31, _, F31, PySem.W.mg_of HK G a31, F31.binds fun _ _ _ _ _ _ us hl => match us, hl with | [_], _ => rfl⟩
  have F32 := fun_mk (st := topS 49) l32 k32 q32
  have D32 : DfG K mg "_law_die" (topS 49) ["cell"] := ⟨f32, _, F32, PySem.W.mg_of HK G a32, F32.binds fun _ _ _ _ _ _ us hl => match us, hl with | [_], _ => rfl⟩
  have F33 := fun_mk (st := topS 50) l33 k33 q33
  have D33 : DfG K mg "_law_thrown" (topS 50) ["cell", "many", "signs"] := ⟨f33, _, F33, PySem.W.mg_of HK G a33, F33.binds fun _ _ _ _ _ _ us hl => match us, hl with | [_, _, _], _ => rfl⟩
  have F34 := fun_mk (st := topS 51) l34 k34 q34
  have D34 : DfG K mg "_law_word" (topS 51) ["cell", "signs"] := ⟨f34, _, F34, PySem.W.mg_of HK G a34, F34.binds fun _ _ _ _ _ _ us hl => match us, hl with | [_, _], _ => rfl⟩
  have F35 := fun_mk (st := topS 52) l35 k35 q35
  have D35 : DfG K mg "_law_words" (topS 52) ["script", "at", "signs"] := ⟨f35, _, F35, PySem.W.mg_of HK G a35, F35.binds fun _ _ _ _ _ _ us hl => match us, hl with | [_, _, _], _ => rfl⟩
  have F36 := fun_mk (st := topS 53) l36 k36 q36
  have D36 : DfG K mg "_law_open" (topS 53) ["words", "row"] := ⟨f36, _, F36, PySem.W.mg_of HK G a36, F36.binds fun _ _ _ _ _ _ us hl => match us, hl with | [_, _], _ => rfl⟩
  have F37 := fun_mk (st := topS 54) l37 k37 q37
  have D37 : DfG K mg "_law_kind" (topS 54) ["e"] := ⟨f37, _, F37, PySem.W.mg_of HK G a37, F37.binds fun _ _ _ _ _ _ us hl => match us, hl with | [_], _ => rfl⟩
  have F38 := fun_mk (st := topS 55) l38 k38 q38
  have D38 : DfG K mg "_law_asked" (topS 55) ["turn", "die", "words", "row"] := ⟨f38, _, F38, PySem.W.mg_of HK G a38, F38.binds fun _ _ _ _ _ _ us hl => match us, hl with | [_, _, _, _], _ => rfl⟩
  have F39 := fun_mk (st := topS 56) l39 k39 q39
  have D39 : DfG K mg "_law_tried" (topS 56) ["turn", "die", "words", "given"] := ⟨f39, _, F39, PySem.W.mg_of HK G a39, F39.binds fun _ _ _ _ _ _ us hl => match us, hl with | [_, _, _, _], _ => rfl⟩
  have F40 := fun_mk (st := topS 57) l40 k40 q40
  refine ⟨PySem.W.fnOf "law" "law" (defArgs (topS 57)) (defBody (topS 57)) (defScope (topS 57)) .none kV40 dc40 pm40 an40 cd40 ct40, fun s v => .of_eq rfl, fun base _ _ => ?_⟩
  have c_common := ok_common (P := P) (w := w) (base := base) D0 B C
  have c_share := ok_share (P := P) (w := w) (base := base) D1 B C c_common
  have c_plus := ok_plus (P := P) (w := w) (base := base) D2 B C c_share
  have c_minus := ok_minus (P := P) (w := w) (base := base) D3 B C c_share
  have c_times := ok_times (P := P) (w := w) (base := base) D4 B C c_share
  have c_over := ok_over (P := P) (w := w) (base := base) D5 B C c_share
  have c_ask_die := ok_ask_die (P := P) (w := w) (base := base) D6 B C
  have c_is_thrown := ok_is_thrown (P := P) (w := w) (base := base) D7 B C g_SIGNS
  have c_ask_word := ok_ask_word (P := P) (w := w) (base := base) D8 B C c_is_thrown
  have c_ask_race := ok_ask_race (P := P) (w := w) (base := base) D9 B C c_ask_die c_ask_word
  have c_ask_row := ok_ask_row (P := P) (w := w) (base := base) D10 B C c_is_thrown
  have c_overlaps_of := ok_overlaps_of (P := P) (w := w) (base := base) D11 B C
  have c_beginnings_of := ok_beginnings_of (P := P) (w := w) (base := base) D12 B C
  have c_longest_end := ok_longest_end (P := P) (w := w) (base := base) D13 B C
  have c_state_by := ok_state_by (P := P) (w := w) (base := base) D14 B C c_longest_end
  have c_state_of := ok_state_of (P := P) (w := w) (base := base) D15 B C c_ask_race c_ask_row c_state_by c_beginnings_of
  have c_first_end := ok_first_end (P := P) (w := w) (base := base) D16 B C
  have c_ended := ok_ended (P := P) (w := w) (base := base) D17 B C c_ask_race c_ask_row c_first_end
  have c_worth := ok_worth (P := P) (w := w) (base := base) D18 B C c_times c_share g_SIGNS
  have c_meeting := ok_meeting (P := P) (w := w) (base := base) D19 B C c_overlaps_of c_plus c_worth g_NOUGHT
  have c_held := ok_held (P := P) (w := w) (base := base) D20 B C c_plus c_worth g_NOUGHT
  have c_cleared := ok_cleared (P := P) (w := w) (base := base) D21 B C c_over c_minus c_times g_NOUGHT
  have c_solved := ok_solved (P := P) (w := w) (base := base) D22 B C c_cleared
  have c_outcome := ok_outcome (P := P) (w := w) (base := base) D23 B C c_ask_race c_ask_row c_solved c_first_end c_meeting c_held g_NOUGHT
  have c_shares := ok_shares (P := P) (w := w) (base := base) D24 B C c_outcome
  have c_mean := ok_mean (P := P) (w := w) (base := base) D25 B C c_outcome
  have c_longer := ok_longer (P := P) (w := w) (base := base) D26 B C c_longest_end g_SIGNS
  have c_counted := ok_counted (P := P) (w := w) (base := base) D27 B C c_ask_race c_beginnings_of c_longer g_MOST
  have c_open_rows := ok_open_rows (P := P) (w := w) (base := base) D28 B C c_counted
  have c_ended_rows := ok_ended_rows (P := P) (w := w) (base := base) D29 B C c_counted
  have c__law_cell_at := ok__law_cell_at (P := P) (w := w) (base := base) D30 B C
  have c__law_next := ok__law_next (P := P) (w := w) (base := base) D31 B C
  have c__law_die := ok__law_die (P := P) (w := w) (base := base) D32 B C c__law_next
  have c__law_thrown := ok__law_thrown (P := P) (w := w) (base := base) D33 B C c__law_next
  have c__law_word := ok__law_word (P := P) (w := w) (base := base) D34 B C c__law_thrown
  have c__law_words := ok__law_words (P := P) (w := w) (base := base) D35 B C c__law_word c__law_cell_at
  have c__law_open := ok__law_open (P := P) (w := w) (base := base) D36 B C
  have c__law_kind_row := ok__law_kind (P := P) (w := w) (base := base) D37 B C k_row
  have c__law_kind_over := ok__law_kind (P := P) (w := w) (base := base) D37 B C k_over
  have c__law_asked := ok__law_asked (P := P) (w := w) (base := base) D38 B C c_mean c_state_of c_ended c_shares
  have c__law_tried := ok__law_tried (P := P) (w := w) (base := base) D39 B C c_open_rows c__law_kind_row k_row c__law_kind_over k_over c_ended_rows c__law_asked
  have c_law := ok_law (P := P) (w := w) (base := base) F40 B C c__law_die c__law_thrown c__law_words c__law_cell_at c__law_open c__law_tried
  exact c_law
end Vs
open PySem PySem.W PyProof.Rows
set_option maxHeartbeats 0 in
theorem PySem.Challenge.cw_wordrace_k17_no_row_and_over_holds : PySem.Challenge.rw_wordrace_k17_no_row_and_over.Holds := by
  w_on; o_law; k_head; (case hw => w_witness2)
  k_fill
  refine L2.walk_of (l := PySem.Challenge.rw_wordrace_k17_no_row_and_over) (n := 63) (k := 10) (x := "script") (CX := fun w => L2.CX PySem.Challenge.pw_wordrace_k17_no_row_and_over w) (sp := fun w => Vs.spD _ Vs.S_law) rfl (by decide) rfl ⟨rfl, by decide, by decide⟩ (fun w h Y => PySem.W.kIn_of Y) ?F (fun _ _ _ _ hl _ hS => Vs.hsp_law hl hS) (fun _ _ _ _ _ h => Vs.hcx_law h)
  case F =>
    intro w mg fa h KX G hmg
    refine' Vs.all_mk KX G hmg ?a0 ?l0 ?k0 ?q0 ?a1 ?l1 ?k1 ?q1 ?a2 ?l2 ?k2 ?q2 ?a3 ?l3 ?k3 ?q3 ?a4 ?l4 ?k4 ?q4 ?a5 ?l5 ?k5 ?q5 ?a6 ?l6 ?k6 ?q6 ?a7 ?l7 ?k7 ?q7 ?a8 ?l8 ?k8 ?q8 ?a9 ?l9 ?k9 ?q9 ?a10 ?l10 ?k10 ?q10 ?a11 ?l11 ?k11 ?q11 ?a12 ?l12 ?k12 ?q12 ?a13 ?l13 ?k13 ?q13 ?a14 ?l14 ?k14 ?q14 ?a15 ?l15 ?k15 ?q15 ?a16 ?l16 ?k16 ?q16 ?a17 ?l17 ?k17 ?q17 ?a18 ?l18 ?k18 ?q18 ?a19 ?l19 ?k19 ?q19 ?a20 ?l20 ?k20 ?q20 ?a21 ?l21 ?k21 ?q21 ?a22 ?l22 ?k22 ?q22 ?a23 ?l23 ?k23 ?q23 ?a24 ?l24 ?k24 ?q24 ?a25 ?l25 ?k25 ?q25 ?a26 ?l26 ?k26 ?q26 ?a27 ?l27 ?k27 ?q27 ?a28 ?l28 ?k28 ?q28 ?a29 ?l29 ?k29 ?q29 ?a30 ?l30 ?k30 ?q30 ?a31 ?l31 ?k31 ?q31 ?a32 ?l32 ?k32 ?q32 ?a33 ?l33 ?k33 ?q33 ?a34 ?l34 ?k34 ?q34 ?a35 ?l35 ?k35 ?q35 ?a36 ?l36 ?k36 ?q36 ?a37 ?l37 ?k37 ?q37 ?a38 ?l38 ?k38 ?q38 ?a39 ?l39 ?k39 ?q39 ?a40 ?l40 ?k40 ?q40 ?z_len ?z_abs ?z_min ?z_sum ?z_range ?z_sorted ?z_list ?z_int ?z_str ?z_tuple ?z_bool ?z_isinstance ?z_any ?z_all ?y_SIGNS ?y_NOUGHT ?x_NOUGHT ?y_MOST ?n_base ?n_die ?x_die ?q_die ?s_die ?t_die ?n_word ?x_word ?q_word ?s_word ?t_word ?n_race ?x_race ?q_race ?s_race ?t_race ?n_row ?x_row ?q_row ?s_row ?t_row ?n_over ?x_over ?q_over ?s_over ?t_over ?n_many ?x_many ?q_many ?s_many ?t_many ?n_note ?x_note ?q_note ?s_note ?t_note ?sb_base ?hd_base ?ty_base ?z_ValueError ?h0_row ?h1_row ?h2_row ?h3_row ?h4_row ?h5_row ?h6_row ?h7_row ?k0_row ?k1_row ?k2_row ?k3_row ?k4_row ?k5_row ?k6_row ?kv_row ?ex_row ?h0_over ?h1_over ?h2_over ?h3_over ?h4_over ?h5_over ?h6_over ?h7_over ?k0_over ?k1_over ?k2_over ?k3_over ?k4_over ?k5_over ?k6_over ?kv_over ?ex_over
    (case a0 => k_is); (case l0 => k_is); (case k0 => k_is); (case q0 => k_is)
    (case a1 => k_is); (case l1 => k_is); (case k1 => k_is); (case q1 => k_is)
    (case a2 => k_is); (case l2 => k_is); (case k2 => k_is); (case q2 => k_is)
    (case a3 => k_is); (case l3 => k_is); (case k3 => k_is); (case q3 => k_is)
    (case a4 => k_is); (case l4 => k_is); (case k4 => k_is); (case q4 => k_is)
    (case a5 => k_is); (case l5 => k_is); (case k5 => k_is); (case q5 => k_is)
    (case a6 => k_is); (case l6 => k_is); (case k6 => k_is); (case q6 => k_is)
    (case a7 => k_is); (case l7 => k_is); (case k7 => k_is); (case q7 => k_is)
    (case a8 => k_is); (case l8 => k_is); (case k8 => k_is); (case q8 => k_is)
    (case a9 => k_is); (case l9 => k_is); (case k9 => k_is); (case q9 => k_is)
    (case a10 => k_is); (case l10 => k_is); (case k10 => k_is); (case q10 => k_is)
    (case a11 => k_is); (case l11 => k_is); (case k11 => k_is); (case q11 => k_is)
    (case a12 => k_is); (case l12 => k_is); (case k12 => k_is); (case q12 => k_is)
    (case a13 => k_is); (case l13 => k_is); (case k13 => k_is); (case q13 => k_is)
    (case a14 => k_is); (case l14 => k_is); (case k14 => k_is); (case q14 => k_is)
    (case a15 => k_is); (case l15 => k_is); (case k15 => k_is); (case q15 => k_is)
    (case a16 => k_is); (case l16 => k_is); (case k16 => k_is); (case q16 => k_is)
    (case a17 => k_is); (case l17 => k_is); (case k17 => k_is); (case q17 => k_is)
    (case a18 => k_is); (case l18 => k_is); (case k18 => k_is); (case q18 => k_is)
    (case a19 => k_is); (case l19 => k_is); (case k19 => k_is); (case q19 => k_is)
    (case a20 => k_is); (case l20 => k_is); (case k20 => k_is); (case q20 => k_is)
    (case a21 => k_is); (case l21 => k_is); (case k21 => k_is); (case q21 => k_is)
    (case a22 => k_is); (case l22 => k_is); (case k22 => k_is); (case q22 => k_is)
    (case a23 => k_is); (case l23 => k_is); (case k23 => k_is); (case q23 => k_is)
    (case a24 => k_is); (case l24 => k_is); (case k24 => k_is); (case q24 => k_is)
    (case a25 => k_is); (case l25 => k_is); (case k25 => k_is); (case q25 => k_is)
    (case a26 => k_is); (case l26 => k_is); (case k26 => k_is); (case q26 => k_is)
    (case a27 => k_is); (case l27 => k_is); (case k27 => k_is); (case q27 => k_is)
    (case a28 => k_is); (case l28 => k_is); (case k28 => k_is); (case q28 => k_is)
    (case a29 => k_is); (case l29 => k_is); (case k29 => k_is); (case q29 => k_is)
    (case a30 => k_is); (case l30 => k_is); (case k30 => k_is); (case q30 => k_is)
    (case a31 => k_is); (case l31 => k_is); (case k31 => k_is); (case q31 => k_is)
    (case a32 => k_is); (case l32 => k_is); (case k32 => k_is); (case q32 => k_is)
    (case a33 => k_is); (case l33 => k_is); (case k33 => k_is); (case q33 => k_is)
    (case a34 => k_is); (case l34 => k_is); (case k34 => k_is); (case q34 => k_is)
    (case a35 => k_is); (case l35 => k_is); (case k35 => k_is); (case q35 => k_is)
    (case a36 => k_is); (case l36 => k_is); (case k36 => k_is); (case q36 => k_is)
    (case a37 => k_is); (case l37 => k_is); (case k37 => k_is); (case q37 => k_is)
    (case a38 => k_is); (case l38 => k_is); (case k38 => k_is); (case q38 => k_is)
    (case a39 => k_is); (case l39 => k_is); (case k39 => k_is); (case q39 => k_is)
    (case a40 => k_is); (case l40 => k_is); (case k40 => k_is); (case q40 => k_is)
    (case z_len => k_is); (case z_abs => k_is); (case z_min => k_is); (case z_sum => k_is)
    (case z_range => k_is); (case z_sorted => k_is); (case z_list => k_is); (case z_int => k_is)
    (case z_str => k_is); (case z_tuple => k_is); (case z_bool => k_is); (case z_isinstance => k_is)
    (case z_any => k_is); (case z_all => k_is); (case y_SIGNS => k_is); (case y_NOUGHT => k_is)
    (case x_NOUGHT => k_is); (case y_MOST => k_is); (case n_base => k_is); (case n_die => k_is)
    (case x_die => k_exc); (case q_die => k_is); (case s_die => k_is); (case t_die => k_is)
    (case n_word => k_is); (case x_word => k_exc); (case q_word => k_is); (case s_word => k_is)
    (case t_word => k_is); (case n_race => k_is); (case x_race => k_exc); (case q_race => k_is)
    (case s_race => k_is); (case t_race => k_is); (case n_row => k_is); (case x_row => k_exc)
    (case q_row => k_is); (case s_row => k_is); (case t_row => k_is); (case n_over => k_is)
    (case x_over => k_exc); (case q_over => k_is); (case s_over => k_is); (case t_over => k_is)
    (case n_many => k_is); (case x_many => k_exc); (case q_many => k_is); (case s_many => k_is)
    (case t_many => k_is); (case n_note => k_is); (case x_note => k_exc); (case q_note => k_is)
    (case s_note => k_is); (case t_note => k_is); (case sb_base => k_is); (case hd_base => k_is)
    (case ty_base => k_is); (case z_ValueError => k_is); (case h0_row => k_is); (case h1_row => k_is)
    (case h2_row => k_is); (case h3_row => k_is); (case h4_row => k_is); (case h5_row => k_is)
    (case h6_row => k_is); (case h7_row => k_is); (case k0_row => kit_is); (case k1_row => kit_is)
    (case k2_row => kit_is); (case k3_row => kit_is); (case k4_row => kit_is); (case k5_row => kit_is)
    (case k6_row => kit_is); (case kv_row => kit_is); (case ex_row => k_is); (case h0_over => k_is)
    (case h1_over => k_is); (case h2_over => k_is); (case h3_over => k_is); (case h4_over => k_is)
    (case h5_over => k_is); (case h6_over => k_is); (case h7_over => k_is); (case k0_over => kit_is)
    (case k1_over => kit_is); (case k2_over => kit_is); (case k3_over => kit_is); (case k4_over => kit_is)
    (case k5_over => kit_is); (case k6_over => kit_is); (case kv_over => kit_is); (case ex_over => k_is)
