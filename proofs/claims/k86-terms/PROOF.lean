import PyProof.Rows.All
import Wide.All
import OpenK.AllK
import Wide.FinOn
import HandS.ForMost
import HandS.Evl
import HandS.Codes
import HandS.Defaults
import HandS.DictComp
import HandS.SetKeys
import HandS.Conv
import HandS.IsInst
import HandS.Zip
import HandS.More
import HandS.SetFor
import HandS.ListEq
import HandS.DictEq
import HandS.Deep
import HandS.Walk
import HandS.BoundDict
import KE.KDictKeyed
import KE.KDictZip
import KE.KStateDown
import Lean
import HandS.Head0
import HandS.Head1
import HandS.Head2
import HandS.HeadEnd
import HandS.HeadHook1
import HandS.HeadHook2
import HandS.HeadHook3
import HandS.HeadHook4
import PySem.Challenge.RW_herefrom_k86_whole_containment_is_a_mapp
set_option Elab.async false
set_option linter.all false
section
set_option maxRecDepth 100000
set_option maxHeartbeats 4000000
/-! data in the heap: trees of tuples, ints, texts -/
namespace HF
open PySem PySem.Spec PyProof.Rows L2
open Evl (Ex Ev EvT EvL EvU EvA)

/-- tuples stay -/
def TX (H H' : Hp) : Prop := ∀ a xs, H a = some (.tup xs) → H' a = some (.tup xs)
theorem TX.refl (H : Hp) : TX H H := fun _ _ h => h
theorem TX.trans {H H1 H2 : Hp} (a : TX H H1) (b : TX H1 H2) : TX H H2 := fun x o h => b x o (a x o h)
theorem TX.of_ex {H H' : Hp} (e : Ex H H') : TX H H' := fun a xs h => e a _ h
theorem TX.new {H : Hp} {p : Addr} {o : HO} (h : H p = none) : TX H (upd H p o) := TX.of_ex (Ex.new h)
theorem TX.mut {H : Hp} {p : Addr} {o u : HO} (h : H p = some u) (hu : ∀ xs, u ≠ .tup xs) : TX H (upd H p o) := fun a xs e => by
  have n : a ≠ p := by
    intro z
    rw [z, h] at e
    exact hu xs (Option.some.inj e)
  rw [upd_ne n]
  exact e
theorem TX.lst {H : Hp} {p : Addr} {o : HO} {ys : List V} (h : H p = some (.lst ys)) : TX H (upd H p o) := TX.mut h fun xs z => by cases z
theorem TX.dK {H : Hp} {p : Addr} {o : HO} {ys : List (Key × V)} (h : H p = some (.dK ys)) : TX H (upd H p o) := TX.mut h fun xs z => by cases z
theorem TX.dT {H : Hp} {p : Addr} {o : HO} {ys : List (List Key × V)} (h : H p = some (.dT ys)) : TX H (upd H p o) := TX.mut h fun xs z => by cases z

/-- a written tuple -/
def WT (K : PySem.W.Frag) (a : Addr) (xs : List V) : Prop :=
  ∃ (o : Obj) (its : Array Value) (n : Nat), K.lookup a = some o ∧ o.cls = .type "tuple" ∧ o.data = .seq its n ∧ its.size ≤ sizeLine ∧ Vals xs its.toList
def TupA (K : PySem.W.Frag) (H : Hp) (a : Addr) (xs : List V) : Prop := H a = some (.tup xs) ∨ WT K a xs
theorem TupA.mono {K : PySem.W.Frag} {H H' : Hp} {a : Addr} {xs : List V} (t : TX H H') (h : TupA K H a xs) : TupA K H' a xs := h.imp (t a xs) id
theorem TupA.sq {K : PySem.W.Frag} {H : Hp} {a : Addr} {xs : List V} (h : TupA K H a xs) : SqT K H a xs := by
  rcases h with h | h
  · exact SqT.of h
  · exact .inr h

mutual
inductive TD (K : PySem.W.Frag) (H : Hp) : V → PyData → Prop
  | non : TD K H .non .none
  | bl (b : Bool) : TD K H (.bl b) (.bool b)
  | int (i : Int) : TD K H (.int i) (.int i)
  | str (x : Str) : TD K H (.str x) (.str x)
  | tup {a : Addr} {xs : List V} {ds : List PyData} : TupA K H a xs → TDs K H xs ds → TD K H (.ref a) (.tuple ds)
inductive TDs (K : PySem.W.Frag) (H : Hp) : List V → List PyData → Prop
  | nil : TDs K H [] []
  | cons {v : V} {vs : List V} {d : PyData} {ds : List PyData} : TD K H v d → TDs K H vs ds → TDs K H (v :: vs) (d :: ds)
end
section
variable {K : PySem.W.Frag} {H H' : Hp}
mutual
theorem TD.mono (t : TX H H') : ∀ {v : V} {d : PyData}, TD K H v d → TD K H' v d
  | _, _, .non => .non
  | _, _, .bl b => .bl b
  | _, _, .int i => .int i
  | _, _, .str x => .str x
  | _, _, .tup h hs => .tup (h.mono t) (TDs.mono t hs)
theorem TDs.mono (t : TX H H') : ∀ {vs : List V} {ds : List PyData}, TDs K H vs ds → TDs K H' vs ds
  | _, _, .nil => .nil
  | _, _, .cons h hs => .cons (TD.mono t h) (TDs.mono t hs)
end
mutual
theorem TD.dp : ∀ {v : V} {d : PyData}, TD K H v d → Dp K H v d
  | _, _, .non => .non
  | _, _, .bl b => .bl b
  | _, _, .int i => .int i
  | _, _, .str x => .str x
  | _, _, .tup h hs => .tup h.sq (TDs.dp hs)
theorem TDs.dp : ∀ {vs : List V} {ds : List PyData}, TDs K H vs ds → DpAll K H vs ds
  | _, _, .nil => .nil
  | _, _, .cons h hs => .cons (TD.dp h) (TDs.dp hs)
end
theorem TD.mono_ex (e : Ex H H') {v : V} {d : PyData} (h : TD K H v d) : TD K H' v d := h.mono (TX.of_ex e)
theorem TDs.mono_ex (e : Ex H H') {v : List V} {d : List PyData} (h : TDs K H v d) : TDs K H' v d := h.mono (TX.of_ex e)
theorem TD.tup_inv {v : V} {ds : List PyData} (h : TD K H v (.tuple ds)) : ∃ a xs, v = .ref a ∧ TupA K H a xs ∧ TDs K H xs ds := by
  cases h with
  | tup h hs => exact ⟨_, _, rfl, h, hs⟩
theorem TD.str_inv {v : V} {x : Str} (h : TD K H v (.str x)) : v = .str x := by cases h; rfl
theorem TD.int_inv {v : V} {x : Int} (h : TD K H v (.int x)) : v = .int x := by cases h; rfl
theorem TDs.length : ∀ {vs : List V} {ds : List PyData}, TDs K H vs ds → vs.length = ds.length
  | _, _, .nil => rfl
  | _, _, .cons _ hs => congrArg (· + 1) (TDs.length hs)
theorem TDs.get : ∀ {vs : List V} {ds : List PyData} {i : Nat} {d : PyData}, TDs K H vs ds → ds[i]? = some d → ∃ x, vs[i]? = some x ∧ TD K H x d
  | _, _, _, _, .nil, e => by simp at e
  | _, _, 0, _, .cons h _, e => by
    simp at e
    subst e
    exact ⟨_, rfl, h⟩
  | _, _, i + 1, _, .cons _ hs, e => by
    obtain ⟨x, h1, h2⟩ := TDs.get (i := i) hs (by simpa using e)
    exact ⟨x, by simpa using h1, h2⟩
theorem TDs.get' {vs : List V} {ds : List PyData} {i : Nat} {x : V} (h : TDs K H vs ds) (e : vs[i]? = some x) : ∃ d, ds[i]? = some d ∧ TD K H x d := by
  have hi : i < vs.length := (List.getElem?_eq_some_iff.mp e).1
  have hj : i < ds.length := by rw [← h.length]; exact hi
  obtain ⟨y, h1, h2⟩ := h.get (List.getElem?_eq_getElem hj)
  rw [e] at h1
  cases h1
  exact ⟨_, List.getElem?_eq_getElem hj, h2⟩
theorem TDs.atI {vs : List V} {ds : List PyData} {i : Int} {d : PyData} (h : TDs K H vs ds) (e : atI ds i = some d) : ∃ x, L2.atI vs i = some x ∧ TD K H x d := by
  unfold L2.atI at e ⊢
  rw [h.length]
  cases q : ixN ds.length i with
  | none => rw [q] at e; cases e
  | some j =>
    rw [q] at e
    exact h.get e
theorem TDs.app : ∀ {vs us : List V} {ds es : List PyData}, TDs K H vs ds → TDs K H us es → TDs K H (vs ++ us) (ds ++ es)
  | _, _, _, _, .nil, h => h
  | _, _, _, _, .cons h hs, g => .cons h (hs.app g)
theorem TDs.snoc {vs : List V} {v : V} {ds : List PyData} {d : PyData} (h : TDs K H vs ds) (g : TD K H v d) : TDs K H (vs ++ [v]) (ds ++ [d]) := h.app (.cons g .nil)
end

/-- keys as data -/
def kD : Key → PyData
  | .inl i => .int i
  | .inr x => .str x
theorem TD.key {K : PySem.W.Frag} {H : Hp} (k : Key) : TD K H (kV k) (kD k) := by
  cases k with
  | inl i => exact .int i
  | inr x => exact .str x
theorem TDs.keys {K : PySem.W.Frag} {H : Hp} : ∀ (ks : List Key), TDs K H (ks.map kV) (ks.map kD)
  | [] => .nil
  | k :: ks => .cons (TD.key k) (TDs.keys ks)
theorem TD.key_inv {K : PySem.W.Frag} {H : Hp} {k : Key} {v : V} (h : TD K H v (kD k)) : v = kV k := by
  cases k with
  | inl i => exact h.int_inv
  | inr x => exact h.str_inv
theorem TDs.keys_inv {K : PySem.W.Frag} {H : Hp} : ∀ {ks : List Key} {vs : List V}, TDs K H vs (ks.map kD) → vs = ks.map kV
  | [], _, h => by cases h; rfl
  | k :: ks, _, h => by
    cases h with
    | cons h hs => rw [List.map_cons, h.key_inv, TDs.keys_inv hs]
theorem scal_key (a b : Key) : scal (kV a) (kV b) = true := by cases a <;> cases b <;> rfl
theorem dec_key (a b : Key) : decide (kV a = kV b) = decide (a = b) := by
  by_cases e : a = b
  · rw [e]; simp
  · rw [decide_eq_false e, decide_eq_false fun z => e (kV_inj z)]
theorem flat_key (a : Key) : flatV (kV a) = true := by cases a <;> rfl

/-! ### expressions whose value is data -/
def EvD (K : PySem.W.Frag) (te : TE) (σ : L2.St) (H : Hp) (d : PyData) : Prop := ∀ H1, Ex H H1 → ∀ Q : VK, (∀ v H2, Ex H1 H2 → TD K H2 v d → Q v H2) → te σ H1 Q
def EvDs (K : PySem.W.Frag) (ta : TA) (σ : L2.St) (H : Hp) (ds : List PyData) : Prop := ∀ H1, Ex H H1 → ∀ Q : List V → Hp → Prop, (∀ vs H2, Ex H1 H2 → TDs K H2 vs ds → Q vs H2) → ta σ H1 Q
section
variable {K : PySem.W.Frag} {σ : L2.St} {H H' : Hp} {ta tb te tx : TE} {tt tu : TT} {x y z v : V} {d : PyData}
theorem EvD.mono (e : Ex H H') (h : EvD K te σ H d) : EvD K te σ H' d := fun H1 a Q q => h H1 (e.trans a) Q q
theorem EvD.go {Q : VK} (h : EvD K te σ H d) (q : ∀ v H2, Ex H H2 → TD K H2 v d → Q v H2) : te σ H Q := h H (Ex.refl H) Q q
theorem EvDs.go {t : TA} {ds : List PyData} {Q : List V → Hp → Prop} (h : EvDs K t σ H ds) (q : ∀ v H2, Ex H H2 → TDs K H2 v ds → Q v H2) : t σ H Q := h H (Ex.refl H) Q q
theorem ed_var {i : Nat} (h : σ[i]? = some (some v)) (t : TD K H v d) : EvD K (tVar i) σ H d := fun H1 e _ q => ⟨v, h, q v H1 (Ex.refl H1) (t.mono_ex e)⟩
theorem ed_int {i : Int} : EvD K (tC (.int i)) σ H (.int i) := fun H1 _ _ q => q _ H1 (Ex.refl H1) (.int i)
theorem ed_str {x : Str} : EvD K (tC (.str x)) σ H (.str x) := fun H1 _ _ q => q _ H1 (Ex.refl H1) (.str x)
theorem ed_bl {b : Bool} : EvD K (tC (.bl b)) σ H (.bool b) := fun H1 _ _ q => q _ H1 (Ex.refl H1) (.bl b)
theorem ed_non : EvD K (tC .non) σ H .none := fun H1 _ _ q => q _ H1 (Ex.refl H1) .non
theorem ed_gl {v : V} (t : TD K H v d) : EvD K (tC v) σ H d := fun H1 e _ q => q _ H1 (Ex.refl H1) (t.mono_ex e)
theorem ed_neg {i : Int} (h : EvD K te σ H (.int i)) : EvD K (tUn (rU fun i => .int (-i)) te) σ H (.int (-i)) := fun H1 e Q q =>
  h H1 e _ fun v H2 e2 t => ⟨i, t.int_inv, q _ H2 e2 (.int _)⟩
theorem ed_ix {ds : List PyData} {i : Int} (h : EvD K ta σ H (.tuple ds)) (hi : EvD K tb σ H (.int i)) (ha : atI ds i = some d) : EvD K (tOp (rIxT K) ta tb) σ H d := fun H1 e Q q =>
  h H1 e _ fun v H2 e2 t => hi H2 (e.trans e2) _ fun w H3 e3 t3 => by
    obtain ⟨a, xs, rfl, hx, hs⟩ := (t.mono_ex e3).tup_inv
    obtain ⟨y, hy, ty⟩ := hs.atI ha
    exact ⟨a, xs, i, y, rfl, t3.int_inv, hx.sq, hy, q y H3 (e2.trans e3) ty⟩
theorem ed_tup {t : TA} {ds : List PyData} (h : EvDs K t σ H ds) (hl : ds.length ≤ 100000) : EvD K (tTup t) σ H (.tuple ds) := fun H1 e Q q =>
  h H1 e _ fun vs H2 e2 ts => ⟨Evl.sz_of (by rw [ts.length]; exact hl), fun p hp => q _ _ (e2.trans (Ex.new hp)) (.tup (.inl upd_same) (ts.mono (TX.new hp)))⟩
theorem eds_nil : EvDs K tNil σ H [] := fun H1 _ _ q => q [] H1 (Ex.refl H1) .nil
theorem eds_cons {t : TA} {ds : List PyData} (h : EvD K te σ H d) (hs : EvDs K t σ H ds) : EvDs K (tCons te t) σ H (d :: ds) := fun H1 e Q q =>
  h H1 e _ fun v H2 e2 t2 => hs H2 (e.trans e2) _ fun vs H3 e3 t3 => q _ H3 (e2.trans e3) (.cons (t2.mono_ex e3) t3)
/-- a def over data -/
def SpD (K : PySem.W.Frag) (sp : Sp) (ds : List PyData) (d : PyData) : Prop := ∀ vs H, TDs K H vs ds → ∀ (Q : VK) (E : XK), (∀ v H2, Ex H H2 → TD K H2 v d → Q v H2) → sp vs H Q E
theorem ed_call {sp : Sp} {E : XK} {t : TA} {ds : List PyData} (h : EvDs K t σ H ds) (hs : SpD K sp ds d) : EvD K (tCall sp [] E t) σ H d := fun H1 e Q q =>
  h H1 e _ fun vs H2 e2 ts => by
    rw [List.append_nil]
    exact hs vs H2 ts Q E fun v H3 e3 t3 => q v H3 (e2.trans e3) t3
theorem ed_addS {a b : Str} (ha : EvD K ta σ H (.str a)) (hb : EvD K tb σ H (.str b)) (hz : a.length + b.length ≤ sizeLine) :
    EvD K (tOp (fun x y H Q => ∃ i j, x = .str i ∧ y = .str j ∧ i.length + j.length ≤ sizeLine ∧ Q (.str (i ++ j)) H) ta tb) σ H (.str (a ++ b)) := fun H1 e Q q =>
  ha H1 e _ fun v H2 e2 t2 => hb H2 (e.trans e2) _ fun w H3 e3 t3 => ⟨a, b, t2.str_inv, t3.str_inv, hz, q _ H3 (e2.trans e3) (.str _)⟩
theorem ed_op {g : Int → Int → V} {f : Int → Int → Int} (hg : ∀ i j, g i j = .int (f i j)) {a b : Int} (ha : EvD K ta σ H (.int a)) (hb : EvD K tb σ H (.int b)) : EvD K (tOp (rI0 g) ta tb) σ H (.int (f a b)) := fun H1 e Q q =>
  ha H1 e _ fun v H2 e2 t2 => hb H2 (e.trans e2) _ fun w H3 e3 t3 => ⟨a, b, t2.int_inv, t3.int_inv, q _ H3 (e2.trans e3) (by rw [hg]; exact .int _)⟩
theorem ed_opC {C : Int → Int → Prop} {g : Int → Int → V} {f : Int → Int → Int} (hg : ∀ i j, g i j = .int (f i j)) {a b : Int} (ha : EvD K ta σ H (.int a)) (hb : EvD K tb σ H (.int b)) (hc : C a b) : EvD K (tOp (rI C g) ta tb) σ H (.int (f a b)) := fun H1 e Q q =>
  ha H1 e _ fun v H2 e2 t2 => hb H2 (e.trans e2) _ fun w H3 e3 t3 => ⟨a, b, t2.int_inv, t3.int_inv, hc, q _ H3 (e2.trans e3) (by rw [hg]; exact .int _)⟩

/-! ### tests -/
theorem et_eqS {a b : Str} (ha : EvD K ta σ H (.str a)) (hb : EvD K tb σ H (.str b)) : EvT (tTest (tOp rEq ta tb)) σ H (decide (a = b)) := fun H1 e Q q =>
  ha H1 e _ fun v H2 e2 t2 => hb H2 (e.trans e2) _ fun w H3 e3 t3 => by
    rw [t2.str_inv, t3.str_inv]
    refine ⟨rfl, _, rfl, ?_⟩
    have z : decide (V.str a = V.str b) = decide (a = b) := by simp
    rw [z]
    exact q H3 (e2.trans e3)
theorem et_neS {a b : Str} (ha : EvD K ta σ H (.str a)) (hb : EvD K tb σ H (.str b)) : EvT (tTest (tOp rNe ta tb)) σ H (!decide (a = b)) := fun H1 e Q q =>
  ha H1 e _ fun v H2 e2 t2 => hb H2 (e.trans e2) _ fun w H3 e3 t3 => by
    rw [t2.str_inv, t3.str_inv]
    refine ⟨rfl, _, rfl, ?_⟩
    have z : decide (V.str a = V.str b) = decide (a = b) := by simp
    rw [z]
    exact q H3 (e2.trans e3)
theorem et_cmp {g : Int → Int → V} {f : Int → Int → Bool} (hg : ∀ i j, g i j = .bl (f i j)) {a b : Int} (ha : EvD K ta σ H (.int a)) (hb : EvD K tb σ H (.int b)) : EvT (tTest (tOp (rI0 g) ta tb)) σ H (f a b) := fun H1 e Q q =>
  ha H1 e _ fun v H2 e2 t2 => hb H2 (e.trans e2) _ fun w H3 e3 t3 => ⟨a, b, t2.int_inv, t3.int_inv, _, hg a b, q H3 (e2.trans e3)⟩
theorem et_lt {a b : Int} (ha : EvD K ta σ H (.int a)) (hb : EvD K tb σ H (.int b)) : EvT (tTest (tOp (rI0 fun i j => .bl (decide (i < j))) ta tb)) σ H (decide (a < b)) := et_cmp (fun _ _ => rfl) ha hb
theorem et_gt {a b : Int} (ha : EvD K ta σ H (.int a)) (hb : EvD K tb σ H (.int b)) : EvT (tTest (tOp (rI0 fun i j => .bl (decide (j < i))) ta tb)) σ H (decide (b < a)) := et_cmp (fun _ _ => rfl) ha hb
theorem et_ge {a b : Int} (ha : EvD K ta σ H (.int a)) (hb : EvD K tb σ H (.int b)) : EvT (tTest (tOp (rI0 fun i j => .bl (decide (j ≤ i))) ta tb)) σ H (decide (b ≤ a)) := et_cmp (fun _ _ => rfl) ha hb
theorem et_eqI {a b : Int} (ha : EvD K ta σ H (.int a)) (hb : EvD K tb σ H (.int b)) : EvT (tTest (tOp rEq ta tb)) σ H (decide (a = b)) := fun H1 e Q q =>
  ha H1 e _ fun v H2 e2 t2 => hb H2 (e.trans e2) _ fun w H3 e3 t3 => by
    rw [t2.int_inv, t3.int_inv]
    refine ⟨rfl, _, rfl, ?_⟩
    have z : decide (V.int a = V.int b) = decide (a = b) := by simp
    rw [z]
    exact q H3 (e2.trans e3)
theorem et_neK {a b : Key} (ha : EvD K ta σ H (kD a)) (hb : EvD K tb σ H (kD b)) : EvT (tTest (tOp rNe ta tb)) σ H (!decide (a = b)) := fun H1 e Q q =>
  ha H1 e _ fun v H2 e2 t2 => hb H2 (e.trans e2) _ fun w H3 e3 t3 => by
    rw [t2.key_inv, t3.key_inv]
    refine ⟨scal_key a b, _, rfl, ?_⟩
    rw [dec_key]
    exact q H3 (e2.trans e3)
def hasK (k : Key) (ks : List Key) : Bool := ks.any fun j => decide (j = k)
theorem hasK_iff {k : Key} {ks : List Key} : hasK k ks = true ↔ k ∈ ks := by
  unfold hasK
  rw [List.any_eq_true]
  constructor
  · rintro ⟨j, hj, e⟩
    rw [← of_decide_eq_true e]
    exact hj
  · exact fun h => ⟨k, h, decide_eq_true rfl⟩
theorem inV_keys (k : Key) (ks : List Key) : inV (kV k) (ks.map kV) = hasK k ks := by
  unfold inV hasK
  rw [List.any_map]
  congr 1
  funext j
  show eqV (kV j) (kV k) = decide (j = k)
  cases j with
  | inl i => cases k with
    | inl m =>
      show (i == m) = decide ((Sum.inl i : Key) = Sum.inl m)
      by_cases e : i = m
      · rw [e]; simp
      · rw [decide_eq_false fun z => e (Sum.inl.inj z)]; simpa using e
    | inr m => rfl
  | inr i => cases k with
    | inl m => rfl
    | inr m =>
      show (i == m) = decide ((Sum.inr i : Key) = Sum.inr m)
      by_cases e : i = m
      · rw [e]; simp
      · rw [decide_eq_false fun z => e (Sum.inr.inj z)]; simpa using e
theorem flat_keys (ks : List Key) : (ks.map kV).all flatV = true := by
  rw [List.all_map, List.all_eq_true]
  exact fun k _ => flat_key k
theorem strs_keys (ys : List Str) : ys.map V.str = (ys.map Sum.inr).map kV := by
  rw [List.map_map]
  rfl
theorem inV_strs (x : Str) (ys : List Str) : inV (.str x) (ys.map V.str) = decide (x ∈ ys) := by
  rw [strs_keys, show V.str x = kV (.inr x) from rfl, inV_keys, Bool.eq_iff_iff, hasK_iff, decide_eq_true_iff]
  simp
theorem flat_strs (ys : List Str) : (ys.map V.str).all flatV = true := by rw [strs_keys]; exact flat_keys _
/-- x in ('a', 'b', ..) -/
theorem et_inT {a : Str} {ys : List Str} (ha : EvD K ta σ H (.str a)) (hb : EvD K tb σ H (.tuple (ys.map .str))) : EvT (tTest (tOp (rIn K false) ta tb)) σ H (decide (a ∈ ys)) := fun H1 e Q q =>
  ha H1 e _ fun v H2 e2 t2 => hb H2 (e.trans e2) _ fun w H3 e3 t3 => by
    obtain ⟨p, xs, rfl, hx, hs⟩ := t3.tup_inv
    rw [t2.str_inv]
    have ex : xs = ys.map V.str := by
      have := hs
      rw [show ys.map PyData.str = (ys.map Sum.inr).map kD by rw [List.map_map]; rfl] at this
      rw [TDs.keys_inv this, strs_keys]
    subst ex
    refine ⟨p, _, rfl, .inr hx.sq, rfl, flat_strs ys, _, rfl, ?_⟩
    show Q (inV (.str a) (ys.map V.str)) H3
    rw [inV_strs]
    exact q H3 (e2.trans e3)
/-- x in xs, a list of texts -/
theorem et_inL {neg : Bool} {a : Str} {ys : List Str} {p : Addr} (ha : EvD K ta σ H (.str a)) (hb : Ev tb σ H (.ref p)) (hp : H p = some (.lst (ys.map V.str))) : EvT (tTest (tOp (rIn K neg) ta tb)) σ H (if neg then !decide (a ∈ ys) else decide (a ∈ ys)) := fun H1 e Q q =>
  ha H1 e _ fun v H2 e2 t2 => hb H2 (e.trans e2) _ fun H3 e3 => by
    rw [t2.str_inv]
    refine ⟨p, _, rfl, .inl (SqL.of (e3 _ _ (e2 _ _ (e _ _ hp)))), rfl, flat_strs ys, _, rfl, ?_⟩
    rw [inV_strs]
    exact q H3 (e2.trans e3)
theorem et_eqDp {e : PyData} (ha : EvD K ta σ H d) (hb : EvD K tb σ H e) (sd : SeqAt.shaped d = true) (se : SeqAt.shaped e = true) : EvT (tTest (tOp (rEqD K) ta tb)) σ H (PyData.eqv d e) := fun H1 e1 Q q =>
  ha H1 e1 _ fun v H2 e2 t2 => hb H2 (e1.trans e2) _ fun w H3 e3 t3 => ⟨d, e, (t2.mono_ex e3).dp, t3.dp, sd, se, _, rfl, q H3 (e2.trans e3)⟩
theorem et_neDp {e : PyData} (ha : EvD K ta σ H d) (hb : EvD K tb σ H e) (sd : SeqAt.shaped d = true) (se : SeqAt.shaped e = true) : EvT (tTest (tOp (rNeD K) ta tb)) σ H (!PyData.eqv d e) := fun H1 e1 Q q =>
  ha H1 e1 _ fun v H2 e2 t2 => hb H2 (e1.trans e2) _ fun w H3 e3 t3 => ⟨d, e, (t2.mono_ex e3).dp, t3.dp, sd, se, _, rfl, q H3 (e2.trans e3)⟩
theorem EvD.ev {w : V} (h : EvD K te σ H d) (u : ∀ v' H', TD K H' v' d → v' = w) : Ev te σ H w := fun H1 e Q q => h H1 e _ fun v' H2 e2 t => by
  rw [u v' H2 t]
  exact q H2 e2
theorem EvD.evS {a : Str} (h : EvD K te σ H (.str a)) : Ev te σ H (.str a) := h.ev fun _ _ t => t.str_inv
theorem EvD.evI {a : Int} (h : EvD K te σ H (.int a)) : Ev te σ H (.int a) := h.ev fun _ _ t => t.int_inv
theorem EvD.evK {a : Key} (h : EvD K te σ H (kD a)) : Ev te σ H (kV a) := h.ev fun _ _ t => t.key_inv
theorem EvT.go {b : Bool} {Q : Bool → Hp → Prop} (h : EvT tt σ H b) (q : ∀ H2, Ex H H2 → Q b H2) : tt σ H Q := h H (Ex.refl H) Q q
end

/-! ### comprehensions over data -/
/-- a new list of data -/
def EvLD (K : PySem.W.Frag) (te : TE) (σ : L2.St) (H : Hp) (es : List PyData) : Prop := ∀ H1, Ex H H1 → ∀ Q : VK, (∀ p xs H2, H1 p = none → Ex H1 H2 → H2 p = some (.lst xs) → TDs K H2 xs es → Q (.ref p) H2) → te σ H1 Q
def CwD (K : PySem.W.Frag) (H : Hp) (D : Addr) (es : List PyData) (H' : Hp) : Prop := H D = none ∧ Ex H H' ∧ ∃ xs, H' D = some (.lst xs) ∧ TDs K H' xs es
section
variable {K : PySem.W.Frag} {σ : L2.St} {H H' : Hp} {ta tb te tx tl : TE} {tt tu : TT} {d : PyData} {α : Type}
theorem EvLD.mono {es : List PyData} (e : Ex H H') (h : EvLD K te σ H es) : EvLD K te σ H' es := fun H1 a Q q => h H1 (e.trans a) Q q
theorem EvLD.go {Q : VK} {es : List PyData} (h : EvLD K te σ H es) (q : ∀ p xs H2, H p = none → Ex H H2 → H2 p = some (.lst xs) → TDs K H2 xs es → Q (.ref p) H2) : te σ H Q := h H (Ex.refl H) Q q
theorem cwd_turn {D : Addr} {σ2 : L2.St} {c : Bool} {es : List PyData} (p : CwD K H D es H') (hi : es.length < 50000) (ht : EvT tt σ2 H c) (he : c = true → EvD K te σ2 H d) :
    tt σ2 H' fun b H3 => if b = true then te σ2 H3 fun y H4 => ∃ acc, H4 D = some (.lst acc) ∧ acc.length < sizeLine ∧ CwD K H D (es ++ if c = true then [d] else []) (upd H4 D (.lst (acc ++ [y]))) else CwD K H D (es ++ if c = true then [d] else []) H3 := by
  obtain ⟨p1, p2, xs, p3, p4⟩ := p
  refine ht H' p2 _ fun H3 e3 => ?_
  cases c with
  | true =>
    refine iteT (he rfl H3 (p2.trans e3) _ fun y H4 e4 t4 => ⟨xs, e4 _ _ (e3 _ _ p3), Evl.sz_lt (by rw [p4.length]; omega), p1, Ex.mut ((p2.trans e3).trans e4) p1, _, upd_same, ?_⟩)
    have tx : TX H4 (upd H4 D (.lst (xs ++ [y]))) := TX.lst (e4 _ _ (e3 _ _ p3))
    exact ((p4.mono_ex (e3.trans e4)).snoc t4).mono tx
  | false =>
    refine iteF ⟨p1, p2.trans e3, xs, e3 _ _ p3, ?_⟩
    rw [show (es ++ if (false : Bool) = true then [d] else []) = es by simp]
    exact p4.mono_ex e3
theorem take_comp {ts : List α} {f : α → Bool} {g : α → PyData} {i : Nat} {t : α} (h : ts[i]? = some t) : (((ts.take (i + 1)).filter f).map g) = ((ts.take i).filter f).map g ++ if f t then [g t] else [] := by
  rw [List.take_add_one, h, Option.toList_some, List.filter_append, List.map_append]
  congr 1
  by_cases e : f t = true
  · rw [if_pos e, List.filter_cons, if_pos e] <;> rfl
  · rw [if_neg e, List.filter_cons, if_neg e] <;> rfl
theorem comp_len {ts : List α} {f : α → Bool} {g : α → PyData} : ((ts.filter f).map g).length ≤ ts.length := by
  rw [List.length_map]
  exact List.length_filter_le _ _
/-- over a tuple of data -/
theorem eld_lcT {ts : List α} {enc : α → PyData} {j : Nat} {vs : List Nat} (f : α → Bool) (g : α → PyData) (h : EvD K tl σ H (.tuple (ts.map enc))) (hz : ts.length ≤ 40000) (hw : ∀ x, wipe ((wipe σ vs).set j (some x)) vs = wipe σ vs)
    (ht : ∀ t x H1, t ∈ ts → Ex H H1 → TD K H1 x (enc t) → EvT tt ((wipe σ vs).set j (some x)) H1 (f t)) (he : ∀ t x H1, t ∈ ts → Ex H H1 → TD K H1 x (enc t) → f t = true → EvD K te ((wipe σ vs).set j (some x)) H1 (g t)) :
    EvLD K (tLc (iTup K tl) (gName j) tt te vs) σ H ((ts.filter f).map g) := fun H0 e Q q => h H0 e _ fun v H1 e1 tv => by
  obtain ⟨a, xs, rfl, hx, hs⟩ := tv.tup_inv
  have hl : xs.length = ts.length := by rw [hs.length, List.length_map]
  refine ⟨a, rfl, ⟨xs, hx.sq⟩, fun D hD => lc_tup (xs := xs) (fun i H' => CwD K H1 D (((ts.take i).filter f).map g) H') ⟨hD, Ex.new hD, [], upd_same, .nil⟩ (fun i H' _ p => (hx.mono (TX.of_ex p.2.1)).sq) (fun i x H' hi p => ⟨hw x, ?_⟩) fun H' p => ?_⟩
  · obtain ⟨d, hd, tx⟩ := hs.get' hi
    rw [List.getElem?_map] at hd
    obtain ⟨t, hti, rfl⟩ := Option.map_eq_some_iff.mp hd
    have hm : t ∈ ts := List.mem_of_getElem? hti
    show tt _ H' fun b H3 => if b = true then te _ H3 fun y H4 => ∃ acc, H4 D = some (.lst acc) ∧ acc.length < sizeLine ∧ CwD K H1 D (((ts.take (i + 1)).filter f).map g) (upd H4 D (.lst (acc ++ [y]))) else CwD K H1 D (((ts.take (i + 1)).filter f).map g) H3
    rw [take_comp hti]
    refine cwd_turn p ?_ (ht t x H1 hm (e.trans e1) tx) (he t x H1 hm (e.trans e1) tx)
    have := comp_len (ts := ts.take i) (f := f) (g := g)
    rw [List.length_take] at this
    omega
  · obtain ⟨p1, p2, ys, p3, p4⟩ := p
    rw [hl, List.take_length] at p4
    exact q D ys H' (Evl.fresh_back e1 p1) (e1.trans p2) p3 p4
/-- over a list of data -/
theorem eld_lcL {ts : List α} {enc : α → PyData} {j : Nat} {vs : List Nat} {a : Addr} {xs : List V} (f : α → Bool) (g : α → PyData) (h : Ev tl σ H (.ref a)) (hx : H a = some (.lst xs)) (hs : TDs K H xs (ts.map enc)) (hz : ts.length ≤ 40000) (hw : ∀ x, wipe ((wipe σ vs).set j (some x)) vs = wipe σ vs)
    (ht : ∀ t x H1, t ∈ ts → Ex H H1 → TD K H1 x (enc t) → EvT tt ((wipe σ vs).set j (some x)) H1 (f t)) (he : ∀ t x H1, t ∈ ts → Ex H H1 → TD K H1 x (enc t) → f t = true → EvD K te ((wipe σ vs).set j (some x)) H1 (g t)) :
    EvLD K (tLc (iList K tl) (gName j) tt te vs) σ H ((ts.filter f).map g) := fun H0 e Q q => h H0 e _ fun H1 e1 => by
  have hs := hs.mono_ex (e.trans e1)
  have hx := e1 _ _ (e _ _ hx)
  have hl : xs.length = ts.length := by rw [hs.length, List.length_map]
  refine ⟨a, rfl, ⟨xs, SqL.of hx⟩, fun D hD => lc_list (xs := xs) (fun i H' => CwD K H1 D (((ts.take i).filter f).map g) H') ⟨hD, Ex.new hD, [], upd_same, .nil⟩ (fun i H' _ p => SqL.of (p.2.1 _ _ hx)) (fun i x H' hi p => ⟨hw x, ?_⟩) fun H' p => ?_⟩
  · obtain ⟨d, hd, tx⟩ := hs.get' hi
    rw [List.getElem?_map] at hd
    obtain ⟨t, hti, rfl⟩ := Option.map_eq_some_iff.mp hd
    have hm : t ∈ ts := List.mem_of_getElem? hti
    show tt _ H' fun b H3 => if b = true then te _ H3 fun y H4 => ∃ acc, H4 D = some (.lst acc) ∧ acc.length < sizeLine ∧ CwD K H1 D (((ts.take (i + 1)).filter f).map g) (upd H4 D (.lst (acc ++ [y]))) else CwD K H1 D (((ts.take (i + 1)).filter f).map g) H3
    rw [take_comp hti]
    refine cwd_turn p ?_ (ht t x H1 hm (e.trans e1) tx) (he t x H1 hm (e.trans e1) tx)
    have := comp_len (ts := ts.take i) (f := f) (g := g)
    rw [List.length_take] at this
    omega
  · obtain ⟨p1, p2, ys, p3, p4⟩ := p
    rw [hl, List.take_length] at p4
    exact q D ys H' (Evl.fresh_back e1 p1) (e1.trans p2) p3 p4
/-- over range(n) -/
theorem eld_lcR {n : Int} {ta : TA} {j : Nat} {vs : List Nat} (f : Nat → Bool) (g : Nat → PyData) (h : EvA ta σ H [.int n]) (hn : 0 ≤ n ∧ n ≤ 40000) (hw : ∀ x, wipe ((wipe σ vs).set j (some x)) vs = wipe σ vs)
    (ht : ∀ (t : Nat) H1, (t : Int) < n → Ex H H1 → EvT tt ((wipe σ vs).set j (some (.int t))) H1 (f t)) (he : ∀ (t : Nat) H1, (t : Int) < n → Ex H H1 → f t = true → EvD K te ((wipe σ vs).set j (some (.int t))) H1 (g t)) :
    EvLD K (tLc (iRng1 ta) (gName j) tt te vs) σ H (((List.range n.toNat).filter f).map g) := fun H0 e Q q => h H0 e _ fun H1 e1 => by
  refine ⟨n, rfl, by omega, by omega, fun D hD => lc_range (lo := 0) (n := n.toNat) (fun i H' => CwD K H1 D (((List.range i).filter f).map g) H') ⟨hD, Ex.new hD, [], upd_same, .nil⟩ (fun i H' hi p => ?_) fun H' p => ?_⟩
  · have e0 : (0 : Int) + (i : Int) = (i : Int) := Int.zero_add _
    show wipe ((wipe σ vs).set j (some (.int ((0 : Int) + (i : Int))))) vs = wipe σ vs ∧ tt ((wipe σ vs).set j (some (.int ((0 : Int) + (i : Int))))) H' fun b H3 => if b = true then te ((wipe σ vs).set j (some (.int ((0 : Int) + (i : Int))))) H3 fun y H4 => ∃ acc, H4 D = some (.lst acc) ∧ acc.length < sizeLine ∧ CwD K H1 D (((List.range (i + 1)).filter f).map g) (upd H4 D (.lst (acc ++ [y]))) else CwD K H1 D (((List.range (i + 1)).filter f).map g) H3
    rw [e0]
    refine ⟨hw _, ?_⟩
    have tk : ((List.range (i + 1)).filter f).map g = ((List.range i).filter f).map g ++ if f i then [g i] else [] := by
      rw [List.range_succ, List.filter_append, List.map_append]
      congr 1
      by_cases e : f i = true
      · rw [if_pos e, List.filter_cons, if_pos e] <;> rfl
      · rw [if_neg e, List.filter_cons, if_neg e] <;> rfl
    rw [tk]
    refine cwd_turn p ?_ (ht i H1 (by omega) (e.trans e1)) (he i H1 (by omega) (e.trans e1))
    have := comp_len (ts := List.range i) (f := f) (g := g)
    rw [List.length_range] at this
    omega
  · obtain ⟨p1, p2, ys, p3, p4⟩ := p
    exact q D ys H' (Evl.fresh_back e1 p1) (e1.trans p2) p3 p4
theorem et_yes : EvT tYes σ H true := fun H1 _ Q q => q H1 (Ex.refl H1)
theorem filter_yes {ts : List α} : ts.filter (fun _ => true) = ts := List.filter_eq_self.mpr fun _ _ => rfl
/-- tuple([..]) -/
theorem ed_tupleOf {es : List PyData} (h : EvLD K te σ H es) : EvD K (tCB (fun xs H Q => ∃ p ys, xs = [.ref p] ∧ ((SqL K H p ys ∧ ∀ l, H l = none → Q (.ref l) (upd H l (.tup ys))) ∨ (SqT K H p ys ∧ Q (.ref p) H))) (tCons te tNil)) σ H (.tuple es) := fun H0 e Q q =>
  h H0 e _ fun p xs H1 np e1 hp ts => ⟨p, xs, rfl, .inl ⟨SqL.of hp, fun l hl => q _ _ (e1.trans (Ex.new hl)) (.tup (.inl upd_same) (ts.mono (TX.new hl)))⟩⟩
/-- len(..) -/
abbrev rLenV (K : PySem.W.Frag) : List V → Hp → VK → Prop := fun xs H Q => ∃ x n, xs = [x] ∧ LenV K x H n ∧ Q (.int n) H
theorem ed_lenLD {es : List PyData} (h : EvLD K te σ H es) : EvD K (tCB (rLenV K) (tCons te tNil)) σ H (.int es.length) := fun H0 e Q q =>
  h H0 e _ fun p xs H1 np e1 hp ts => ⟨_, xs.length, rfl, .inl ⟨xs, SqL.of hp, rfl⟩, q _ H1 e1 (by rw [ts.length]; exact .int _)⟩
theorem ed_lenT {ds : List PyData} (h : EvD K te σ H (.tuple ds)) : EvD K (tCB (rLenV K) (tCons te tNil)) σ H (.int ds.length) := fun H0 e Q q =>
  h H0 e _ fun v H1 e1 t => by
    obtain ⟨a, xs, rfl, hx, hs⟩ := t.tup_inv
    exact ⟨_, xs.length, rfl, .inr ⟨xs, hx.sq, rfl⟩, q _ H1 e1 (by rw [hs.length]; exact .int _)⟩
theorem ed_lenL {p : Addr} {xs : List V} (h : Ev te σ H (.ref p)) (hp : H p = some (.lst xs)) : EvD K (tCB (rLenV K) (tCons te tNil)) σ H (.int xs.length) := fun H0 e Q q =>
  h H0 e _ fun H1 e1 => ⟨_, xs.length, rfl, .inl ⟨xs, SqL.of (e1 _ _ (e _ _ hp)), rfl⟩, q _ H1 e1 (.int _)⟩
theorem el_listRg {n : Int} (h : EvD K te σ H (.int n)) (h0 : 0 ≤ n) (h1 : n ≤ 16777216) : EvL (tLstRg (tRg1 te)) σ H (rgV 0 n) := fun H0 e Q q =>
  h H0 e _ fun v H1 e1 t => ⟨n, t.int_inv, RgOk.of_le (by omega) h1 (by omega) h0, fun p np => q p _ (Evl.fresh_back e1 np) (e1.trans (Ex.new np)) upd_same⟩
/-- a def over data, by a relation of its arguments and its value -/
def spData (K : PySem.W.Frag) (R : List PyData → PyData → Prop) : Sp := fun vs H Q _ => ∃ ds d, TDs K H vs ds ∧ R ds d ∧ ∀ v H', Ex H H' → TD K H' v d → Q v H'
theorem spD {R : List PyData → PyData → Prop} {ds : List PyData} {d : PyData} (h : R ds d) : SpD K (spData K R) ds d := fun vs H t Q E q => ⟨ds, d, t, h, q⟩
theorem s_retD {D : Ends} (h : EvD K te σ H d) (k : ∀ v H1, Ex H H1 → TD K H1 v d → D.rt v H1) : tRet te D σ H := h H (Ex.refl H) _ k
theorem q_asgD {D : Ends} {tz : TS} {i : Nat} (h : EvD K te σ H d) (k : ∀ v H1, Ex H H1 → TD K H1 v d → tz D (σ.set i (some v)) H1) : tSeq (tAsg te (gName i)) tz D σ H := h H (Ex.refl H) _ fun v H1 e t => k v H1 e t
end
/-! ### for .. in zip(a, b), tuples of one length -/
section
variable {K : PySem.W.Frag} {σ : L2.St} {H : Hp} {ta tb : TE} {D : Ends} {tu tz : TS}
theorem s_forZ {a b : Addr} {xs ys : List V} {i1 i2 : Nat} (ha : Ev ta σ H (.ref a)) (hb : Ev tb σ H (.ref b)) (hx : TupA K H a xs) (hy : TupA K H b ys) (hl : xs.length = ys.length) (Pv : Nat → L2.St → Hp → Prop)
    (h0 : ∀ H1, Ex H H1 → Pv 0 σ H1) (hk : ∀ i σ' H', Pv i σ' H' → TX H H')
    (hs : ∀ i x y σ' H', xs[i]? = some x → ys[i]? = some y → Pv i σ' H' → ∀ H2, Ex H' H2 → tu { D with nx := Pv (i + 1), ct := Pv (i + 1), bk := D.nx } ((σ'.set i1 (some x)).set i2 (some y)) H2) (hd : ∀ σ' H', Pv xs.length σ' H' → D.nx σ' H') :
    tFor (RZ.iZipA K (tCons ta (tCons tb tNil))) (gTup K 2 (gCons (gName i1) (gCons (gName i2) gNil))) tu D σ H := ha H (Ex.refl H) _ fun H1 e1 => hb H1 e1 _ fun H2 e2 =>
  ⟨a, b, xs, ys, rfl, .inr ⟨(hx.mono (TX.of_ex (e1.trans e2))).sq, (hy.mono (TX.of_ex (e1.trans e2))).sq,
    RZ.for_zipT hl Pv (h0 H2 (e1.trans e2)) (fun i σ' H' p => ⟨(hx.mono (hk i σ' H' p)).sq, (hy.mono (hk i σ' H' p)).sq⟩) (fun i x y T σ' H' ex ey p hT => ⟨T, [x, y], rfl, SqT.of upd_same, rfl, x, [y], rfl, y, [], rfl, rfl, hs i x y σ' H' ex ey p _ (Ex.new hT)⟩) hd⟩⟩
theorem q_forZ {a b : Addr} {xs ys : List V} {i1 i2 : Nat} (ha : Ev ta σ H (.ref a)) (hb : Ev tb σ H (.ref b)) (hx : TupA K H a xs) (hy : TupA K H b ys) (hl : xs.length = ys.length) (Pv : Nat → L2.St → Hp → Prop)
    (h0 : ∀ H1, Ex H H1 → Pv 0 σ H1) (hk : ∀ i σ' H', Pv i σ' H' → TX H H')
    (hs : ∀ i x y σ' H', xs[i]? = some x → ys[i]? = some y → Pv i σ' H' → ∀ H2, Ex H' H2 → tu { D with nx := Pv (i + 1), ct := Pv (i + 1), bk := tz D } ((σ'.set i1 (some x)).set i2 (some y)) H2) (hd : ∀ σ' H', Pv xs.length σ' H' → tz D σ' H') :
    tSeq (tFor (RZ.iZipA K (tCons ta (tCons tb tNil))) (gTup K 2 (gCons (gName i1) (gCons (gName i2) gNil))) tu) tz D σ H := s_forZ (D := { D with nx := tz D }) ha hb hx hy hl Pv h0 hk hs hd
end
/-! ### defs -/
abbrev FnP (K : PySem.W.Frag) (x qual : Str) (st : Stmt) (f : Addr) (fd : FuncData) : Prop := FunD K x qual (defArgs st) (defBody st) (defScope st) [] [] f fd
section
variable {P : Program} {w : World} {K : PySem.W.Frag} {mg : Str → Option Value} {base : Heap}
theorem mkCal {x : Str} {st : Stmt} {f : Addr} {fd : FuncData} {N ps : List Str} {k : Nat} {sp : Sp} (F : FnP K x x st f fd) (gm : mg x = some (.ref f)) (S : FnScope N ps (defScope st))
    (hb : ∀ (kV doc pm : Value) (an : Option Addr) (cdv ct : Value) (us : List Value), us.length = ps.length → bindArgs (PySem.W.fnOf x x (defArgs st) (defBody st) (defScope st) .none kV doc pm an cdv ct) ⟨us, []⟩ = pure (ps.zip us))
    (len : ∀ vs H Q E, sp vs H Q E → vs.length = ps.length)
    (hbody : ∀ (cdv : Value) (A : Around) (outer : List Env) (s : Shared) (H : Hp) (vs : List V) (Q : VK) (E : XK), Room k (A.deeper (envOfC x (defScope st) s.heap.objs.size f cdv)) → sp vs H Q E →
      ∃ t, PSs (cxOf CX0 P w K mg base N x (defScope st) f cdv A outer s H E).nox (defBody st) t ∧ t { nx := fun _ H' => Q .non H', rt := Q } (start N vs) H) : C8.Cal P w K mg base (k + 1) x sp [] :=
  ⟨f, fd, ps, [], F.ok S len fun cdv A outer s H vs Q E hr hsp => by
    obtain ⟨t, h, q⟩ := hbody cdv A outer s H vs Q E hr hsp
    exact ⟨t, h.nox, q⟩, gm, F.kp, F.bindsN hb, .nil⟩
theorem mkMet {m qual : Str} {C : Addr} {st : Stmt} {f : Addr} {fd : FuncData} {N ps : List Str} {k : Nat} {sp : Sp} (c : Cls K C) (me : Meth K C m f) (F : FnP K m qual st f fd) (S : FnScope N ps (defScope st))
    (hb : ∀ (kV doc pm : Value) (an : Option Addr) (cdv ct : Value) (us : List Value), us.length = ps.length → bindArgs (PySem.W.fnOf m qual (defArgs st) (defBody st) (defScope st) .none kV doc pm an cdv ct) ⟨us, []⟩ = pure (ps.zip us))
    (len : ∀ vs H Q E, sp vs H Q E → vs.length = ps.length)
    (hbody : ∀ (cdv : Value) (A : Around) (outer : List Env) (s : Shared) (H : Hp) (vs : List V) (Q : VK) (E : XK), Room k (A.deeper (envOfC qual (defScope st) s.heap.objs.size f cdv)) → sp vs H Q E →
      ∃ t, PSs (cxOf CX0 P w K mg base N qual (defScope st) f cdv A outer s H E).nox (defBody st) t ∧ t { nx := fun _ H' => Q .non H', rt := Q } (start N vs) H) : C8.Met P w K mg base (k + 1) C m sp [] :=
  ⟨f, fd, ps, [], c, me, F.ok S len fun cdv A outer s H vs Q E hr hsp => by
    obtain ⟨t, h, q⟩ := hbody cdv A outer s H vs Q E hr hsp
    exact ⟨t, h.nox, q⟩, F.bindsN hb, .nil⟩
end
end HF
end
section
set_option maxRecDepth 100000
set_option maxHeartbeats 4000000
namespace K86
open PySem PySem.Spec PyProof.Rows L2
def topS (i : Nat) : Stmt := PySem.Challenge.pw_herefrom_k86_whole_containment_is_a_mapp.main.body.getD i (.Pass ⟨0, 0, 0, 0⟩)
abbrev snames_of : Stmt := topS 15
abbrev sterms_of : Stmt := topS 16
abbrev snames_in : Stmt := topS 17
abbrev sresolved : Stmt := topS 18
abbrev spattern_of : Stmt := topS 19
abbrev sbody_of : Stmt := topS 21
abbrev snames_in_body : Stmt := topS 22
abbrev srow_of : Stmt := topS 27
abbrev srows_made : Stmt := topS 30
abbrev sis_ready : Stmt := topS 32
abbrev sbound_terms : Stmt := topS 33
abbrev snext_literal : Stmt := topS 34
abbrev sorder_of : Stmt := topS 35
abbrev smatched : Stmt := topS 37
abbrev swith_rows : Stmt := topS 38
abbrev sbehind : Stmt := topS 40
abbrev ssolutions : Stmt := topS 41
abbrev sanswers : Stmt := topS 42
abbrev sspots_of : Stmt := topS 44
abbrev spicked : Stmt := topS 45
abbrev sRelation___init__ : Stmt := inClass (topS 46) 0
abbrev sRelation_add : Stmt := inClass (topS 46) 3
abbrev sRelation_index_on : Stmt := inClass (topS 46) 5
abbrev sRelation_match : Stmt := inClass (topS 46) 6
abbrev sDatabase___init__ : Stmt := inClass (topS 48) 0
abbrev sDatabase_relation : Stmt := inClass (topS 48) 1
abbrev sDatabase_add : Stmt := inClass (topS 48) 2
abbrev sDatabase_match : Stmt := inClass (topS 48) 5
abbrev scheck_plain : Stmt := topS 50
abbrev svalues_in : Stmt := topS 51
abbrev sfresh_values : Stmt := topS 52
abbrev sfrozen_body : Stmt := topS 53
abbrev smakes_all : Stmt := topS 54
abbrev swith_term : Stmt := topS 57
abbrev swith_terms : Stmt := topS 58
abbrev swith_atom : Stmt := topS 60
abbrev swith_literal : Stmt := topS 61
abbrev ssubsumes : Stmt := topS 62
abbrev s_law_number : Stmt := topS 64
abbrev s_law_take : Stmt := topS 65
abbrev s_law_once : Stmt := topS 66
abbrev s_law_width : Stmt := topS 67
abbrev s_law_const : Stmt := topS 68
abbrev s_law_term : Stmt := topS 69
abbrev s_law_atom : Stmt := topS 70
abbrev s_law_names : Stmt := topS 71
abbrev s_law_plain_rule : Stmt := topS 72
abbrev s_law_special : Stmt := topS 73
abbrev slaw : Stmt := topS 74
/-! ### the data -/
inductive Tm where
  | var (x : Str)
  | val (k : Key)
  deriving DecidableEq
def Tm.d : Tm → PyData
  | .var x => .tuple [.str "var", .str x]
  | .val k => .tuple [.str "value", HF.kD k]
abbrev At := Str × List Tm
def atD (a : At) : PyData := .tuple [.str a.1, .tuple (a.2.map Tm.d)]
def litD (a : At) : PyData := .tuple [.str "is", atD a]
structure Rl where
  hn : Str
  ht : List Tm
  bd : List At
def Rl.d (r : Rl) : PyData := .tuple [.str "rule", .tuple [.str r.hn, .tuple (r.ht.map Tm.d)], .tuple (r.bd.map litD)]
end K86
end
section
set_option maxRecDepth 100000
set_option maxHeartbeats 4000000
namespace K86
open PySem PySem.Spec PyProof.Rows L2 HF
open Evl (Ex Ev EvT EvL EvU EvA)
section
variable {P : Program} {w : World} {K : PySem.W.Frag} {mg : Str → Option Value} {base : Heap} {f : Addr} {fd : FuncData}

theorem at0 {α : Type} {a : α} {l : List α} : atI (a :: l) (0 : Int) = some a := atI_nat (j := 0) rfl
theorem at1 {α : Type} {a b : α} {l : List α} : atI (a :: b :: l) (1 : Int) = some b := atI_nat (j := 1) rfl
theorem at2 {α : Type} {a b c : α} {l : List α} : atI (a :: b :: c :: l) (2 : Int) = some c := atI_nat (j := 2) rfl

/-! ### names_of -/
def addName (acc : List Str) (t : Tm) : List Str := match t with
  | .var x => if x ∈ acc then acc else acc ++ [x]
  | .val _ => acc
def namesOf (ts : List Tm) : List Str := ts.foldl addName []
theorem addName_len (acc : List Str) (t : Tm) : (addName acc t).length ≤ acc.length + 1 := by
  unfold addName
  split
  · split
    · omega
    · simp
  · omega
theorem names_len : ∀ (ts : List Tm) (acc : List Str), (ts.foldl addName acc).length ≤ acc.length + ts.length
  | [], _ => Nat.le_refl _
  | t :: ts, acc => by
    have h1 := names_len ts (addName acc t)
    have h2 := addName_len acc t
    show (ts.foldl addName (addName acc t)).length ≤ _
    simp only [List.length_cons]
    omega
def spNamesOf (K : PySem.W.Frag) : Sp := fun vs H Q _ => ∃ v ts, vs = [v] ∧ TD K H v (.tuple (ts.map Tm.d)) ∧ ts.length ≤ 1000 ∧
  ∀ p H', Ex H H' → H p = none → H' p = some (.lst ((namesOf ts).map V.str)) → Q (.ref p) H'
theorem sc_names_of : FnScope ["terms", "found", "term"] ["terms"] (defScope snames_of) := C8.fnScope_by (by decide +kernel)
theorem cal_names_of (F : FnP K "names_of" "names_of" snames_of f fd) (gm : mg "names_of" = some (.ref f)) : C8.Cal P w K mg base 1 "names_of" (spNamesOf K) [] := by
  refine mkCal F gm sc_names_of (fun _ _ _ _ _ _ us hl => match us, hl with | [_], _ => rfl) (fun vs H Q E h => ?_) (fun cdv A outer s H vs Q E hr h => ?_)
  · obtain ⟨v, ts, rfl, _⟩ := h
    rfl
  · obtain ⟨v, ts, rfl, tv, hl, k⟩ := h
    refine ⟨_, (pss_cons (ps_set (i := 1) sc_names_of.nd rfl (Or.inl rfl) (pe_lst pa_nil))
      (pss_cons (ps_for PassesOwn.never rfl (pi_tup (pv 0)) (pg_name (i := 2) sc_names_of.nd rfl (Or.inl rfl))
      (pss_one (ps_if (PW.pt (pw_and (pt_cmpR op_eq (pe_ix ix_tup (pv 2) pe_int (fun _ _ => rfl)) pe_str (nomark _)) (pw_and1 (pt_cmpR op_notIn_seq (pe_ix ix_tup (pv 2) pe_int (fun _ _ => rfl)) (pv 1) (by rfl))))) (pss_one (ps_expr (pe_bm PySem.F.plainAttrs_list PySem.F.slot_list_append PySem.F.type_list_append mt_append (pv 1) (pa_cons (pe_ix ix_tup (pv 2) pe_int (fun _ _ => rfl)) pa_nil))))
        pss_nil)))
      (pss_one (ps_ret (pv 1))))), ?_⟩
    refine Evl.q_asgL (xs := []) (Evl.el_lst Evl.ea_nil (by decide)) fun p H1 np e1 hp => ?_
    obtain ⟨a, xs, rfl, ta, hs⟩ := tv.tup_inv
    refine Evl.q_forT (K := K) (Evl.ev_var rfl) (Evl.ex_t e1 ta.sq) (fun i σ' H' => (∃ o, σ' = [some (.ref a), some (.ref p), o]) ∧ Ex H H' ∧ H' p = some (.lst ((namesOf (ts.take i)).map V.str))) (fun H2 e2 => ⟨⟨_, rfl⟩, e1.trans e2, e2 _ _ hp⟩)
      (fun i σ' H' _ h => Evl.ex_t h.2.1 ta.sq) ?_ (fun σ' H' h => ?_)
    · rintro i x σ' H' hx ⟨⟨o, rfl⟩, e3, hp3⟩
      obtain ⟨d, hd, tx⟩ := hs.get' hx
      rw [List.getElem?_map] at hd
      obtain ⟨t, ht, rfl⟩ := Option.map_eq_some_iff.mp hd
      have hi := (List.getElem?_eq_some_iff.mp ht).1
      have tk : namesOf (ts.take (i + 1)) = addName (namesOf (ts.take i)) t := by
        unfold namesOf
        rw [List.take_add_one, ht, Option.toList_some, List.foldl_append]
        rfl
      have lacc : (namesOf (ts.take i)).length ≤ ts.length := by
        have := names_len (ts.take i) []
        rw [List.length_take] at this
        simp only [List.length_nil] at this
        unfold namesOf
        omega
      have tx3 : TD K H' x t.d := tx.mono_ex e3
      cases t with
      | var y =>
        refine Evl.s_when (Evl.et_and (et_eqS (ed_ix (ed_var rfl tx3) ed_int at0) ed_str) fun _ => et_inL (neg := true) (a := y) (ed_ix (ed_var rfl tx3) ed_int at1) (Evl.ev_var rfl) hp3) (fun hb H4 e4 => ?_) (fun hb H4 e4 => ?_)
        · refine Evl.s_app (e4 _ _ hp3) (Evl.ev_var rfl) (EvD.evS (a := y) (ed_ix (ed_var rfl (tx3.mono_ex e4)) ed_int at1)) (by rw [List.length_map]; omega) fun H5 e5 => ⟨⟨_, rfl⟩, Ex.mut ((e3.trans e4).trans e5) np, ?_⟩
          rw [upd_same, tk]
          have hm : ¬ y ∈ namesOf (ts.take i) := by simpa using hb
          show _ = some (HO.lst ((if y ∈ namesOf (ts.take i) then _ else namesOf (ts.take i) ++ [y]).map V.str))
          rw [if_neg hm, List.map_append]
          rfl
        · refine ⟨⟨_, rfl⟩, e3.trans e4, ?_⟩
          rw [tk]
          have hm : y ∈ namesOf (ts.take i) := by simpa using hb
          show _ = some (HO.lst ((if y ∈ namesOf (ts.take i) then namesOf (ts.take i) else _).map V.str))
          rw [if_pos hm]
          exact e4 _ _ hp3
      | val k =>
        refine Evl.s_when (b := false) (Evl.et_is (Evl.et_and (b := false) (et_eqS (a := "value") (b := "var") (ed_ix (ed_var rfl tx3) ed_int at0) ed_str) fun h => absurd h (by decide +kernel)) (by decide +kernel)) (fun hb => absurd hb (by decide)) (fun hb H4 e4 => ?_)
        refine ⟨⟨_, rfl⟩, e3.trans e4, ?_⟩
        rw [tk]
        exact e4 _ _ hp3
    · obtain ⟨⟨o, rfl⟩, e3, hp3⟩ := h
      have hl2 : xs.length = ts.length := by rw [hs.length, List.length_map]
      rw [hl2, List.take_length] at hp3
      exact Evl.s_ret (Evl.ev_var rfl) fun H4 e4 => k p H4 (e3.trans e4) np (e4 _ _ hp3)
end
end K86
end
section
set_option maxRecDepth 100000
set_option maxHeartbeats 4000000
namespace K86
open PySem PySem.Spec PyProof.Rows L2 HF
open Evl (Ex Ev EvT EvL EvU EvA)
/-- the built-ins are what they are -/
structure Bl (mg : Str → Option Value) : Prop where
  f_len : mg "len" = none
  f_range : mg "range" = none
  f_list : mg "list" = none
  f_dict : mg "dict" = none
  f_tuple : mg "tuple" = none
  f_zip : mg "zip" = none
  f_all : mg "all" = none
  f_any : mg "any" = none
  f_sum : mg "sum" = none
  f_sorted : mg "sorted" = none
  f_int : mg "int" = none
  f_isinstance : mg "isinstance" = none
  f_bool : mg "bool" = none
  f_str : mg "str" = none
section
variable {P : Program} {w : World} {K : PySem.W.Frag} {mg : Str → Option Value} {base : Heap} {f : Addr} {fd : FuncData}

/-! ### terms_of, body_of -/
def rTermsOf (ds : List PyData) (d : PyData) : Prop := ∃ a : At, ds = [litD a] ∧ d = .tuple (a.2.map Tm.d)
theorem sc_terms_of : FnScope ["literal"] ["literal"] (defScope sterms_of) := C8.fnScope_by (by decide +kernel)
theorem cal_terms_of (F : FnP K "terms_of" "terms_of" sterms_of f fd) (gm : mg "terms_of" = some (.ref f)) : C8.Cal P w K mg base 1 "terms_of" (spData K rTermsOf) [] := by
  refine mkCal F gm sc_terms_of (fun _ _ _ _ _ _ us hl => match us, hl with | [_], _ => rfl) (fun vs H Q E h => ?_) (fun cdv A outer s H vs Q E hr h => ?_)
  · obtain ⟨ds, d, t, ⟨a, rfl, rfl⟩, _⟩ := h
    exact t.length
  · obtain ⟨ds, d, t, ⟨a, rfl, rfl⟩, k⟩ := h
    cases t with
    | @cons v _ _ _ tv t =>
      cases t
      refine ⟨_, (pss_cons (ps_if (pt_cmpR op_in_seq (pe_ix ix_tup (pv 0) pe_int (fun _ _ => rfl)) (pe_tup (pa_cons pe_str (pa_cons pe_str pa_nil))) (by rfl)) (pss_one (ps_ret (pe_ix ix_tup (pe_ix ix_tup (pv 0) pe_int (fun _ _ => rfl)) pe_int (fun _ _ => rfl))))
        pss_nil) pss_never), ?_⟩
      refine Evl.q_if (b := true) (Evl.et_is (et_inT (a := "is") (ys := ["is", "not"]) (ed_ix (ed_var rfl tv) ed_int at0) (ed_tup (eds_cons ed_str (eds_cons ed_str eds_nil)) (by decide))) (by decide +kernel)) (fun _ H1 e1 => ?_) (fun hb => absurd hb (by decide))
      exact s_retD (ed_ix (ed_ix (ed_var rfl (tv.mono_ex e1)) ed_int at1) ed_int at1) fun v' H2 e2 t2 => k v' H2 (e1.trans e2) t2
def rBodyOf (ds : List PyData) (d : PyData) : Prop := ∃ r : Rl, ds = [r.d] ∧ d = .tuple (r.bd.map litD)
theorem at3 {α : Type} {a b c : α} : atI [a, b, c] (-1 : Int) = some c := rfl
theorem sc_body_of : FnScope ["rule"] ["rule"] (defScope sbody_of) := C8.fnScope_by (by decide +kernel)
theorem cal_body_of (F : FnP K "body_of" "body_of" sbody_of f fd) (gm : mg "body_of" = some (.ref f)) : C8.Cal P w K mg base 1 "body_of" (spData K rBodyOf) [] := by
  refine mkCal F gm sc_body_of (fun _ _ _ _ _ _ us hl => match us, hl with | [_], _ => rfl) (fun vs H Q E h => ?_) (fun cdv A outer s H vs Q E hr h => ?_)
  · obtain ⟨ds, d, t, ⟨a, rfl, rfl⟩, _⟩ := h
    exact t.length
  · obtain ⟨ds, d, t, ⟨a, rfl, rfl⟩, k⟩ := h
    cases t with
    | @cons v _ _ _ tv t =>
      cases t
      refine ⟨_, (pss_one (ps_ret (pe_ix ix_tup (pv 0) (pe_un un_neg pe_int) (fun _ _ => rfl)))), ?_⟩
      exact s_retD (ed_ix (ed_var rfl tv) (ed_neg (i := 1) ed_int) at3) k

/-! ### names_in -/
def spNamesIn (K : PySem.W.Frag) : Sp := fun vs H Q _ => ∃ v a, vs = [v] ∧ TD K H v (litD a) ∧ a.2.length ≤ 1000 ∧
  ∀ p H', Ex H H' → H p = none → H' p = some (.lst ((namesOf a.2).map V.str)) → Q (.ref p) H'
theorem sc_names_in : FnScope ["literal", "found"] ["literal"] (defScope snames_in) := C8.fnScope_by (by decide +kernel)
theorem cal_names_in (F : FnP K "names_in" "names_in" snames_in f fd) (gm : mg "names_in" = some (.ref f)) (c_names_of : C8.Cal P w K mg base 1 "names_of" (spNamesOf K) []) (c_terms_of : C8.Cal P w K mg base 1 "terms_of" (spData K rTermsOf) []) :
    C8.Cal P w K mg base 2 "names_in" (spNamesIn K) [] := by
  refine mkCal F gm sc_names_in (fun _ _ _ _ _ _ us hl => match us, hl with | [_], _ => rfl) (fun vs H Q E h => ?_) (fun cdv A outer s H vs Q E hr h => ?_)
  · obtain ⟨v, ts, rfl, _⟩ := h
    rfl
  · obtain ⟨v, a, rfl, tv, hl, k⟩ := h
    refine ⟨_, (pss_cons (ps_set (i := 1) sc_names_in.nd rfl (Or.inl rfl) (C8.pe_c c_names_of hr (by decide) rfl (pa_cons (C8.pe_c c_terms_of hr (by decide) rfl (pa_cons (pv 0) pa_nil)) pa_nil)))
      (pss_cons (ps_if (PW.pt (pw_and (pt_cmpR op_eq (pe_ix ix_tup (pv 0) pe_int (fun _ _ => rfl)) pe_str (nomark _)) (pw_and1 (pt_cmpR op_notIn_seq (pe_ix ix_tup (pv 0) pe_int (fun _ _ => rfl)) (pv 1) (by rfl))))) pss_never
      pss_nil)
      (pss_one (ps_ret (pv 1))))), ?_⟩
    refine (ed_call (eds_cons (ed_var rfl tv) eds_nil) (spD ⟨a, rfl, rfl⟩)).go fun v1 H1 e1 t1 => ?_
    refine ⟨v1, a.2, rfl, t1, hl, fun p H2 e2 np hp => ?_⟩
    refine Evl.q_when (b := false) (Evl.et_is (Evl.et_and (b := false) (et_eqS (a := "is") (b := "let") (ed_ix (ed_var rfl (tv.mono_ex (e1.trans e2))) ed_int at0) ed_str) fun h => absurd h (by decide +kernel)) (by decide +kernel)) (fun hb => absurd hb (by decide)) (fun hb H3 e3 => ?_)
    exact Evl.s_ret (Evl.ev_var rfl) fun H4 e4 => k p H4 (((e1.trans e2).trans e3).trans e4) (Evl.fresh_back e1 np) (e4 _ _ (e3 _ _ hp))
end
end K86
end
section
set_option maxRecDepth 100000
set_option maxHeartbeats 4000000
namespace K86
open PySem PySem.Spec PyProof.Rows L2 HF
open Evl (Ex Ev EvT EvL EvU EvA)
/-! ### bindings: a dict from texts to values -/
abbrev Bd := List (Str × Key)
def bdKV (b : Bd) : List (Key × V) := b.map fun p => (Sum.inr p.1, kV p.2)
def bGet (b : Bd) (x : Str) : Option Key := (b.find? fun p => decide (p.1 = x)).map (·.2)
theorem bGet_val (x : Str) : ∀ b : Bd, valV (bdKV b) (.inr x) = (bGet b x).map kV
  | [] => rfl
  | p :: b => by
    have ih := bGet_val x b
    by_cases e : p.1 = x
    · rw [show bdKV (p :: b) = (Sum.inr p.1, kV p.2) :: bdKV b from rfl, valV_pos (by rw [e])]
      simp [bGet, List.find?_cons, e]
    · rw [show bdKV (p :: b) = (Sum.inr p.1, kV p.2) :: bdKV b from rfl, valV_neg (fun z => e (Sum.inr.inj z)), ih]
      simp [bGet, List.find?_cons, e]
def optV : Option Key → V
  | none => .non
  | some k => kV k
def optD : Option Key → PyData
  | none => .none
  | some k => kD k
theorem td_opt {K : PySem.W.Frag} {H : Hp} (o : Option Key) : TD K H (optV o) (optD o) := by
  cases o with
  | none => exact .non
  | some k => exact TD.key k
theorem getD_opt (o : Option Key) : (o.map kV).getD .non = optV o := by cases o <;> rfl
theorem opt_inv {K : PySem.W.Frag} {H : Hp} {v : V} {o : Option Key} (h : TD K H v (optD o)) : v = optV o := by
  cases o with
  | none => cases h; rfl
  | some k => exact h.key_inv
theorem opts_inv {K : PySem.W.Frag} {H : Hp} : ∀ {os : List (Option Key)} {xs : List V}, TDs K H xs (os.map optD) → xs = os.map optV
  | [], _, h => by cases h; rfl
  | o :: os, _, h => by
    cases h with
    | cons h hs => rw [List.map_cons, opt_inv h, opts_inv hs]
theorem tds_opts {K : PySem.W.Frag} {H : Hp} : ∀ (os : List (Option Key)), TDs K H (os.map optV) (os.map optD)
  | [] => .nil
  | o :: os => .cons (td_opt o) (tds_opts os)
theorem eu_tupleOf {K : PySem.W.Frag} {σ : L2.St} {H : Hp} {te : TE} {os : List (Option Key)} (h : EvLD K te σ H (os.map optD)) : EvU (tCB (fun xs H Q => ∃ p ys, xs = [.ref p] ∧ ((SqL K H p ys ∧ ∀ l, H l = none → Q (.ref l) (upd H l (.tup ys))) ∨ (SqT K H p ys ∧ Q (.ref p) H))) (tCons te tNil)) σ H (os.map optV) := fun H0 e Q q =>
  h H0 e _ fun p xs H1 np e1 hp ts => ⟨p, xs, rfl, .inl ⟨SqL.of hp, fun l hl => by
    rw [opts_inv ts]
    exact q l _ (Evl.fresh_back e1 hl) (e1.trans (Ex.new hl)) upd_same⟩⟩
def res (t : Tm) (b : Bd) : Option Key := match t with
  | .var x => bGet b x
  | .val k => some k
section
variable {P : Program} {w : World} {K : PySem.W.Frag} {mg : Str → Option Value} {base : Heap} {f : Addr} {fd : FuncData} {σ : L2.St} {H : Hp}
theorem ev_dget1 {to tk : TE} {p : Addr} {x : Str} {kvs : List (Key × V)} (ho : Ev to σ H (.ref p)) (hk : EvD K tk σ H (.str x)) (hp : H p = some (.dK kvs)) : Ev (tDGet1 to tk) σ H ((valV kvs (.inr x)).getD .non) := fun H1 e Q q =>
  ho H1 e _ fun H2 e2 => ⟨p, rfl, .inl ⟨kvs, .inl (e2 _ _ (e _ _ hp))⟩, hk H2 (e.trans e2) _ fun v H3 e3 t3 => by
    rw [t3.str_inv]
    exact ⟨_, DGet.k (k := Sum.inr x) (e3 _ _ (e2 _ _ (e _ _ hp))), q H3 (e2.trans e3)⟩⟩
theorem ev_dget2 {to tk tx : TE} {p : Addr} {x : Str} {y : V} {kvs : List (Key × V)} (ho : Ev to σ H (.ref p)) (hk : EvD K tk σ H (.str x)) (hx : Ev tx σ H y) (hp : H p = some (.dK kvs)) : Ev (tDGet2 to tk tx) σ H ((valV kvs (.inr x)).getD y) := fun H1 e Q q =>
  ho H1 e _ fun H2 e2 => ⟨p, rfl, .inl ⟨kvs, .inl (e2 _ _ (e _ _ hp))⟩, hk H2 (e.trans e2) _ fun v H3 e3 t3 => hx H3 ((e.trans e2).trans e3) _ fun H4 e4 => by
    rw [t3.str_inv]
    exact ⟨_, DGet.k (k := Sum.inr x) (e4 _ _ (e3 _ _ (e2 _ _ (e _ _ hp)))), q H4 ((e2.trans e3).trans e4)⟩⟩
/-! ### resolved, pattern_of, row_of -/
def spResolved (K : PySem.W.Frag) : Sp := fun vs H Q _ => ∃ v t p b, vs = [v, .ref p] ∧ TD K H v (Tm.d t) ∧ H p = some (.dK (bdKV b)) ∧ ∀ H', Ex H H' → Q (optV (res t b)) H'
theorem sc_resolved : FnScope ["term", "bound"] ["term", "bound"] (defScope sresolved) := C8.fnScope_by (by decide +kernel)
theorem cal_resolved (F : FnP K "resolved" "resolved" sresolved f fd) (gm : mg "resolved" = some (.ref f)) : C8.Cal P w K mg base 1 "resolved" (spResolved K) [] := by
  refine mkCal F gm sc_resolved (fun _ _ _ _ _ _ us hl => match us, hl with | [_, _], _ => rfl) (fun vs H Q E h => ?_) (fun cdv A outer s H vs Q E hr h => ?_)
  · obtain ⟨v, t, p, b, rfl, _⟩ := h
    rfl
  · obtain ⟨v, t, p, b, rfl, tv, hp, k⟩ := h
    have hu := hu_of hr
    refine ⟨_, (pss_cons (ps_if (pt_cmpR op_eq (pe_ix ix_tup (pv 0) pe_int (fun _ _ => rfl)) pe_str (nomark _)) (pss_one (ps_ret (pe_ix ix_tup (pv 0) pe_int (fun _ _ => rfl))))
      pss_nil)
      (pss_cons (ps_if (pt_cmpR op_eq (pe_ix ix_tup (pv 0) pe_int (fun _ _ => rfl)) pe_str (nomark _)) (pss_one (ps_ret (pe_dget1 hu (pv 1) (pe_ix ix_tup (pv 0) pe_int (fun _ _ => rfl)) ⟨rfl, rfl, rfl, rfl⟩)))
      pss_nil)
      pss_never)), ?_⟩
    cases t with
    | val c =>
      refine Evl.q_if (b := true) (Evl.et_is (et_eqS (a := "value") (b := "value") (ed_ix (ed_var rfl tv) ed_int at0) ed_str) (by decide +kernel)) (fun _ H1 e1 => ?_) (fun hb => absurd hb (by decide))
      exact s_retD (ed_ix (ed_var rfl (tv.mono_ex e1)) ed_int at1) fun v' H2 e2 t2 => by
        rw [t2.key_inv]
        exact k H2 (e1.trans e2)
    | var x =>
      refine Evl.q_when (b := false) (Evl.et_is (et_eqS (a := "var") (b := "value") (ed_ix (ed_var rfl tv) ed_int at0) ed_str) (by decide +kernel)) (fun hb => absurd hb (by decide)) (fun _ H1 e1 => ?_)
      refine Evl.q_if (b := true) (Evl.et_is (et_eqS (a := "var") (b := "var") (ed_ix (ed_var rfl (tv.mono_ex e1)) ed_int at0) ed_str) (by decide +kernel)) (fun _ H2 e2 => ?_) (fun hb => absurd hb (by decide))
      have e12 := e1.trans e2
      refine Evl.s_ret (ev_dget1 (x := x) (Evl.ev_var rfl) (ed_ix (ed_var rfl (tv.mono_ex e12)) ed_int at1) (e12 _ _ hp)) fun H3 e3 => ?_
      rw [bGet_val, getD_opt]
      exact k H3 (e12.trans e3)
def spPatternOf (K : PySem.W.Frag) : Sp := fun vs H Q _ => ∃ v a p b, vs = [v, .ref p] ∧ TD K H v (atD a) ∧ a.2.length ≤ 1000 ∧ H p = some (.dK (bdKV b)) ∧ ∀ q H', Ex H H' → H q = none → H' q = some (.tup ((a.2.map fun t => res t b).map optV)) → Q (.ref q) H'
theorem sc_pattern_of : FnScope ["atom", "bound", "term"] ["atom", "bound"] (defScope spattern_of) := C8.fnScope_by (by decide +kernel)
theorem ed_resolved {ta tb : TE} {t : Tm} {b : Bd} {p : Addr} {E : XK} (ha : EvD K ta σ H (Tm.d t)) (hb : Ev tb σ H (.ref p)) (hp : H p = some (.dK (bdKV b))) : EvD K (tCall (spResolved K) [] E (tCons ta (tCons tb tNil))) σ H (optD (res t b)) := fun H1 e Q q =>
  ha H1 e _ fun v H2 e2 tv => hb H2 (e.trans e2) _ fun H3 e3 => ⟨v, t, p, b, rfl, tv.mono_ex e3, e3 _ _ (e2 _ _ (e _ _ hp)), fun H4 e4 => q _ H4 ((e2.trans e3).trans e4) (td_opt _)⟩
theorem wipe1 {σ : L2.St} {j : Nat} (x : V) : wipe ((wipe σ [j]).set j (some x)) [j] = wipe σ [j] := by
  show ((σ.set j none).set j (some x)).set j none = σ.set j none
  rw [List.set_set, List.set_set]
theorem cal_pattern_of (F : FnP K "pattern_of" "pattern_of" spattern_of f fd) (gm : mg "pattern_of" = some (.ref f)) (T : Bl mg) (c_resolved : C8.Cal P w K mg base 1 "resolved" (spResolved K) []) : C8.Cal P w K mg base 2 "pattern_of" (spPatternOf K) [] := by
  refine mkCal F gm sc_pattern_of (fun _ _ _ _ _ _ us hl => match us, hl with | [_, _], _ => rfl) (fun vs H Q E h => ?_) (fun cdv A outer s H vs Q E hr h => ?_)
  · obtain ⟨v, t, p, b, rfl, _⟩ := h
    rfl
  · obtain ⟨v, a, p, b, rfl, tv, hl, hp, k⟩ := h
    refine ⟨_, (pss_one (ps_ret (pe_callTy call_tuple_of (by rfl) T.f_tuple (by decide +kernel) (pa_cons (pe_lc (own := [("term", 2)]) (g := gName 2) rfl sc_pattern_of.nd (pi_tup (pe_ix ix_tup (pv 0) pe_int (fun _ _ => rfl))) (blkOk_by (own := [("term", 2)]) (N := ["atom", "bound", "term"]) (sc := defScope spattern_of) (by decide +kernel)) (fun _ _ _ _ _ => (pg_name (i := 2) sc_pattern_of.nd rfl (Or.inl rfl))) (fun _ _ _ _ _ => pts_nil) (fun _ _ _ _ _ => (C8.pe_c c_resolved hr (by decide) rfl (pa_cons (pv 2) (pa_cons (pv 1) pa_nil))))) pa_nil)))), ?_⟩
    have key := eld_lcT (K := K) (σ := start ["atom", "bound", "term"] [v, .ref p]) (H := H) (ts := a.2) (enc := Tm.d) (j := 2) (vs := [2]) (tl := tOp (rIxT K) (tVar 0) (tC (.int 1))) (tt := tYes) (te := tCall (spResolved K) [] E0 (tCons (tVar 2) (tCons (tVar 1) tNil))) (fun _ => true) (fun t => optD (res t b)) (ed_ix (ed_var rfl tv) ed_int at1) (by omega) wipe1 (fun _ _ _ _ _ _ => et_yes) fun t x H1 _ e1 tx _ => ed_resolved (ed_var rfl tx) (Evl.ev_var rfl) (e1 _ _ hp)
    rw [filter_yes] at key
    exact Evl.s_retU (eu_tupleOf (by rw [List.map_map]; exact key)) fun q H1 nq e1 hq => k q H1 e1 nq hq
def spRowOf (K : PySem.W.Frag) : Sp := fun vs H Q _ => ∃ v ts p b, vs = [v, .ref p] ∧ TD K H v (.tuple (List.map Tm.d ts)) ∧ ts.length ≤ 1000 ∧ H p = some (.dK (bdKV b)) ∧ ∀ q H', Ex H H' → H q = none → H' q = some (.tup ((ts.map fun t => res t b).map optV)) → Q (.ref q) H'
theorem sc_row_of : FnScope ["terms", "bound", "term"] ["terms", "bound"] (defScope srow_of) := C8.fnScope_by (by decide +kernel)
theorem cal_row_of (F : FnP K "row_of" "row_of" srow_of f fd) (gm : mg "row_of" = some (.ref f)) (T : Bl mg) (c_resolved : C8.Cal P w K mg base 1 "resolved" (spResolved K) []) : C8.Cal P w K mg base 2 "row_of" (spRowOf K) [] := by
  refine mkCal F gm sc_row_of (fun _ _ _ _ _ _ us hl => match us, hl with | [_, _], _ => rfl) (fun vs H Q E h => ?_) (fun cdv A outer s H vs Q E hr h => ?_)
  · obtain ⟨v, t, p, b, rfl, _⟩ := h
    rfl
  · obtain ⟨v, ts, p, b, rfl, tv, hl, hp, k⟩ := h
    refine ⟨_, (pss_one (ps_ret (pe_callTy call_tuple_of (by rfl) T.f_tuple (by decide +kernel) (pa_cons (pe_lc (own := [("term", 2)]) (g := gName 2) rfl sc_row_of.nd (pi_tup (pv 0)) (blkOk_by (own := [("term", 2)]) (N := ["terms", "bound", "term"]) (sc := defScope srow_of) (by decide +kernel)) (fun _ _ _ _ _ => (pg_name (i := 2) sc_row_of.nd rfl (Or.inl rfl))) (fun _ _ _ _ _ => pts_nil) (fun _ _ _ _ _ => (C8.pe_c c_resolved hr (by decide) rfl (pa_cons (pv 2) (pa_cons (pv 1) pa_nil))))) pa_nil)))), ?_⟩
    have key := eld_lcT (K := K) (σ := start ["terms", "bound", "term"] [v, .ref p]) (H := H) (ts := ts) (enc := Tm.d) (j := 2) (vs := [2]) (tl := tVar 0) (tt := tYes) (te := tCall (spResolved K) [] E0 (tCons (tVar 2) (tCons (tVar 1) tNil))) (fun _ => true) (fun t => optD (res t b)) (ed_var rfl tv) (by omega) wipe1 (fun _ _ _ _ _ _ => et_yes) fun t x H1 _ e1 tx _ => ed_resolved (ed_var rfl tx) (Evl.ev_var rfl) (e1 _ _ hp)
    rw [filter_yes] at key
    exact Evl.s_retU (eu_tupleOf (by rw [List.map_map]; exact key)) fun q H1 nq e1 hq => k q H1 e1 nq hq
end
end K86
end
section
set_option maxRecDepth 100000
set_option maxHeartbeats 4000000
namespace K86
open PySem PySem.Spec PyProof.Rows L2 HF
open Evl (Ex Ev EvT EvL EvU EvA)
/-! ### names_in_body -/
def addN (acc : List Str) (x : Str) : List Str := if x ∈ acc then acc else acc ++ [x]
def addNs (acc : List Str) (xs : List Str) : List Str := xs.foldl addN acc
def namesBody (bd : List At) : List Str := bd.foldl (fun acc a => addNs acc (namesOf a.2)) []
theorem addN_len (acc : List Str) (x : Str) : (addN acc x).length ≤ acc.length + 1 := by
  unfold addN
  split
  · omega
  · simp
theorem addNs_len : ∀ (xs acc : List Str), (addNs acc xs).length ≤ acc.length + xs.length
  | [], acc => Nat.le_refl _
  | x :: xs, acc => by
    have h1 := addNs_len xs (addN acc x)
    have h2 := addN_len acc x
    show (addNs (addN acc x) xs).length ≤ _
    simp only [List.length_cons]
    omega
theorem namesOf_len (ts : List Tm) : (namesOf ts).length ≤ ts.length := by
  have := names_len ts []
  simpa [namesOf] using this
theorem namesBody_len (bd : List At) (m : Nat) (hm : ∀ a ∈ bd, a.2.length ≤ m) : ∀ acc : List Str, (bd.foldl (fun acc a => addNs acc (namesOf a.2)) acc).length ≤ acc.length + bd.length * m := by
  induction bd with
  | nil => intro acc; simp
  | cons a bd ih =>
    intro acc
    have h1 := ih (fun b hb => hm b (List.mem_cons_of_mem _ hb)) (addNs acc (namesOf a.2))
    have h2 := addNs_len (namesOf a.2) acc
    have h3 := namesOf_len a.2
    have h4 := hm a (List.mem_cons_self ..)
    show (bd.foldl _ (addNs acc (namesOf a.2))).length ≤ _
    rw [List.length_cons, Nat.succ_mul]
    omega
section
variable {P : Program} {w : World} {K : PySem.W.Frag} {mg : Str → Option Value} {base : Heap} {f : Addr} {fd : FuncData} {σ : L2.St} {H : Hp}
def spNamesBody (K : PySem.W.Frag) : Sp := fun vs H Q _ => ∃ v bd, vs = [v] ∧ TD K H v (.tuple (List.map litD bd)) ∧ bd.length ≤ 20 ∧ (∀ a ∈ bd, a.2.length ≤ 20) ∧
  ∀ p H', Ex H H' → H p = none → H' p = some (.lst ((namesBody bd).map V.str)) → Q (.ref p) H'
theorem sc_names_in_body : FnScope ["body", "found", "literal", "name"] ["body"] (defScope snames_in_body) := C8.fnScope_by (by decide +kernel)
theorem cal_names_in_body (F : FnP K "names_in_body" "names_in_body" snames_in_body f fd) (gm : mg "names_in_body" = some (.ref f)) (c_names_in : C8.Cal P w K mg base 2 "names_in" (spNamesIn K) []) : C8.Cal P w K mg base 3 "names_in_body" (spNamesBody K) [] := by
  refine mkCal F gm sc_names_in_body (fun _ _ _ _ _ _ us hl => match us, hl with | [_], _ => rfl) (fun vs H Q E h => ?_) (fun cdv A outer s H vs Q E hr h => ?_)
  · obtain ⟨v, bd, rfl, _⟩ := h
    rfl
  · obtain ⟨v, bd, rfl, tv, hl, hm, k⟩ := h
    refine ⟨_, (pss_cons (ps_set (i := 1) sc_names_in_body.nd rfl (Or.inl rfl) (pe_lst pa_nil))
      (pss_cons (ps_for PassesOwn.never rfl (pi_tup (pv 0)) (pg_name (i := 2) sc_names_in_body.nd rfl (Or.inl rfl))
      (pss_one (ps_for PassesOwn.never rfl (pi_list (C8.pe_c c_names_in hr (by decide) rfl (pa_cons (pv 2) pa_nil))) (pg_name (i := 3) sc_names_in_body.nd rfl (Or.inl rfl))
        (pss_one (ps_if (pt_cmpR op_notIn_seq (pv 3) (pv 1) (by rfl)) (pss_one (ps_expr (pe_bm PySem.F.plainAttrs_list PySem.F.slot_list_append PySem.F.type_list_append mt_append (pv 1) (pa_cons (pv 3) pa_nil))))
          pss_nil)))))
      (pss_one (ps_ret (pv 1))))), ?_⟩
    refine Evl.q_asgL (xs := []) (Evl.el_lst Evl.ea_nil (by decide)) fun p H1 np e1 hp => ?_
    obtain ⟨a, xs, rfl, ta, hs⟩ := tv.tup_inv
    refine Evl.q_forT (K := K) (Evl.ev_var rfl) (Evl.ex_t e1 ta.sq) (fun i σ' H' => (∃ o o2, σ' = [some (.ref a), some (.ref p), o, o2]) ∧ Ex H H' ∧ H' p = some (.lst ((namesBody (bd.take i)).map V.str))) (fun H2 e2 => ⟨⟨_, _, rfl⟩, e1.trans e2, e2 _ _ hp⟩)
      (fun i σ' H' _ h => Evl.ex_t h.2.1 ta.sq) ?_ (fun σ' H' h => ?_)
    · rintro i x σ' H' hx ⟨⟨o, o2, rfl⟩, e3, hp3⟩
      obtain ⟨d, hd, tx⟩ := hs.get' hx
      rw [List.getElem?_map] at hd
      obtain ⟨t, ht, rfl⟩ := Option.map_eq_some_iff.mp hd
      have hmem : t ∈ bd := List.mem_of_getElem? ht
      have tk : namesBody (bd.take (i + 1)) = addNs (namesBody (bd.take i)) (namesOf t.2) := by
        unfold namesBody
        rw [List.take_add_one, ht, Option.toList_some, List.foldl_append]
        rfl
      have lacc : (namesBody (bd.take i)).length ≤ 400 := by
        have := namesBody_len (bd.take i) 20 (fun b hb => hm b (List.mem_of_mem_take hb)) []
        rw [List.length_take] at this
        simp only [List.length_nil] at this
        unfold namesBody
        have : min i bd.length * 20 ≤ 400 := by omega
        omega
      have lt20 := hm t hmem
      have ltn := namesOf_len t.2
      -- the inner loop
      have el : EvL (tCall (spNamesIn K) [] E0 (tCons (tVar 2) tNil)) ([some (.ref a), some (.ref p), some x, o2] : L2.St) H' ((namesOf t.2).map V.str) := fun H4 e4 Q q =>
        ⟨x, rfl, x, t, rfl, tx.mono_ex (e3.trans e4), by omega, fun p' H5 e5 np' hp' => q p' H5 np' e5 hp'⟩
      refine Evl.s_forNL el (fun l j σ' H2 => (∃ o2, σ' = [some (.ref a), some (.ref p), some x, o2]) ∧ Ex H H2 ∧ l ≠ p ∧ H2 l = some (.lst ((namesOf t.2).map V.str)) ∧ H2 p = some (.lst ((addNs (namesBody (bd.take i)) ((namesOf t.2).take j)).map V.str)))
        (fun l H4 nl e4 hl4 => ⟨⟨_, rfl⟩, e3.trans e4, (ne_of_none hp3 nl).symm, hl4, e4 _ _ hp3⟩) (fun l j σ' H2 _ h => SqL.of h.2.2.2.1) ?_ ?_
      · rintro l j y σ' H2 hy ⟨⟨o2, rfl⟩, e4, nlp, hl4, hp4⟩
        rw [List.getElem?_map] at hy
        obtain ⟨z, hz, rfl⟩ := Option.map_eq_some_iff.mp hy
        have tk2 : addNs (namesBody (bd.take i)) ((namesOf t.2).take (j + 1)) = addN (addNs (namesBody (bd.take i)) ((namesOf t.2).take j)) z := by
          unfold addNs
          rw [List.take_add_one, hz, Option.toList_some, List.foldl_append]
          rfl
        have hj := (List.getElem?_eq_some_iff.mp hz).1
        have lacc2 := addNs_len ((namesOf t.2).take j) (namesBody (bd.take i))
        rw [List.length_take] at lacc2
        refine Evl.s_when (et_inL (neg := true) (a := z) (ed_var rfl (.str z)) (Evl.ev_var rfl) hp4) (fun hb H5 e5 => ?_) (fun hb H5 e5 => ?_)
        · refine Evl.s_app (e5 _ _ hp4) (Evl.ev_var rfl) (Evl.ev_var rfl) (by rw [List.length_map]; omega) fun H6 e6 => ⟨⟨_, rfl⟩, Ex.mut ((e4.trans e5).trans e6) np, nlp, ?_, ?_⟩
          · rw [upd_ne nlp]
            exact e6 _ _ (e5 _ _ hl4)
          · rw [upd_same, tk2]
            have hm : ¬ z ∈ addNs (namesBody (bd.take i)) ((namesOf t.2).take j) := by simpa using hb
            unfold addN
            rw [if_neg hm, List.map_append]
            rfl
        · refine ⟨⟨_, rfl⟩, e4.trans e5, nlp, e5 _ _ hl4, ?_⟩
          rw [tk2]
          have hm : z ∈ addNs (namesBody (bd.take i)) ((namesOf t.2).take j) := by simpa using hb
          unfold addN
          rw [if_pos hm]
          exact e5 _ _ hp4
      · rintro l σ' H2 ⟨⟨o2, rfl⟩, e4, nlp, hl4, hp4⟩
        rw [List.length_map, List.take_length] at hp4
        refine ⟨⟨_, _, rfl⟩, e4, ?_⟩
        rw [tk]
        exact hp4
    · obtain ⟨⟨o, o2, rfl⟩, e3, hp3⟩ := h
      have hl2 : xs.length = bd.length := by rw [hs.length, List.length_map]
      rw [hl2, List.take_length] at hp3
      exact Evl.s_ret (Evl.ev_var rfl) fun H4 e4 => k p H4 (e3.trans e4) np (e4 _ _ hp3)

/-! ### is_ready, bound_terms, next_literal -/
def spReady (K : PySem.W.Frag) : Sp := fun vs H Q _ => ∃ v u a, vs = [v, u] ∧ TD K H v (litD a) ∧ ∀ H', Ex H H' → Q (.bl true) H'
theorem sc_is_ready : FnScope ["literal", "bound", "name"] ["literal", "bound"] (defScope sis_ready) := C8.fnScope_by (by decide +kernel)
theorem cal_is_ready (F : FnP K "is_ready" "is_ready" sis_ready f fd) (gm : mg "is_ready" = some (.ref f)) : C8.Cal P w K mg base 1 "is_ready" (spReady K) [] := by
  refine mkCal F gm sc_is_ready (fun _ _ _ _ _ _ us hl => match us, hl with | [_, _], _ => rfl) (fun vs H Q E h => ?_) (fun cdv A outer s H vs Q E hr h => ?_)
  · obtain ⟨v, u, a, rfl, _⟩ := h
    rfl
  · obtain ⟨v, u, a, rfl, tv, k⟩ := h
    refine ⟨_, (pss_cons (ps_if (pt_cmpR op_eq (pe_ix ix_tup (pv 0) pe_int (fun _ _ => rfl)) pe_str (nomark _)) (pss_one (ps_ret pe_bl))
      pss_nil) pss_never), ?_⟩
    refine Evl.q_if (b := true) (Evl.et_is (et_eqS (a := "is") (b := "is") (ed_ix (ed_var rfl tv) ed_int at0) ed_str) (by decide +kernel)) (fun _ H1 e1 => ?_) (fun hb => absurd hb (by decide))
    exact Evl.s_ret Evl.ev_c fun H2 e2 => k H2 (e1.trans e2)
def spBoundTerms (K : PySem.W.Frag) : Sp := fun vs H Q _ => ∃ v p a ns, vs = [v, .ref p] ∧ TD K H v (litD a) ∧ a.2.length ≤ 1000 ∧ H p = some (.lst (List.map V.str ns)) ∧ ∀ n H', Ex H H' → Q (.int n) H'
theorem sc_bound_terms : FnScope ["literal", "bound", "term"] ["literal", "bound"] (defScope sbound_terms) := C8.fnScope_by (by decide +kernel)
theorem cal_bound_terms (F : FnP K "bound_terms" "bound_terms" sbound_terms f fd) (gm : mg "bound_terms" = some (.ref f)) (T : Bl mg) (c_terms_of : C8.Cal P w K mg base 1 "terms_of" (spData K rTermsOf) []) : C8.Cal P w K mg base 2 "bound_terms" (spBoundTerms K) [] := by
  refine mkCal F gm sc_bound_terms (fun _ _ _ _ _ _ us hl => match us, hl with | [_, _], _ => rfl) (fun vs H Q E h => ?_) (fun cdv A outer s H vs Q E hr h => ?_)
  · obtain ⟨v, p, a, ns, rfl, _⟩ := h
    rfl
  · obtain ⟨v, p, a, ns, rfl, tv, hl, hp, k⟩ := h
    refine ⟨_, (pss_one (ps_ret (pe_callB call_len (by rfl) T.f_len PySem.boot_len (pa_cons (pe_lc (own := [("term", 2)]) (g := gName 2) rfl sc_bound_terms.nd (pi_tup (C8.pe_c c_terms_of hr (by decide) rfl (pa_cons (pv 0) pa_nil))) (blkOk_by (own := [("term", 2)]) (N := ["literal", "bound", "term"]) (sc := defScope sbound_terms) (by decide +kernel)) (fun _ _ _ _ _ => (pg_name (i := 2) sc_bound_terms.nd rfl (Or.inl rfl))) (fun _ _ _ _ _ => (pts_one (PW.pt (pw_or (pt_cmpR op_eq (pe_ix (r := rIxT K) ix_tup (pv 2) pe_int (fun _ _ => rfl)) pe_str (nomark _)) (pw_or1 (PW.pt (pw_and (pt_cmpR op_eq (pe_ix (r := rIxT K) ix_tup (pv 2) pe_int (fun _ _ => rfl)) pe_str (nomark _)) (pw_and1 (pt_cmpR (r := rIn K false) op_in_seq (pe_ix (r := rIxT K) ix_tup (pv 2) pe_int (fun _ _ => rfl)) (pv 1) (by rfl)))))))))) (fun _ _ _ _ _ => (pv 2))) pa_nil)))), ?_⟩
    have key := eld_lcT (K := K) (σ := start ["literal", "bound", "term"] [v, .ref p]) (H := H) (ts := a.2) (enc := Tm.d) (j := 2) (vs := [2]) (tl := tCall (spData K rTermsOf) [] E0 (tCons (tVar 0) tNil))
      (tt := tOr (tTest (tOp rEq (tOp (rIxT K) (tVar 2) (tC (.int 0))) (tC (.str "value")))) (tAnd (tTest (tOp rEq (tOp (rIxT K) (tVar 2) (tC (.int 0))) (tC (.str "var")))) (tTest (tOp (rIn K false) (tOp (rIxT K) (tVar 2) (tC (.int 1))) (tVar 1)))))
      (te := tVar 2) (fun t => match t with | .val _ => true | .var x => decide (x ∈ ns)) Tm.d (ed_call (eds_cons (ed_var rfl tv) eds_nil) (spD ⟨a, rfl, rfl⟩)) (by omega) wipe1 (fun t x H1 _ e1 tx => ?_) fun t x H1 _ e1 tx _ => ed_var rfl tx
    · exact s_retD (ed_lenLD key) fun v H1 e1 t => by
        rw [t.int_inv]
        exact k _ H1 e1
    · cases t with
      | val c => exact Evl.et_is (Evl.et_or (a := true) (b := true) (Evl.et_is (et_eqS (a := "value") (b := "value") (ed_ix (ed_var rfl tx) ed_int at0) ed_str) (by decide +kernel)) fun h => absurd h (by decide)) rfl
      | var y =>
        exact Evl.et_is (Evl.et_or (a := false) (b := decide (y ∈ ns)) (Evl.et_is (et_eqS (a := "var") (b := "value") (ed_ix (ed_var rfl tx) ed_int at0) ed_str) (by decide +kernel)) fun _ =>
          Evl.et_is (Evl.et_and (a := true) (b := decide (y ∈ ns)) (Evl.et_is (et_eqS (a := "var") (b := "var") (ed_ix (ed_var rfl tx) ed_int at0) ed_str) (by decide +kernel)) fun _ => et_inL (neg := false) (a := y) (ed_ix (ed_var rfl tx) ed_int at1) (Evl.ev_var rfl) (e1 _ _ hp)) (by simp)) (by simp)
def spNext (K : PySem.W.Frag) : Sp := fun vs H Q _ => ∃ v p q bd ls ns, vs = [v, .ref p, .ref q] ∧ TD K H v (.tuple (List.map litD bd)) ∧ (∀ a ∈ bd, a.2.length ≤ 1000) ∧ H p = some (.lst (List.map (fun n : Nat => V.int (n : Int)) ls)) ∧ (∀ n ∈ ls, n < bd.length) ∧ ls ≠ [] ∧
  H q = some (.lst (List.map V.str ns)) ∧ ∀ n H', n ∈ ls → Ex H H' → Q (.int (n : Nat)) H'
theorem sc_next_literal : FnScope ["body", "left", "bound", "best", "number"] ["body", "left", "bound"] (defScope snext_literal) := C8.fnScope_by (by decide +kernel)
theorem ed_item {ds : List PyData} {ta tb : TE} {n : Nat} {d : PyData} (h : EvD K ta σ H (.tuple ds)) (hn : EvD K tb σ H (.int (n : Int))) (hd : ds[n]? = some d) : EvD K (tOp (rIxT K) ta tb) σ H d := ed_ix h hn (atI_nat hd)
theorem cal_next_literal (F : FnP K "next_literal" "next_literal" snext_literal f fd) (gm : mg "next_literal" = some (.ref f)) (c_is_ready : C8.Cal P w K mg base 1 "is_ready" (spReady K) []) (c_bound_terms : C8.Cal P w K mg base 2 "bound_terms" (spBoundTerms K) []) : C8.Cal P w K mg base 3 "next_literal" (spNext K) [] := by
  refine mkCal F gm sc_next_literal (fun _ _ _ _ _ _ us hl => match us, hl with | [_, _, _], _ => rfl) (fun vs H Q E h => ?_) (fun cdv A outer s H vs Q E hr h => ?_)
  · obtain ⟨v, p, q, bd, ls, ns, rfl, _⟩ := h
    rfl
  · obtain ⟨v, p, q, bd, ls, ns, rfl, tv, hm, hp, hlt, hne, hq, k⟩ := h
    refine ⟨_, (pss_cons (ps_set (i := 3) sc_next_literal.nd rfl (Or.inl rfl) pe_non)
      (pss_cons (ps_for PassesOwn.never rfl (pi_list (pv 1)) (pg_name (i := 4) sc_next_literal.nd rfl (Or.inl rfl))
      (pss_one (ps_if (pt_val (C8.pe_c c_is_ready hr (by decide) rfl (pa_cons (pe_ix ix_tup (pv 0) (pv 4) (fun _ _ => rfl)) (pa_cons (pv 2) pa_nil)))) (pss_cons (ps_if (pt_cmpR op_ne (pe_ix ix_tup (pe_ix ix_tup (pv 0) (pv 4) (fun _ _ => rfl)) pe_int (fun _ _ => rfl)) pe_str (nomark _)) pss_never
          pss_nil)
          (pss_one (ps_if (PW.pt (pw_or (pt_cmpR op_isN (pv 3) pe_non (nomark _)) (pw_or1 (pt_cmpR op_gt (C8.pe_c c_bound_terms hr (by decide) rfl (pa_cons (pe_ix ix_tup (pv 0) (pv 4) (fun _ _ => rfl)) (pa_cons (pv 2) pa_nil))) (C8.pe_c c_bound_terms hr (by decide) rfl (pa_cons (pe_ix ix_tup (pv 0) (pv 3) (fun _ _ => rfl)) (pa_cons (pv 2) pa_nil))) (nomark _))))) (pss_one (ps_set (i := 3) sc_next_literal.nd rfl (Or.inl rfl) (pv 4)))
          pss_nil)))
        pss_nil)))
      (pss_one (ps_ret (pv 3))))), ?_⟩
    refine Evl.q_asg Evl.ev_c fun H1 e1 => ?_
    refine Evl.q_forLn (K := K) (Evl.ev_var rfl) (SqL.of (e1 _ _ hp)) (fun i σ' H' => (∃ bv o, σ' = [some v, some (.ref p), some (.ref q), some bv, o] ∧ (i = 0 ∧ bv = .non ∨ ∃ n, n ∈ ls ∧ bv = .int (n : Nat))) ∧ Ex H H') (fun H2 e2 => ⟨⟨_, _, rfl, .inl ⟨rfl, rfl⟩⟩, e1.trans e2⟩)
      (fun i σ' H' _ h => SqL.of (h.2 _ _ hp)) ?_ ?_
    · rintro i x σ' H' hx ⟨⟨bv, o, rfl, hbv⟩, e2⟩
      rw [List.getElem?_map] at hx
      obtain ⟨n, hn, rfl⟩ := Option.map_eq_some_iff.mp hx
      have nm : n ∈ ls := List.mem_of_getElem? hn
      have hnb := hlt n nm
      obtain ⟨a, ha⟩ : ∃ a, bd[n]? = some a := ⟨_, List.getElem?_eq_getElem hnb⟩
      have hd : (bd.map litD)[n]? = some (litD a) := by rw [List.getElem?_map, ha]; rfl
      have am : a ∈ bd := List.mem_of_getElem? ha
      have ite : ∀ (t : TE) (H3 : Hp), Ex H H3 → ∀ (o : Option V), EvD K (tOp (rIxT K) (tVar 0) (tVar 4)) ([some v, some (.ref p), some (.ref q), o, some (.int (n : Int))] : L2.St) H3 (litD a) := fun _ H3 e3 o => ed_item (ed_var rfl (tv.mono_ex e3)) (ed_var rfl (.int _)) hd
      refine Evl.s_when (b := true) (Evl.et_B fun H3 e3 Q q0 => (ite (tVar 0) H3 (e2.trans e3) _).go fun v1 H4 e4 t4 => ⟨_, rfl, v1, _, a, rfl, t4, fun H5 e5 => q0 H5 (e4.trans e5)⟩) (fun _ H3 e3 => ?_) (fun hb => absurd hb (by decide))
      have e23 := e2.trans e3
      refine Evl.q_when (b := false) (Evl.et_is (et_neS (a := "is") (b := "is") (ed_ix (ite (tVar 0) H3 e23 _) ed_int at0) ed_str) (by decide +kernel)) (fun hb => absurd hb (by decide)) (fun _ H4 e4 => ?_)
      have e34 := e23.trans e4
      have done : ∀ (c : Bool) (H5 : Hp), Ex H H5 → (if c = true then (tAsg (tVar 4) (gName 3) : TS) else tNext) { nx := fun σ' H' => (∃ bv o, σ' = [some v, some (.ref p), some (.ref q), some bv, o] ∧ (i + 1 = 0 ∧ bv = .non ∨ ∃ n, n ∈ ls ∧ bv = .int (n : Nat))) ∧ Ex H H', rt := Q } [some v, some (.ref p), some (.ref q), some bv, some (.int (n : Int))] H5 → True := fun _ _ _ _ => trivial
      rcases hbv with ⟨rfl, rfl⟩ | ⟨m, hm2, rfl⟩
      · refine Evl.s_when (b := true) (Evl.et_is (Evl.et_or (a := true) (b := true) (fun H5 e5 Q q0 => ⟨_, rfl, rfl, _, rfl, q0 H5 (Ex.refl _)⟩) fun h => absurd h (by decide)) rfl) (fun _ H5 e5 => ?_) (fun hb => absurd hb (by decide))
        exact Evl.s_asg (Evl.ev_var rfl) fun H6 e6 => ⟨⟨_, _, rfl, .inr ⟨n, nm, rfl⟩⟩, (e34.trans e5).trans e6⟩
      · -- best is a number
        have hmb := hlt m hm2
        obtain ⟨b, hb⟩ : ∃ b, bd[m]? = some b := ⟨_, List.getElem?_eq_getElem hmb⟩
        have hdb : (bd.map litD)[m]? = some (litD b) := by rw [List.getElem?_map, hb]; rfl
        show tIfS (tOr _ _) _ _ _ _ H4
        refine ⟨_, rfl, rfl, _, rfl, ?_⟩
        refine iteF ?_
        refine (ite (tVar 0) H4 e34 _).go fun v1 H5 e5 t5 => ⟨_, rfl, v1, q, a, ns, rfl, t5, hm a am, e5 _ _ (e34 _ _ hq), fun n1 H6 e6 => ?_⟩
        have e46 := e34.trans (e5.trans e6)
        refine (ed_item (K := K) (ta := tVar 0) (tb := tVar 3) (σ := [some v, some (.ref p), some (.ref q), some (.int (m : Int)), some (.int (n : Int))]) (H := H6) (ed_var rfl (tv.mono_ex e46)) (ed_var rfl (.int _)) hdb).go fun v2 H7 e7 t7 => ⟨_, rfl, v2, q, b, ns, rfl, t7, hm b (List.mem_of_getElem? hb), e7 _ _ (e46 _ _ hq), fun n2 H8 e8 => ?_⟩
        have e48 := e46.trans (e7.trans e8)
        refine ⟨n1, n2, rfl, rfl, _, rfl, ?_⟩
        refine ite2 (fun _ => ?_) (fun _ => ?_)
        · exact Evl.s_asg (Evl.ev_var rfl) fun H9 e9 => ⟨⟨_, _, rfl, .inr ⟨n, nm, rfl⟩⟩, e48.trans e9⟩
        · exact ⟨⟨_, _, rfl, .inr ⟨m, hm2, rfl⟩⟩, e48⟩
    · rintro σ' H' ⟨⟨bv, o, rfl, hbv⟩, e2⟩
      rcases hbv with ⟨h0, _⟩ | ⟨n, hn, rfl⟩
      · rw [List.length_map] at h0
        exact absurd (List.length_eq_zero_iff.mp h0) hne
      · exact Evl.s_ret (Evl.ev_var rfl) fun H4 e4 => k n H4 hn (e2.trans e4)
end
end K86
end
section
set_option maxRecDepth 100000
set_option maxHeartbeats 4000000
namespace K86
open PySem PySem.Spec PyProof.Rows L2 HF
open Evl (Ex Ev EvT EvL EvU EvA)
theorem first_ix {α : Type} [DecidableEq α] (n : α) : ∀ ls : List α, n ∈ ls → ∃ j, ls[j]? = some n ∧ ∀ m : Nat, m < j → ls[m]? ≠ some n
  | [], h => by cases h
  | a :: ls, h => by
    by_cases e : a = n
    · exact ⟨0, by rw [e]; rfl, fun m hm => absurd hm (by omega)⟩
    · have h' : n ∈ ls := (List.mem_cons.mp h).resolve_left fun z => e z.symm
      obtain ⟨j, h1, h2⟩ := first_ix n ls h'
      refine ⟨j + 1, h1, fun m hm => ?_⟩
      cases m with
      | zero => simpa using e
      | succ m => exact h2 m (by omega)
theorem erase_perm {α : Type} : ∀ {ls : List α} {j : Nat} {n : α}, ls[j]? = some n → (n :: ls.eraseIdx j).Perm ls
  | [], _, _, h => by simp at h
  | a :: ls, 0, n, h => by
    have e : a = n := by simpa using h
    rw [e]
    exact List.Perm.refl _
  | a :: ls, j + 1, n, h => (List.Perm.swap a n _).trans (List.Perm.cons a (erase_perm (ls := ls) (j := j) (by simpa using h)))
theorem erase_map {α β : Type} (g : α → β) : ∀ (l : List α) (j : Nat), (l.map g).eraseIdx j = (l.eraseIdx j).map g
  | [], j => by simp
  | a :: r, 0 => by simp
  | a :: r, j + 1 => by
    have ih := erase_map g r j
    simp [ih]
def intsV (ls : List Nat) : List V := ls.map fun n : Nat => V.int (n : Int)
theorem intsV_eq (ls : List Nat) : intsV ls = (ls.map fun n : Nat => (n : Int)).map V.int := by
  unfold intsV
  rw [List.map_map]
  rfl
section
variable {P : Program} {w : World} {K : PySem.W.Frag} {mg : Str → Option Value} {base : Heap} {f : Addr} {fd : FuncData} {σ : L2.St} {H : Hp}
theorem et_truL {te : TE} {p : Addr} {xs : List V} (h : Ev te σ H (.ref p)) (hp : H p = some (.lst xs)) : EvT (fun σ H Q => te σ H fun x H' => ∃ k, TruV K x H' k ∧ Q k H') σ H (!xs.isEmpty) := fun H0 e Q q =>
  h H0 e _ fun H1 e1 => ⟨_, .inl ⟨xs, SqL.of (e1 _ _ (e _ _ hp)), rfl⟩, q H1 e1⟩
theorem et_isN {te : TE} {v : V} (h : Ev te σ H v) : EvT (tTest (tOp (fun x y H Q => y = .non ∧ Q (.bl (decide (x = .non))) H) te (tC .non))) σ H (decide (v = .non)) := fun H0 e Q q =>
  h H0 e _ fun H1 e1 => ⟨rfl, _, rfl, q H1 e1⟩
def spOrder (K : PySem.W.Frag) : Sp := fun vs H Q _ => ∃ v p bd ns, vs = [v, .ref p] ∧ TD K H v (.tuple (List.map litD bd)) ∧ bd.length ≤ 20 ∧ (∀ a ∈ bd, a.2.length ≤ 20) ∧ H p = some (.lst (List.map V.str ns)) ∧ ns.length ≤ 1000 ∧
  ∀ r H' order, Ex H H' → H r = none → H' r = some (.lst (intsV order)) → order.Perm (List.range bd.length) → Q (.ref r) H'
theorem sc_order_of : FnScope ["body", "names", "bound", "left", "found", "number"] ["body", "names"] (defScope sorder_of) := C8.fnScope_by (by decide +kernel)
theorem cal_order_of (F : FnP K "order_of" "order_of" sorder_of f fd) (gm : mg "order_of" = some (.ref f)) (T : Bl mg) (c_next_literal : C8.Cal P w K mg base 3 "next_literal" (spNext K) []) (c_names_in : C8.Cal P w K mg base 2 "names_in" (spNamesIn K) []) : C8.Cal P w K mg base 4 "order_of" (spOrder K) [] := by
  refine mkCal F gm sc_order_of (fun _ _ _ _ _ _ us hl => match us, hl with | [_, _], _ => rfl) (fun vs H Q E h => ?_) (fun cdv A outer s H vs Q E hr h => ?_)
  · obtain ⟨v, p, bd, ns, rfl, _⟩ := h
    rfl
  · obtain ⟨v, p, bd, ns, rfl, tv, hl, hm, hp, hns, k⟩ := h
    refine ⟨_, (pss_cons (ps_set (i := 2) sc_order_of.nd rfl (Or.inl rfl) (pe_callTy call_list_of (by rfl) T.f_list (by decide +kernel) (pa_cons (pv 1) pa_nil)))
      (pss_cons (ps_set (i := 3) sc_order_of.nd rfl (Or.inl rfl) (pe_listRg rfl rfl T.f_list (prg_1 rfl T.f_range (pe_callB call_len (by rfl) T.f_len PySem.boot_len (pa_cons (pv 0) pa_nil)))))
      (pss_cons (ps_set (i := 4) sc_order_of.nd rfl (Or.inl rfl) (pe_lst pa_nil))
      (pss_cons (ps_while PassesOwn.never (pt_truth (pv 3) (by intro _; rfl))
      (pss_cons (ps_set (i := 5) sc_order_of.nd rfl (Or.inl rfl) (C8.pe_c c_next_literal hr (by decide) rfl (pa_cons (pv 0) (pa_cons (pv 3) (pa_cons (pv 2) pa_nil)))))
        (pss_cons (ps_if (pt_cmpR op_isN (pv 5) pe_non (nomark _)) pss_never
        pss_nil)
        (pss_cons (ps_expr (pe_bm PySem.F.plainAttrs_list PySem.F.slot_list_append PySem.F.type_list_append mt_append (pv 4) (pa_cons (pv 5) pa_nil)))
        (pss_cons (ps_expr (pe_bm PySem.F.plainAttrs_list PySem.F.slot_list_remove PySem.F.type_list_remove mt_remove (pv 3) (pa_cons (pv 5) pa_nil)))
        (pss_one (ps_if (pt_cmpR op_in_seq (pe_ix ix_tup (pe_ix ix_tup (pv 0) (pv 5) (fun _ _ => rfl)) pe_int (fun _ _ => rfl)) (pe_tup (pa_cons pe_str (pa_cons pe_str pa_nil))) (by rfl)) (pss_one (ps_expr (pe_bm PySem.F.plainAttrs_list PySem.F.slot_list_extend PySem.F.type_list_extend mt_extend (pv 2) (pa_cons (C8.pe_c c_names_in hr (by decide) rfl (pa_cons (pe_ix ix_tup (pv 0) (pv 5) (fun _ _ => rfl)) pa_nil)) pa_nil))))
        pss_nil)))))))
      (pss_one (ps_ret (pv 4))))))), ?_⟩
    -- bound = list(names); left = list(range(len(body))); found = []
    refine Evl.q_asgL (xs := ns.map V.str) (Evl.el_list (Evl.ev_var rfl) (SqL.of hp)) fun pb H1 nb e1 hb1 => ?_
    refine Evl.q_asgL (xs := rgV 0 (bd.length : Int)) (el_listRg (K := K) (n := (bd.length : Int)) (by have := ed_lenT (K := K) (σ := [some v, some (.ref p), some (.ref pb), none, none, none]) (te := tVar 0) (ed_var rfl (tv.mono_ex e1)); rw [List.length_map] at this; exact this) (by omega) (by omega)) fun pl H3 nl e3 hl3 => ?_
    have erg : rgV 0 (bd.length : Int) = intsV (List.range bd.length) := by
      unfold rgV intsV
      simp
    rw [erg] at hl3
    refine Evl.q_asgL (xs := []) (Evl.el_lst Evl.ea_nil (by decide)) fun pf H4 nf e4 hf => ?_
    have hb4 : H4 pb = some (.lst (ns.map V.str)) := e4 _ _ (e3 _ _ hb1)
    have hl4 : H4 pl = some (.lst (intsV (List.range bd.length))) := e4 _ _ hl3
    have e04 : Ex H H4 := (e1.trans e3).trans e4
    have nl0 : H pl = none := Evl.fresh_back e1 nl
    have nf0 : H pf = none := Evl.fresh_back (e1.trans e3) nf
    have d1 : pb ≠ pl := ne_of_none hb1 nl
    have d2 : pb ≠ pf := ne_of_none (e3 _ _ hb1) nf
    have d3 : pl ≠ pf := ne_of_none hl3 nf
    refine Evl.q_while (fun m σ' H' => ∃ o fs ls ms, σ' = [some v, some (.ref p), some (.ref pb), some (.ref pl), some (.ref pf), o] ∧ m = ls.length ∧ (fs ++ ls).Perm (List.range bd.length) ∧ ms.length ≤ 1000 + 20 * fs.length ∧ Ex H H' ∧ H' pb = some (.lst (List.map V.str ms)) ∧ H' pl = some (.lst (intsV ls)) ∧ H' pf = some (.lst (intsV fs)))
      bd.length ⟨_, [], List.range bd.length, ns, rfl, by simp, List.Perm.refl _, by omega, e04, hb4, hl4, hf⟩ ?_
    rintro m σ' H' ⟨o, fs, ls, ms, rfl, rfl, hperm, hms, e5, hb5, hl5, hf5⟩
    have lens : fs.length + ls.length = bd.length := by
      have := hperm.length_eq
      rwa [List.length_append, List.length_range] at this
    refine ⟨!(intsV ls).isEmpty, et_truL (Evl.ev_var rfl) hl5, fun hb H6 e6 => ?_, fun hb H6 e6 => ?_⟩
    · have hne : ls ≠ [] := by
        intro z
        rw [z] at hb
        exact absurd hb (by decide)
      refine ⟨_, fun σ2 H2 h => h, ?_⟩
      have hlt : ∀ n ∈ ls, n < bd.length := fun n hn => List.mem_range.mp (hperm.mem_iff.mp (List.mem_append_right _ hn))
      refine ⟨_, rfl, _, rfl, _, rfl, v, pl, pb, bd, ls, ms, rfl, tv.mono_ex (e5.trans e6), fun a ha => by have := hm a ha; omega, e6 _ _ hl5, hlt, hne, e6 _ _ hb5, fun n H7 nm e7 => ?_⟩
      refine Evl.q_when (b := false) (Evl.et_is (et_isN (v := .int (n : Int)) (Evl.ev_var rfl)) (decide_eq_false (fun z => by cases z))) (fun hb => absurd hb (by decide)) (fun _ H8 e8 => ?_)
      have e68 := (e6.trans e7).trans e8
      have hnb := hlt n nm
      obtain ⟨a, ha⟩ : ∃ a, bd[n]? = some a := ⟨_, List.getElem?_eq_getElem hnb⟩
      have hd : (bd.map litD)[n]? = some (litD a) := by rw [List.getElem?_map, ha]; rfl
      have am : a ∈ bd := List.mem_of_getElem? ha
      have fl : (intsV fs).length < 100000 := by
        unfold intsV
        rw [List.length_map]
        omega
      refine Evl.q_app (xs := intsV fs) (v := .int (n : Int)) (e68 _ _ hf5) (Evl.ev_var rfl) (Evl.ev_var rfl) fl fun H9 e9 => ?_
      have hf9 : (upd H9 pf (.lst (intsV fs ++ [V.int (n : Int)]))) pf = some (.lst (intsV (fs ++ [n]))) := by
        rw [upd_same]
        unfold intsV
        rw [List.map_append] <;> rfl
      have e10 : Ex H (upd H9 pf (.lst (intsV fs ++ [V.int (n : Int)]))) := Ex.mut ((e5.trans e68).trans e9) nf0
      have hb9 : (upd H9 pf (.lst (intsV fs ++ [V.int (n : Int)]))) pb = some (.lst (List.map V.str ms)) := by
        rw [upd_ne d2]
        exact e9 _ _ (e68 _ _ hb5)
      have hl9 : (upd H9 pf (.lst (intsV fs ++ [V.int (n : Int)]))) pl = some (.lst (intsV ls)) := by
        rw [upd_ne d3]
        exact e9 _ _ (e68 _ _ hl5)
      generalize upd H9 pf (.lst (intsV fs ++ [V.int (n : Int)])) = G at hf9 e10 hb9 hl9 ⊢
      -- left.remove(number)
      obtain ⟨j, hj, hno⟩ := first_ix n ls nm
      refine ⟨_, rfl, .inl ⟨rfl, _, .inl (.inl hl9)⟩, _, rfl, pl, ls.map (fun n : Nat => (n : Int)), (n : Int), j, rfl, rfl, by rw [← intsV_eq]; exact hl9, by rw [List.getElem?_map, hj]; rfl, fun i hi z => ?_, ?_⟩
      · rw [List.getElem?_map] at z
        obtain ⟨n', hn', e'⟩ := Option.map_eq_some_iff.mp z
        have : n' = n := by omega
        exact hno i hi (this ▸ hn')
      have eer : ((ls.map (fun n : Nat => (n : Int))).eraseIdx j).map V.int = intsV (ls.eraseIdx j) := by
        rw [intsV_eq]
        congr 1
        exact erase_map _ _ _
      rw [eer]
      have e11 : Ex H (upd G pl (.lst (intsV (ls.eraseIdx j)))) := Ex.mut e10 nl0
      have hb11 : (upd G pl (.lst (intsV (ls.eraseIdx j)))) pb = some (.lst (List.map V.str ms)) := by rw [upd_ne d1]; exact hb9
      have hf11 : (upd G pl (.lst (intsV (ls.eraseIdx j)))) pf = some (.lst (intsV (fs ++ [n]))) := by rw [upd_ne d3.symm]; exact hf9
      have hl11 : (upd G pl (.lst (intsV (ls.eraseIdx j)))) pl = some (.lst (intsV (ls.eraseIdx j))) := upd_same
      generalize upd G pl (.lst (intsV (ls.eraseIdx j))) = G2 at e11 hb11 hf11 hl11 ⊢
      have ite : ∀ (H3 : Hp), Ex H H3 → EvD K (tOp (rIxT K) (tVar 0) (tVar 5)) ([some v, some (.ref p), some (.ref pb), some (.ref pl), some (.ref pf), some (.int (n : Int))] : L2.St) H3 (litD a) := fun H3 e3 => ed_item (ed_var rfl (tv.mono_ex e3)) (ed_var rfl (.int _)) hd
      refine Evl.s_when (b := true) (Evl.et_is (et_inT (a := "is") (ys := ["is", "let"]) (ed_ix (ite G2 e11) ed_int at0) (ed_tup (eds_cons ed_str (eds_cons ed_str eds_nil)) (by decide))) (by decide +kernel)) (fun _ G3 g3 => ?_) (fun hb => absurd hb (by decide))
      refine ⟨_, rfl, .inl ⟨rfl, _, .inl (.inl (g3 _ _ hb11))⟩, ?_⟩
      refine (ite G3 (e11.trans g3)).go fun v1 G4 g4 t4 => ⟨v1, a, rfl, t4, by have := hm a am; omega, fun q G5 g5 nq hq => ?_⟩
      have g35 := (g3.trans g4).trans g5
      have qb : q ≠ pb := (ne_of_none (g4 _ _ (g3 _ _ hb11)) nq).symm
      have qn := namesOf_len a.2
      have qa := hm a am
      have zz : sizeLine = 16777216 := sizeLine_eq
      refine ⟨pb, q, List.map V.str ms, List.map V.str (namesOf a.2), rfl, rfl, g35 _ _ hb11, hq, by rw [List.length_map, List.length_map]; omega, ?_⟩
      refine ⟨(ls.eraseIdx j).length, ?_, _, fs ++ [n], ls.eraseIdx j, ms ++ namesOf a.2, rfl, rfl, ?_, ?_, Ex.mut (e11.trans g35) nb, ?_, ?_, ?_⟩
      · have := (erase_perm hj).length_eq
        rw [List.length_cons] at this
        omega
      · have := (erase_perm hj)
        refine List.Perm.trans ?_ hperm
        rw [List.append_assoc]
        exact List.Perm.append_left fs (show (n :: ls.eraseIdx j).Perm ls from this)
      · rw [List.length_append, List.length_append, List.length_cons, List.length_nil]
        omega
      · rw [upd_same, ← List.map_append]
      · rw [upd_ne d1.symm]
        exact g35 _ _ hl11
      · rw [upd_ne d2.symm]
        exact g35 _ _ hf11
    · have hls : ls = [] := by
        cases ls with
        | nil => rfl
        | cons a b => exact absurd (show true = false from hb) (by decide)
      subst hls
      rw [List.append_nil] at hperm
      exact Evl.s_ret (Evl.ev_var rfl) fun H7 e7 => k pf H7 fs ((e5.trans e6).trans e7) nf0 (e7 _ _ (e6 _ _ hf5)) hperm
end
end K86
end
section
set_option maxRecDepth 100000
set_option maxHeartbeats 4000000
/-! x not in l, l a list of dicts of data -/
namespace HF
open PySem PySem.Spec PyProof.Rows L2 PySem.SeqAt
open AutoSeq1 (wpAny_loadPart')
open MeetsSeq MeetsSeq2 MeetsSeq3 SeqRoads2
section
variable {prog : Program} {w : World}
/-- the loop of list.__contains__, its questions answered in this one model -/
theorem has_loopP (l : Addr) (items : Array Value) (n : Nat) (dd : Option Addr) (sl : Array (Option Value)) (x : Value) (e : Value → Bool) : ∀ (m i : Nat), items.size - i = m → MeetsIn prog w (Builtin.«list.__contains__.loop» ⟨[.ref l, x, rawInt i], []⟩)
    (fun A R s => s.heap.get? l = some { cls := .type "list", dict := dd, data := .seq items n, slots := sl } ∧ (∀ y, y ∈ items → EqP prog w A.in1 s y x (e y)) ∧ R (.ok (.ret (.bool ((items.toList.drop i).any e)))) s)
  | 0, i, hm => fun A R s ⟨hl, he, hr⟩ => by
    obtain ⟨hp, g, d, tk, os⟩ := s
    wp_walk using wpAny_loadPart' hl
    have q1 : items[((i : Nat) : Int).toNat]? = none := by simp; omega
    have q2 : items.toList.drop i = [] := by simp; omega
    rw [q2] at hr
    rw [q1]
    wp_walk
    exact hr
  | m + 1, i, hm => fun A R s ⟨hl, he, hr⟩ => by
    obtain ⟨hp, g, d, tk, os⟩ := s
    wp_walk using wpAny_loadPart' hl
    have lt : i < items.size := by omega
    have q1 : items[((i : Nat) : Int).toNat]? = some items[i] := by simp [lt]
    have q2 : items.toList.drop i = items[i] :: items.toList.drop (i + 1) := by simp [List.drop_eq_getElem_cons, lt]
    rw [q2, List.any_cons] at hr
    rw [q1]
    refine wpAny_bind (he _ (Array.getElem_mem lt) _ _ ?_)
    cases hb : e items[i] with
    | true =>
      rw [hb] at hr
      wp_walk
      exact hr
    | false =>
      rw [hb] at hr
      have q3 : ((i : Int) + 1) = ((i + 1 : Nat) : Int) := by push_cast; rfl
      wp_walk
      rw [q3]
      exact ⟨plainId_quiet plain_contains_loop _, codeAny_builtin entry_contains_loop (by
        rw [Around.under_plainId plain_contains_loop _]
        exact has_loopP l items n dd sl x e m (i + 1) (by omega) A R _ ⟨hl, he, by simpa using hr⟩)⟩
theorem hasP (l : Addr) (items : Array Value) (n : Nat) (dd : Option Addr) (sl : Array (Option Value)) (x : Value) (e : Value → Bool) : MeetsIn prog w (Builtin.«list.__contains__» ⟨[.ref l, x], []⟩)
    (fun A R s => s.heap.get? l = some { cls := .type "list", dict := dd, data := .seq items n, slots := sl } ∧ (∀ y, y ∈ items → EqP prog w A.in1 s y x (e y)) ∧ R (.ok (.ret (.bool (items.any e)))) s) := fun A R s ⟨hl, he, hr⟩ => by
  obtain ⟨hp, g, d, tk, os⟩ := s
  wp_walk using wpAny_loadPart' hl
  exact ⟨plainId_quiet plain_contains_loop _, codeAny_builtin entry_contains_loop (by
    rw [Around.under_plainId plain_contains_loop _]
    exact has_loopP l items n dd sl x e _ 0 rfl A R _ ⟨hl, he, by simpa using hr⟩)⟩
theorem notIn_listP {A : Around} {s : Shared} {l : Addr} {items : Array Value} {x : Value} {E Q : Value → Shared → Prop} (e : Value → Bool) (hl : s.heap.IsList l items) (he : ∀ y, y ∈ items → EqP prog w A.in1 s y x (e y))
    (h : Q (.bool (!items.any e)) s) : wpAny (model prog w) A (compareOp .NotIn x (.ref l)) Q E s := by
  obtain ⟨⟨cls, dd, data, sl⟩, ho, hc, n, hd⟩ := id hl
  simp only at hc hd
  subst hc hd
  have hT : s.TypeIs (.ref l) "list" := ⟨_, ho, rfl⟩
  show wpAny _ A (do return .bool (!(← contains (.ref l) x))) Q E s
  refine wpAny_bind (wpAny_contains_slot hT F.slot_list_contains (wpAny_mono (call_meetsIn F.slot_list_contains hT F.entry_list_contains (F.args_list_contains_2 _ _) (hasP l items n dd sl x e) (Q := fun v s' => ∃ b, v = .bool b ∧ Q (.bool (!b)) s') (E := E) ⟨ho, he, _, rfl, h⟩) (fun v s' hv => ?_) fun _ _ e => e))
  obtain ⟨b, rfl, hq⟩ := hv
  exact wpAny_truthy_bool (wpAny_pure hq)
end
/-! ### dicts of data -/
inductive KvD (K : PySem.W.Frag) (H : Hp) : List (Key × V) → List (Key × PyData) → Prop
  | nil : KvD K H [] []
  | cons {k : Key} {v : V} {d : PyData} {kvs : List (Key × V)} {ps : List (Key × PyData)} : TD K H v d → KvD K H kvs ps → KvD K H ((k, v) :: kvs) ((k, d) :: ps)
def dGet (ps : List (Key × PyData)) (k : Key) : Option PyData := (ps.find? fun p => decide (p.1 = k)).map (·.2)
theorem dGet_pos {ps : List (Key × PyData)} {k : Key} {d : PyData} : dGet ((k, d) :: ps) k = some d := by simp [dGet]
theorem dGet_neg {ps : List (Key × PyData)} {k j : Key} {d : PyData} (h : j ≠ k) : dGet ((j, d) :: ps) k = dGet ps k := by simp [dGet, h]
section
variable {K : PySem.W.Frag} {H H' : Hp}
theorem KvD.mono (t : TX H H') {kvs : List (Key × V)} {ps : List (Key × PyData)} (h : KvD K H kvs ps) : KvD K H' kvs ps := by
  induction h with
  | nil => exact .nil
  | cons a _ ih => exact .cons (a.mono t) ih
theorem KvD.length {kvs : List (Key × V)} {ps : List (Key × PyData)} (h : KvD K H kvs ps) : kvs.length = ps.length := by
  induction h with
  | nil => rfl
  | cons a _ ih => simp [ih]
theorem KvD.get {kvs : List (Key × V)} {ps : List (Key × PyData)} (h : KvD K H kvs ps) (k : Key) : (valV kvs k = none ∧ dGet ps k = none) ∨ ∃ v d, valV kvs k = some v ∧ dGet ps k = some d ∧ TD K H v d := by
  induction h with
  | nil => exact .inl ⟨rfl, rfl⟩
  | @cons j v d kvs ps a _ ih =>
    by_cases e : j = k
    · subst e
      exact .inr ⟨v, d, valV_pos rfl, dGet_pos, a⟩
    · rw [valV_neg (p := (j, v)) e, dGet_neg e]
      exact ih
theorem KvD.get_some {kvs : List (Key × V)} {ps : List (Key × PyData)} {k : Key} {d : PyData} (h : KvD K H kvs ps) (e : dGet ps k = some d) : ∃ v, valV kvs k = some v ∧ TD K H v d := by
  rcases h.get k with ⟨_, z⟩ | ⟨v, d', h1, h2, h3⟩
  · rw [z] at e
    cases e
  · rw [h2] at e
    cases e
    exact ⟨v, h1, h3⟩
theorem KvD.get_of {kvs : List (Key × V)} {ps : List (Key × PyData)} {k : Key} {v : V} (h : KvD K H kvs ps) (e : valV kvs k = some v) : ∃ d, dGet ps k = some d ∧ TD K H v d := by
  rcases h.get k with ⟨z, _⟩ | ⟨v', d', h1, h2, h3⟩
  · rw [z] at e
    cases e
  · rw [h1] at e
    cases e
    exact ⟨d', h2, h3⟩
end
def dLe (ps qs : List (Key × PyData)) : Prop := ∀ k d, dGet ps k = some d → ∃ e, dGet qs k = some e ∧ PyData.eqv d e = true
def shapedAll (ps : List (Key × PyData)) : Prop := ∀ k d, dGet ps k = some d → SeqAt.shaped d = true
section
variable {X : Cx} {pins : List (Addr × Obj)} {σ : L2.St} {H : Hp} {s : Shared}
/-- the questions of ==, dict against dict -/
theorem hits_kvd {prog : Program} {w : World} {A : Around} {vb : List (Key × Value)} {F : Key → Value → Value → Bool → Prop} (hF : ∀ k v u b, F k v u b → SeqAt.EqP prog w A s v u b) :
    ∀ va : List (Key × Value), (∀ p ∈ va, ∀ u, valueAt vb p.1 = some u → ∃ b, F p.1 p.2 u b) → ∃ r, PySem.W.KeqHitsP prog w A s vb va r ∧ (r = true → ∀ p ∈ va, ∃ u, valueAt vb p.1 = some u ∧ F p.1 p.2 u true)
  | [], _ => ⟨true, .nil, fun _ p hp => by cases hp⟩
  | (k, v) :: va, h => by
    cases e : valueAt vb k with
    | none => exact ⟨false, .miss e, fun z => by cases z⟩
    | some u =>
      obtain ⟨b, hb⟩ := h (k, v) (List.mem_cons_self ..) u e
      obtain ⟨r, h1, h2⟩ := hits_kvd hF va fun p hp => h p (List.mem_cons_of_mem _ hp)
      refine ⟨b && r, .hit e (hF _ _ _ _ hb) h1, fun z p hp => ?_⟩
      have zb : b = true := (Bool.and_eq_true_iff.mp z).1
      have zr : r = true := (Bool.and_eq_true_iff.mp z).2
      rcases List.mem_cons.mp hp with rfl | hp
      · exact ⟨u, e, by rw [← zb]; exact hb⟩
      · exact h2 zr p hp
theorem valAt_of {va : List (Key × Value)} (nd : (va.map (·.1)).Nodup) {p : Key × Value} (h : p ∈ va) : valueAt va p.1 = some p.2 := by
  induction va with
  | nil => cases h
  | cons q va ih =>
    rw [List.map_cons, List.nodup_cons] at nd
    rcases List.mem_cons.mp h with rfl | h
    · simp [valueAt]
    · have ne : q.1 ≠ p.1 := fun z => nd.1 (by rw [z]; exact List.mem_map_of_mem h)
      have := ih nd.2 h
      simpa [valueAt, ne] using this
theorem valAt_mem {va : List (Key × Value)} {k : Key} {u : Value} (h : valueAt va k = some u) : (k, u) ∈ va := by
  induction va with
  | nil => simp [valueAt] at h
  | cons p va ih =>
    by_cases e : p.1 = k
    · simp [valueAt, e] at h
      exact List.mem_cons.mpr (.inl (by rw [← h, ← e]))
    · simp [valueAt, e] at h
      exact List.mem_cons_of_mem _ (ih (by simpa [valueAt] using h))
/-- dict == dict -/
theorem eqP_dicts (I : Inv X pins σ H s) {A : Around} (hu : A.units + 66 < cLine) {a b : Addr} {ks ls : List (Key × V)} {ps qs : List (Key × PyData)} (ha : H a = some (.dK ks)) (hb : H b = some (.dK ls)) (pa : KvD X.K H ks ps) (pb : KvD X.K H ls qs) (sa : shapedAll ps) (sb : shapedAll qs) :
    ∃ r, SeqAt.EqP X.prog X.w A s (.ref a) (.ref b) r ∧ (r = true → dLe ps qs) := by
  by_cases e : a = b
  · subst e
    rw [ha] at hb
    cases hb
    refine ⟨true, (SeqAt.EqAt.same _).eqP, fun _ k d hd => ?_⟩
    obtain ⟨v, hv, t1⟩ := pa.get_some hd
    obtain ⟨d2, hd2, t2⟩ := pb.get_of hv
    obtain ⟨_, ya, va, ra, da⟩ := (show ObjOk X.prog X.w H s.heap a (.dK ks) from I.hok a _ ha)
    obtain ⟨u, hu', ru⟩ := RelO.some_of (v := v) (o := valueAt va k) (by rw [← hv]; exact ra.val k)
    obtain ⟨as, r1⟩ := Dp.reads I d v u t1.dp ru
    obtain ⟨bs, r2⟩ := Dp.reads I d2 v u t2.dp ru
    have c1 := SeqAt.canLay_of_shaped (sa k d hd)
    have c2 := SeqAt.canLay_of_shaped (sb k d2 hd2)
    have e1 := SeqAt.readOf_eq c1 r1
    have e2 := SeqAt.readOf_eq c2 r2
    refine ⟨d2, hd2, ?_⟩
    rw [← e2, e1]
    exact eqv_refl _ c1
  · obtain ⟨_, ya, va, ra, da⟩ := (show ObjOk X.prog X.w H s.heap a (.dK ks) from I.hok a _ ha)
    obtain ⟨_, yb, vb, rb, db⟩ := (show ObjOk X.prog X.w H s.heap b (.dK ls) from I.hok b _ hb)
    have nda : (va.map (·.1)).Nodup := by
      obtain ⟨_, _, _, _, _, _, _, _, nd⟩ := da
      exact nd
    have tell : ∀ p ∈ va, ∀ u, valueAt vb p.1 = some u → ∃ b, SeqAt.EqP X.prog X.w A.in1 s p.2 u b ∧ (b = true → ∀ d, dGet ps p.1 = some d → ∃ e, dGet qs p.1 = some e ∧ PyData.eqv d e = true) := fun p hp u hu' => by
      have q1 := valAt_of nda hp
      have r1 : RelO (valV ks p.1) (valueAt va p.1) := ra.val p.1
      have r2 : RelO (valV ls p.1) (valueAt vb p.1) := rb.val p.1
      rw [q1] at r1
      rw [hu'] at r2
      cases h1 : valV ks p.1 with
      | none => rw [h1] at r1; exact r1.elim
      | some x =>
        cases h2 : valV ls p.1 with
        | none => rw [h2] at r2; exact r2.elim
        | some y =>
          rw [h1] at r1
          rw [h2] at r2
          obtain ⟨d, hd, td⟩ := pa.get_of h1
          obtain ⟨e', he', te⟩ := pb.get_of h2
          obtain ⟨as, rd1⟩ := Dp.reads I d x p.2 td.dp r1
          obtain ⟨bs, rd2⟩ := Dp.reads I e' y u te.dp r2
          have s1 := sa _ _ hd
          have s2 := sb _ _ he'
          have dp := SeqAt.depth_of_shaped s1
          refine ⟨PyData.eqv d e', (SeqAt.eqAt_reads d e' A.in1 s _ _ _ _ rd1 rd2 (SeqAt.canLay_of_shaped s1) (SeqAt.canLay_of_shaped s2) ?_).eqP, fun z d2 hd2 => ?_⟩
          · have h3 : min d.depth e'.depth ≤ d.depth := Nat.min_le_left _ _
            show A.units + 1 + min d.depth e'.depth < cLine
            omega
          · rw [hd] at hd2
            cases hd2
            exact ⟨e', he', z⟩
    obtain ⟨r, hr, hr2⟩ := hits_kvd (prog := X.prog) (w := X.w) (A := A.in1) (s := s) (vb := vb) (F := fun k v u b => SeqAt.EqP X.prog X.w A.in1 s v u b ∧ (b = true → ∀ d, dGet ps k = some d → ∃ e, dGet qs k = some e ∧ PyData.eqv d e = true)) (fun _ _ _ _ h => h.1) va tell
    refine ⟨_, SeqAt.eqP_refs e fun E Q hq => PySem.W.rcP_dicts (knd := mixKind X.prog X.w) (r := r) ya yb da db (by omega) (fun _ => hr) E Q hq, fun z k d hd => ?_⟩
    have zr : r = true := (Bool.and_eq_true_iff.mp z).2
    obtain ⟨v, hv, _⟩ := pa.get_some hd
    obtain ⟨u, hu', _⟩ := RelO.some_of (v := v) (o := valueAt va k) (by rw [← hv]; exact ra.val k)
    obtain ⟨u2, _, _, h4⟩ := hr2 zr (k, u) (valAt_mem hu')
    exact h4 rfl d hd
end
section
variable {X : Cx}
/-- more not in further -/
def rNotInKv (K : PySem.W.Frag) : R2 := fun x y H Q => ∃ (q l : Addr) (L : List (Addr × List (Key × PyData))) (kvs : List (Key × V)) (ps : List (Key × PyData)), x = .ref q ∧ y = .ref l ∧ H l = some (.lst (L.map fun p => V.ref p.1)) ∧ H q = some (.dK kvs) ∧ KvD K H kvs ps ∧ shapedAll ps ∧
  (∀ p ∈ L, ∃ ks, H p.1 = some (.dK ks) ∧ KvD K H ks p.2 ∧ shapedAll p.2) ∧
  ∀ r, (r = true → ∃ p ∈ L, dLe p.2 ps) → Q (.bl (!r)) H
theorem vals_refs {α : Type} {f : α → Addr} : ∀ {as : List α} {us : List Value}, Vals (as.map fun a => V.ref (f a)) us → us = as.map fun a => Value.ref (f a)
  | [], _, h => by cases h; rfl
  | a :: as, _, h => by
    cases h with
    | cons h hs =>
      cases (show _ = Value.ref (f a) from h)
      rw [vals_refs hs, List.map_cons]
open Classical in
theorem op_notInKv (hu : X.A.units + 70 < cLine) : OpR X (compareOp .NotIn) (rNotInKv X.K) := by
  intro pins s σ H x y v u Q I rx ry h
  obtain ⟨q, l, L, kvs, ps, rfl, rfl, hl, hq, pq, sq, hall, k⟩ := h
  cases (show v = Value.ref q from rx)
  cases (show u = Value.ref l from ry)
  obtain ⟨its, rv, hil, _⟩ := I.list (a := l) (xs := L.map fun p => V.ref p.1) (SqL.of hl)
  have ei : its = L.map fun p : Addr × List (Key × PyData) => Value.ref p.1 := vals_refs rv
  subst ei
  have each : ∀ y : Value, ∃ b : Bool, y ∈ (L.map fun p : Addr × List (Key × PyData) => Value.ref p.1).toArray → SeqAt.EqP X.prog X.w X.A.in1 s y (.ref q) b ∧ (b = true → ∃ p ∈ L, dLe p.2 ps) := fun y => by
    by_cases hy : y ∈ (L.map fun p : Addr × List (Key × PyData) => Value.ref p.1).toArray
    · obtain ⟨p, hp, rfl⟩ := List.mem_map.mp (by simpa using hy : y ∈ L.map fun p : Addr × List (Key × PyData) => Value.ref p.1)
      obtain ⟨ks, h1, h2, h3⟩ := hall p hp
      obtain ⟨r, h4, h5⟩ := eqP_dicts I (A := X.A.in1) (by show X.A.units + 1 + 66 < cLine; omega) h1 hq h2 pq h3 sq
      exact ⟨r, fun _ => ⟨h4, fun z => ⟨p, hp, h5 z⟩⟩⟩
    · exact ⟨false, fun z => absurd z hy⟩
  refine notIn_listP (fun y => Classical.choose (each y)) hil.isList (fun y hy => (Classical.choose_spec (each y) hy).1) ⟨.bl (!((L.map fun p : Addr × List (Key × PyData) => Value.ref p.1).toArray.any fun y => Classical.choose (each y))), H, I, rfl, k _ fun z => ?_⟩
  obtain ⟨y, hy, hy2⟩ := Array.any_eq_true'.mp z
  exact (Classical.choose_spec (each y) hy).2 hy2
end
end HF
end
section
set_option maxRecDepth 100000
set_option maxHeartbeats 4000000
namespace HF
open PySem PySem.Spec PyProof.Rows L2
open Evl (Ex Ev EvT EvL EvU EvA)
theorem units70 {k : Nat} {A : Around} (r : Room k A) : A.units + 70 < cLine := by have := r.un; omega
section
variable {K : PySem.W.Frag} {σ : L2.St} {H : Hp} {tl : TE} {D : Ends} {tu tz : TS} {g : TG}
/-- for .. in a tuple of data -/
theorem s_forD' {ds : List PyData} (h : EvD K tl σ H (.tuple ds)) (Pv : Hp → Nat → L2.St → Hp → Prop) (h0 : ∀ H1, Ex H H1 → Pv H1 0 σ H1) (hk : ∀ H1 i σ' H', Pv H1 i σ' H' → TX H1 H')
    (hs : ∀ H1 i d x σ' H', ds[i]? = some d → TD K H' x d → Pv H1 i σ' H' → g x σ' H' fun σ2 H2 => tu { D with nx := Pv H1 (i + 1), ct := Pv H1 (i + 1), bk := D.nx } σ2 H2) (hd : ∀ H1 σ' H', Pv H1 ds.length σ' H' → D.nx σ' H') : tFor (iTup K tl) g tu D σ H :=
  h H (Ex.refl H) _ fun v H1 e1 t => by
    obtain ⟨a, xs, rfl, hx, hxs⟩ := t.tup_inv
    refine ⟨a, rfl, ⟨xs, hx.sq⟩, for_tup (xs := xs) (Pv H1) (h0 H1 e1) (fun i σ' H' _ p => (hx.mono (hk H1 i σ' H' p)).sq) (fun i x σ' H' hi p => ?_) fun σ' H' p => hd H1 σ' H' (by rw [← hxs.length]; exact p)⟩
    obtain ⟨d, hd', td⟩ := hxs.get' hi
    exact hs H1 i d x σ' H' hd' (td.mono (hk H1 i σ' H' p)) p
theorem s_forD {ds : List PyData} {j : Nat} (h : EvD K tl σ H (.tuple ds)) (Pv : Hp → Nat → L2.St → Hp → Prop) (h0 : ∀ H1, Ex H H1 → Pv H1 0 σ H1) (hk : ∀ H1 i σ' H', Pv H1 i σ' H' → TX H1 H')
    (hs : ∀ H1 i d x σ' H', ds[i]? = some d → TD K H' x d → Pv H1 i σ' H' → tu { D with nx := Pv H1 (i + 1), ct := Pv H1 (i + 1), bk := D.nx } (σ'.set j (some x)) H') (hd : ∀ H1 σ' H', Pv H1 ds.length σ' H' → D.nx σ' H') : tFor (iTup K tl) (gName j) tu D σ H := s_forD' h Pv h0 hk hs hd
theorem q_forD {ds : List PyData} {j : Nat} (h : EvD K tl σ H (.tuple ds)) (Pv : Hp → Nat → L2.St → Hp → Prop) (h0 : ∀ H1, Ex H H1 → Pv H1 0 σ H1) (hk : ∀ H1 i σ' H', Pv H1 i σ' H' → TX H1 H')
    (hs : ∀ H1 i d x σ' H', ds[i]? = some d → TD K H' x d → Pv H1 i σ' H' → tu { D with nx := Pv H1 (i + 1), ct := Pv H1 (i + 1), bk := tz D } (σ'.set j (some x)) H') (hd : ∀ H1 σ' H', Pv H1 ds.length σ' H' → tz D σ' H') : tSeq (tFor (iTup K tl) (gName j) tu) tz D σ H := s_forD (D := { D with nx := tz D }) h Pv h0 hk hs hd
end
end HF
end
section
set_option maxRecDepth 100000
set_option maxHeartbeats 4000000
namespace K86
open PySem PySem.Spec PyProof.Rows L2 HF
open Evl (Ex Ev EvT EvL EvU EvA)
/-- the module's own data -/
structure Gv (K : PySem.W.Frag) (mg : Str → Option Value) (anyA : Addr) : Prop where
  g_ANY : ∃ u, mg "ANY" = some u ∧ RelV (.ref anyA) u
  any_wt : WT K anyA [.str "any"]
  g_MOST_WAYS : ∃ u, mg "MOST_WAYS" = some u ∧ RelV (.int 200) u
def anyD : PyData := .tuple [.str "any"]
theorem any_td {K : PySem.W.Frag} {mg : Str → Option Value} {anyA : Addr} (G : Gv K mg anyA) (H : Hp) : TD K H (.ref anyA) anyD := .tup (.inr G.any_wt) (.cons (.str _) .nil)
theorem eqv_any (t : Tm) : PyData.eqv t.d anyD = false := by
  cases t <;> simp only [Tm.d, anyD, PyData.eqv, PyData.eqvAll, Bool.and_false]
theorem eqv_str (a b : Str) : PyData.eqv (.str a) (.str b) = decide (a = b) := by
  simp only [PyData.eqv]
  by_cases e : a = b
  · rw [decide_eq_true e, e]; simp
  · rw [decide_eq_false e]; simpa using e
theorem eqv_int (a b : Int) : PyData.eqv (.int a) (.int b) = decide (a = b) := by
  simp only [PyData.eqv]
  by_cases e : a = b
  · rw [decide_eq_true e, e]; simp
  · rw [decide_eq_false e]; simpa using e
theorem eqv_key (a b : Key) : PyData.eqv (kD a) (kD b) = decide (a = b) := by
  cases a with
  | inl i =>
    cases b with
    | inl j =>
      show PyData.eqv (.int i) (.int j) = _
      rw [eqv_int]
      by_cases e : i = j
      · rw [e]; simp
      · rw [decide_eq_false e, decide_eq_false fun z => e (Sum.inl.inj z)]
    | inr y => rw [decide_eq_false (fun z => by cases z)]; simp only [kD, PyData.eqv]
  | inr x =>
    cases b with
    | inl j => rw [decide_eq_false (fun z => by cases z)]; simp only [kD, PyData.eqv]
    | inr y =>
      show PyData.eqv (.str x) (.str y) = _
      rw [eqv_str]
      by_cases e : x = y
      · rw [e]; simp
      · rw [decide_eq_false e, decide_eq_false fun z => e (Sum.inr.inj z)]
theorem eqv_two (a b c d : PyData) : PyData.eqv (.tuple [a, b]) (.tuple [c, d]) = (PyData.eqv a c && PyData.eqv b d) := by
  simp only [PyData.eqv, PyData.eqvAll, Bool.and_true]
theorem eqv_tm (t u : Tm) : PyData.eqv t.d u.d = decide (t = u) := by
  cases t with
  | var x =>
    cases u with
    | var y =>
      show PyData.eqv (.tuple [_, _]) (.tuple [_, _]) = _
      rw [eqv_two, eqv_str, eqv_str, decide_eq_true rfl, Bool.true_and]
      by_cases e : x = y
      · rw [e]; simp
      · rw [decide_eq_false e, decide_eq_false fun z => e (Tm.var.inj z)]
    | val k =>
      show PyData.eqv (.tuple [_, _]) (.tuple [_, _]) = _
      rw [eqv_two, eqv_str, decide_eq_false (by decide +kernel), Bool.false_and, decide_eq_false (fun z => by cases z)]
  | val k =>
    cases u with
    | var y =>
      show PyData.eqv (.tuple [_, _]) (.tuple [_, _]) = _
      rw [eqv_two, eqv_str, decide_eq_false (by decide +kernel), Bool.false_and, decide_eq_false (fun z => by cases z)]
    | val j =>
      show PyData.eqv (.tuple [_, _]) (.tuple [_, _]) = _
      rw [eqv_two, eqv_str, eqv_key, decide_eq_true rfl, Bool.true_and]
      by_cases e : k = j
      · rw [e]; simp
      · rw [decide_eq_false e, decide_eq_false fun z => e (Tm.val.inj z)]
def Tm.ok : Tm → Bool
  | .var x => PyData.strOk x
  | .val (.inr x) => PyData.strOk x
  | .val (.inl _) => true
theorem shaped_tm {t : Tm} (h : t.ok = true) : SeqAt.shaped t.d = true := by
  have e1 : PyData.strOk (Str.ofString "var") = true := by decide +kernel
  have e2 : PyData.strOk (Str.ofString "value") = true := by decide +kernel
  cases t with
  | var x =>
    have h : PyData.strOk x = true := h
    simp [SeqAt.shaped, Tm.d, PyData.canLay0, PyData.canLayAll0, PyData.depth, PyData.depthAll, e1, h]
  | val k =>
    cases k with
    | inl i => simp [SeqAt.shaped, Tm.d, kD, PyData.canLay0, PyData.canLayAll0, PyData.depth, PyData.depthAll, e2]
    | inr x =>
      have h : PyData.strOk x = true := h
      simp [SeqAt.shaped, Tm.d, kD, PyData.canLay0, PyData.canLayAll0, PyData.depth, PyData.depthAll, e2, h]
theorem shaped_any : SeqAt.shaped anyD = true := by
  have e1 : PyData.strOk (Str.ofString "any") = true := by decide +kernel
  simp [SeqAt.shaped, anyD, PyData.canLay0, PyData.canLayAll0, PyData.depth, PyData.depthAll, e1]
/-! ### places: texts to terms -/
abbrev Pl := List (Str × Tm)
def tGet (b : Pl) (x : Str) : Option Tm := (b.find? fun p => decide (p.1 = x)).map (·.2)
def psOf (b : Pl) : List (Key × PyData) := b.map fun p => (Sum.inr p.1, p.2.d)
theorem tGet_cons (p : Str × Tm) (b : Pl) (x : Str) : tGet (p :: b) x = if p.1 = x then some p.2 else tGet b x := by
  unfold tGet
  by_cases e : p.1 = x <;> simp [e]
theorem ps_get (b : Pl) (x : Str) : dGet (psOf b) (.inr x) = (tGet b x).map Tm.d := by
  induction b with
  | nil => rfl
  | cons p b ih =>
    rw [tGet_cons]
    show dGet ((Sum.inr p.1, p.2.d) :: (psOf b)) (.inr x) = _
    by_cases e : p.1 = x
    · rw [if_pos e, e, dGet_pos]; rfl
    · rw [if_neg e, dGet_neg (fun z => e (Sum.inr.inj z)), ih]
theorem ps_get_inl (b : Pl) (i : Int) : dGet (psOf b) (.inl i) = none := by
  induction b with
  | nil => rfl
  | cons p b ih =>
    show dGet ((Sum.inr p.1, p.2.d) :: (psOf b)) (.inl i) = _
    rw [dGet_neg (fun z => by cases z), ih]
theorem tGet_mem {b : Pl} {x : Str} {t : Tm} (h : tGet b x = some t) : (x, t) ∈ b := by
  induction b with
  | nil => cases h
  | cons p b ih =>
    rw [tGet_cons] at h
    by_cases e : p.1 = x
    · rw [if_pos e] at h
      exact List.mem_cons.mpr (.inl (by rw [← e, ← Option.some.inj h]))
    · rw [if_neg e] at h
      exact List.mem_cons_of_mem _ (ih h)
theorem ps_shaped {b : Pl} (hb : ∀ p ∈ b, p.2.ok = true) : shapedAll (psOf b) := fun k d h => by
  cases k with
  | inl i => rw [ps_get_inl] at h; cases h
  | inr x =>
    rw [ps_get] at h
    obtain ⟨t, ht, rfl⟩ := Option.map_eq_some_iff.mp h
    exact shaped_tm (hb _ (tGet_mem ht))
def pLe (b c : Pl) : Prop := ∀ x t, tGet b x = some t → tGet c x = some t
theorem dLe_pLe {b c : Pl} (h : dLe (psOf b) (psOf c)) : pLe b c := fun x t e => by
  obtain ⟨d, h1, h2⟩ := h (.inr x) t.d (by rw [ps_get, e]; rfl)
  rw [ps_get] at h1
  obtain ⟨u, hu, rfl⟩ := Option.map_eq_some_iff.mp h1
  rw [eqv_tm] at h2
  rw [hu, of_decide_eq_true h2]
def PlAt (K : PySem.W.Frag) (H : Hp) (p : Addr) (b : Pl) : Prop := ∃ kvs, H p = some (.dK kvs) ∧ KvD K H kvs (psOf b) ∧ (b.map (·.1)).Nodup ∧ ∀ p ∈ b, p.2.ok = true
theorem PlAt.mono {K : PySem.W.Frag} {H H' : Hp} (e : Ex H H') {p : Addr} {b : Pl} (h : PlAt K H p b) : PlAt K H' p b :=
  let ⟨kvs, h1, h2, h3, h4⟩ := h
  ⟨kvs, e _ _ h1, h2.mono (TX.of_ex e), h3, h4⟩
def OutP (K : PySem.W.Frag) (H : Hp) (v : V) : Option Pl → Prop
  | none => v = .non
  | some b => ∃ q, v = .ref q ∧ PlAt K H q b
theorem OutP.mono {K : PySem.W.Frag} {H H' : Hp} (e : Ex H H') {v : V} {o : Option Pl} (h : OutP K H v o) : OutP K H' v o := by
  cases o with
  | none => exact h
  | some b => exact let ⟨q, h1, h2⟩ := h; ⟨q, h1, h2.mono e⟩
def stepT (t u : Tm) (b : Pl) : Option Pl := match t with
  | .val k => if u = .val k then some b else none
  | .var x => match tGet b x with
    | none => some (b ++ [(x, u)])
    | some u' => if u' = u then some b else none
theorem tGet_none {b : Pl} {x : Str} (h : tGet b x = none) : x ∉ b.map (·.1) := by
  induction b with
  | nil => exact fun z => by cases z
  | cons p b ih =>
    rw [tGet_cons] at h
    by_cases e : p.1 = x
    · rw [if_pos e] at h; cases h
    · rw [if_neg e] at h
      intro z
      rw [List.map_cons] at z
      rcases List.mem_cons.mp z with z | z
      · exact e z.symm
      · exact ih h z
theorem put_new {K : PySem.W.Frag} {H : Hp} {x : Str} {u : Tm} {v : V} (tv : TD K H v u.d) : ∀ {b : Pl} {kvs : List (Key × V)}, KvD K H kvs (psOf b) → tGet b x = none → (kvs.any fun kv => decide (kv.1 = Sum.inr x)) = false ∧ KvD K H (kvs ++ [(Sum.inr x, v)]) (psOf (b ++ [(x, u)]))
  | [], _, h, _ => by
    cases h
    exact ⟨rfl, .cons tv .nil⟩
  | p :: b, _, h, hn => by
    cases h with
    | cons h1 h2 =>
      rw [tGet_cons] at hn
      by_cases e : p.1 = x
      · rw [if_pos e] at hn; cases hn
      · rw [if_neg e] at hn
        obtain ⟨i1, i2⟩ := put_new tv h2 hn
        refine ⟨?_, .cons h1 i2⟩
        rw [List.any_cons, i1, Bool.or_false]
        exact decide_eq_false fun z => e (Sum.inr.inj z)
theorem put_skip {K : PySem.W.Frag} {H : Hp} {x : Str} {v : V} : ∀ {b : Pl} {kvs : List (Key × V)}, KvD K H kvs (psOf b) → x ∉ b.map (·.1) → kvs.map (fun kv => if kv.1 = Sum.inr x then (kv.1, v) else kv) = kvs
  | [], _, h, _ => by cases h; rfl
  | p :: b, _, h, hn => by
    cases h with
    | cons h1 h2 =>
      rw [List.map_cons] at hn
      rw [List.map_cons, if_neg (fun z => hn (List.mem_cons.mpr (.inl (Sum.inr.inj z).symm))), put_skip h2 fun z => hn (List.mem_cons_of_mem _ z)]
theorem put_old {K : PySem.W.Frag} {H : Hp} {x : Str} {u : Tm} {v : V} (tv : TD K H v u.d) : ∀ {b : Pl} {kvs : List (Key × V)}, KvD K H kvs (psOf b) → (b.map (·.1)).Nodup → tGet b x = some u → (kvs.any fun kv => decide (kv.1 = Sum.inr x)) = true ∧ KvD K H (kvs.map (fun kv => if kv.1 = Sum.inr x then (kv.1, v) else kv)) (psOf b)
  | [], _, _, _, z => by cases z
  | p :: b, _, h, nd, hn => by
    cases h with
    | @cons k v0 d kvs ps h1 h2 =>
      rw [tGet_cons] at hn
      rw [List.map_cons, List.nodup_cons] at nd
      by_cases e : p.1 = x
      · rw [if_pos e] at hn
        refine ⟨by rw [List.any_cons, show decide ((Sum.inr p.1 : Key) = Sum.inr x) = true from decide_eq_true (by rw [e]), Bool.true_or], ?_⟩
        rw [List.map_cons, if_pos (by rw [e]), put_skip h2 (by rw [← e]; exact nd.1)]
        have q := Option.some.inj hn
        exact .cons (by rw [q]; exact tv) h2
      · rw [if_neg e] at hn
        obtain ⟨i1, i2⟩ := put_old tv h2 nd.2 hn
        refine ⟨by rw [List.any_cons, i1, Bool.or_true], ?_⟩
        rw [List.map_cons, if_neg (fun z => e (Sum.inr.inj z))]
        exact .cons h1 i2
theorem kvd_put {K : PySem.W.Frag} {H : Hp} {x : Str} {u : Tm} {v : V} {b b' : Pl} {kvs : List (Key × V)} (tv : TD K H v u.d) (h : KvD K H kvs (psOf b)) (nd : (b.map (·.1)).Nodup) (hs : stepT (.var x) u b = some b') : KvD K H (putK kvs (Sum.inr x) v) (psOf b') ∧ (b'.map (·.1)).Nodup := by
  unfold stepT at hs
  simp only at hs
  cases e : tGet b x with
  | none =>
    rw [e] at hs
    cases hs
    obtain ⟨h1, h2⟩ := put_new tv h e
    refine ⟨by unfold putK; rw [if_neg (by rw [h1]; decide)]; exact h2, ?_⟩
    rw [List.map_append, List.nodup_append]
    refine ⟨nd, by simp, fun a ha c hc z => ?_⟩
    have : c = x := by simpa using hc
    exact tGet_none e (by rw [← this, ← z]; exact ha)
  | some u' =>
    rw [e] at hs
    simp only at hs
    by_cases q : u' = u
    · rw [if_pos q] at hs
      cases hs
      obtain ⟨h1, h2⟩ := put_old tv h nd (by rw [e, q])
      exact ⟨by unfold putK; rw [if_pos h1]; exact h2, nd⟩
    · rw [if_neg q] at hs
      cases hs
end K86
end
section
set_option maxRecDepth 100000
set_option maxHeartbeats 4000000
namespace K86
open PySem PySem.Spec PyProof.Rows L2 HF
open Evl (Ex Ev EvT EvL EvU EvA)
section
variable {P : Program} {w : World} {K : PySem.W.Frag} {mg : Str → Option Value} {base : Heap} {f : Addr} {fd : FuncData} {σ : L2.St} {H : Hp} {anyA : Addr}
theorem step_ok {t u : Tm} {b b' : Pl} (hu : u.ok = true) (hb : ∀ p ∈ b, p.2.ok = true) (hs : stepT t u b = some b') : ∀ p ∈ b', p.2.ok = true := by
  unfold stepT at hs
  cases t with
  | val k =>
    simp only at hs
    split at hs
    · cases hs; exact hb
    · cases hs
  | var x =>
    simp only at hs
    split at hs
    · cases hs
      intro p hp
      rcases List.mem_append.mp hp with hp | hp
      · exact hb p hp
      · have : p = (x, u) := by simpa using hp
        rw [this]
        exact hu
    · split at hs
      · cases hs; exact hb
      · cases hs
def spWithTerm (K : PySem.W.Frag) : Sp := fun vs H Q _ => ∃ v w p t u b, vs = [v, w, .ref p] ∧ TD K H v (Tm.d t) ∧ TD K H w (Tm.d u) ∧ t.ok = true ∧ u.ok = true ∧ PlAt K H p b ∧ b.length ≤ 1000 ∧ ∀ r H', Ex H H' → OutP K H' r (stepT t u b) → Q r H'
theorem sc_with_term : FnScope ["term", "wanted", "places", "further"] ["term", "wanted", "places"] (defScope swith_term) := C8.fnScope_by (by decide +kernel)
theorem cal_with_term (F : FnP K "with_term" "with_term" swith_term f fd) (gm : mg "with_term" = some (.ref f)) (T : Bl mg) (G : Gv K mg anyA) : C8.Cal P w K mg base 1 "with_term" (spWithTerm K) [] := by
  refine mkCal F gm sc_with_term (fun _ _ _ _ _ _ us hl => match us, hl with | [_, _, _], _ => rfl) (fun vs H Q E h => ?_) (fun cdv A outer s H vs Q E hr h => ?_)
  · obtain ⟨v, w, p, t, u, b, rfl, _⟩ := h
    rfl
  · obtain ⟨v, w, p, t, u, b, rfl, tv, tw, ot, ou, hp, hl, k⟩ := h
    have hu := hu_of hr
    refine ⟨_, (pss_cons (ps_if (PW.pt (pw_or (pt_cmpR (op_eqD hr.units) (pv 0) (C8.pe_gc rfl G.g_ANY) (nomark _)) (pw_or1 (PW.pt (pw_and (pt_cmpR (op_eqD hr.units) (pv 0) (pv 1) (nomark _)) (pw_and1 (pt_cmpR op_eq (pe_ix ix_tup (pv 0) pe_int (fun _ _ => rfl)) pe_str (nomark _)))))))) (pss_one (ps_ret (pv 2)))
      pss_nil)
      (pss_cons (ps_if (PW.pt (pw_or (pt_cmpR op_eq (pe_ix ix_tup (pv 0) pe_int (fun _ _ => rfl)) pe_str (nomark _)) (pw_or (pt_cmpR (op_eqD hr.units) (pv 1) (C8.pe_gc rfl G.g_ANY) (nomark _)) (pw_or1 (pt_cmpR (op_neD hr.units) (pe_dget2 hu (pv 2) (pe_ix ix_tup (pv 0) pe_int (fun _ _ => rfl)) (pv 1) ⟨rfl, rfl, rfl, rfl⟩) (pv 1) (nomark _)))))) (pss_one (ps_ret pe_non))
      pss_nil)
      (pss_cons (ps_set (i := 3) sc_with_term.nd rfl (Or.inl rfl) (pe_callTy call_dictD (by rfl) T.f_dict (by decide +kernel) (pa_cons (pv 2) pa_nil)))
      (pss_cons (ps_dput hu (pv 3) (pe_ix ix_tup (pv 0) pe_int (fun _ _ => rfl)) (pv 1) rfl)
      (pss_one (ps_ret (pv 3))))))), ?_⟩
    have eAny : ∀ {te : TE} {σ : L2.St} {H1 : Hp} {z : Tm}, EvD K te σ H1 z.d → z.ok = true → EvT (tTest (tOp (rEqD K) te (tC (.ref anyA)))) σ H1 false := fun {te σ H1 z} h oz => by
      have := et_eqDp h (ed_gl (any_td G H1)) (shaped_tm oz) shaped_any
      rw [eqv_any] at this
      exact this
    have eTm : ∀ {ta tb : TE} {σ : L2.St} {H1 : Hp} {z y : Tm}, EvD K ta σ H1 z.d → EvD K tb σ H1 y.d → z.ok = true → y.ok = true → EvT (tTest (tOp (rEqD K) ta tb)) σ H1 (decide (z = y)) := fun {ta tb σ H1 z y} h h' oz oy => by
      have := et_eqDp h h' (shaped_tm oz) (shaped_tm oy)
      rw [eqv_tm] at this
      exact this
    cases t with
    | val c =>
      have tag : ∀ {H1 : Hp}, Ex H H1 → EvT (tTest (tOp rEq (tOp (rIxT K) (tVar 0) (tC (.int 0))) (tC (.str "value")))) ([some v, some w, some (.ref p), none] : L2.St) H1 true := fun {H1} e => Evl.et_is (et_eqS (a := "value") (b := "value") (ed_ix (ed_var rfl (tv.mono_ex e)) ed_int at0) ed_str) (by decide +kernel)
      refine Evl.q_when (b := decide (Tm.val c = u)) (Evl.et_is (Evl.et_or (eAny (ed_var rfl tv) ot) fun _ => Evl.et_and (eTm (ed_var rfl tv) (ed_var rfl tw) ot ou) fun _ => tag (Ex.refl H)) (by rw [Bool.false_or, Bool.and_true])) (fun hb H1 e1 => ?_) (fun hb H1 e1 => ?_)
      · have q := of_decide_eq_true hb
        exact Evl.s_ret (Evl.ev_var rfl) fun H2 e2 => k _ H2 (e1.trans e2) (by
          unfold stepT
          simp only
          rw [if_pos q.symm]
          exact ⟨p, rfl, hp.mono (e1.trans e2)⟩)
      · have q := of_decide_eq_false hb
        refine Evl.q_if (b := true) (Evl.et_is (Evl.et_or (a := true) (b := true) (tag e1) fun h => absurd h (by decide)) rfl) (fun _ H2 e2 => ?_) (fun hb => absurd hb (by decide))
        exact Evl.s_ret (Evl.ev_c (v := .non)) fun H3 e3 => k _ H3 ((e1.trans e2).trans e3) (by
          unfold stepT
          simp only
          rw [if_neg fun z => q z.symm]
          exact rfl)
    | var x =>
      have tag : ∀ {H1 : Hp}, Ex H H1 → EvT (tTest (tOp rEq (tOp (rIxT K) (tVar 0) (tC (.int 0))) (tC (.str "value")))) ([some v, some w, some (.ref p), none] : L2.St) H1 false := fun {H1} e => Evl.et_is (et_eqS (a := "var") (b := "value") (ed_ix (ed_var rfl (tv.mono_ex e)) ed_int at0) ed_str) (by decide +kernel)
      refine Evl.q_when (b := false) (Evl.et_is (Evl.et_or (eAny (ed_var rfl tv) ot) fun _ => Evl.et_and (eTm (ed_var rfl tv) (ed_var rfl tw) ot ou) fun _ => tag (Ex.refl H)) (by rw [Bool.false_or, Bool.and_false])) (fun hb => absurd hb (by decide)) (fun _ H1 e1 => ?_)
      obtain ⟨kvs, hk1, hk2, hk3, hk4⟩ := hp.mono e1
      have look : ∃ y, (valV kvs (Sum.inr x)).getD w = y ∧ ∃ u', TD K H1 y (Tm.d u') ∧ u'.ok = true ∧ u' = (tGet b x).getD u := by
        rcases hk2.get (Sum.inr x) with ⟨h1, h2⟩ | ⟨y, d, h1, h2, h3⟩
        · rw [ps_get] at h2
          have h2 := Option.map_eq_none_iff.mp h2
          rw [h1, h2]
          exact ⟨_, rfl, u, tw.mono_ex e1, ou, rfl⟩
        · rw [ps_get] at h2
          obtain ⟨u', hu', rfl⟩ := Option.map_eq_some_iff.mp h2
          rw [h1, hu']
          exact ⟨_, rfl, u', h3, hk4 _ (tGet_mem hu'), rfl⟩
      obtain ⟨y, hy, u', ty, oy, eu⟩ := look
      have third : EvT (tTest (tOp (rNeD K) (tDGet2 (tVar 2) (tOp (rIxT K) (tVar 0) (tC (.int 1))) (tVar 1)) (tVar 1))) ([some v, some w, some (.ref p), none] : L2.St) H1 (!decide (u' = u)) := by
        have g : EvD K (tDGet2 (tVar 2) (tOp (rIxT K) (tVar 0) (tC (.int 1))) (tVar 1)) ([some v, some w, some (.ref p), none] : L2.St) H1 (Tm.d u') := fun H2 e Q q => by
          have := ev_dget2 (K := K) (x := x) (y := w) (to := tVar 2) (tk := tOp (rIxT K) (tVar 0) (tC (.int 1))) (tx := tVar 1) (σ := [some v, some w, some (.ref p), none]) (Evl.ev_var rfl) (ed_ix (ed_var rfl (tv.mono_ex e1)) ed_int at1) (Evl.ev_var rfl) hk1
          rw [hy] at this
          exact this H2 e Q fun H3 e3 => q y H3 e3 (ty.mono_ex (e.trans e3))
        have := et_neDp g (ed_var (i := 1) rfl (tw.mono_ex e1)) (shaped_tm oy) (shaped_tm ou)
        rw [eqv_tm] at this
        exact this
      refine Evl.q_when (b := !decide (u' = u)) (Evl.et_is (Evl.et_or (tag e1) fun _ => Evl.et_or (eAny (ed_var rfl (tw.mono_ex e1)) ou) fun _ => third) (by rw [Bool.false_or, Bool.false_or])) (fun hb H2 e2 => ?_) (fun hb H2 e2 => ?_)
      · have q : ¬ u' = u := by simpa using hb
        exact Evl.s_ret (Evl.ev_c (v := .non)) fun H3 e3 => k _ H3 ((e1.trans e2).trans e3) (by
          unfold stepT
          simp only
          cases e : tGet b x with
          | none => rw [e] at eu; exact absurd eu q
          | some u2 =>
            rw [e] at eu
            simp only
            rw [if_neg (by rw [← show u' = u2 from eu]; exact q)]
            exact rfl)
      · have q : u' = u := by simpa using hb
        have hs : ∃ b', stepT (.var x) u b = some b' := by
          unfold stepT
          simp only
          cases e : tGet b x with
          | none => exact ⟨_, rfl⟩
          | some u2 =>
            rw [e] at eu
            simp only
            rw [if_pos (by rw [← show u' = u2 from eu]; exact q)]
            exact ⟨_, rfl⟩
        obtain ⟨b', hb'⟩ := hs
        have e12 := e1.trans e2
        -- further = dict(places)
        refine ⟨_, rfl, p, kvs, rfl, .inl (e2 _ _ hk1), fun q2 nq => ?_⟩
        have e3 : Ex H2 (upd H2 q2 (.dK kvs)) := Ex.new nq
        have hq : (upd H2 q2 (.dK kvs)) q2 = some (.dK kvs) := upd_same
        have kd : KvD K (upd H2 q2 (.dK kvs)) kvs (psOf b) := hk2.mono (TX.of_ex (e2.trans e3))
        have nq1 : H q2 = none := Evl.fresh_back e12 nq
        generalize upd H2 q2 (.dK kvs) = H3 at e3 hq kd ⊢
        have e13 := e12.trans e3
        refine ⟨_, rfl, _, rfl, ?_⟩
        refine (ed_ix (K := K) (ta := tVar 0) (tb := tC (.int 1)) (σ := [some v, some w, some (.ref p), some (.ref q2)]) (H := H3) (ed_var rfl (tv.mono_ex e13)) ed_int at1).go fun x' H4 e4 tx => ?_
        rw [tx.str_inv]
        have hl4 : kvs.length < sizeLine := by
          have := kd.length
          have z : (psOf b).length = b.length := by unfold psOf; rw [List.length_map]
          have zz : sizeLine = 16777216 := sizeLine_eq
          omega
        refine ⟨q2, _, rfl, DPut.k (k := Sum.inr x) (e4 _ _ hq) hl4, ?_⟩
        refine Evl.s_ret (Evl.ev_var rfl) fun H5 e5 => ?_
        have tw4 : TD K H4 w u.d := tw.mono_ex (e13.trans e4)
        obtain ⟨g1, g2⟩ := kvd_put tw4 (kd.mono (TX.of_ex e4)) hk3 hb'
        have em : Ex H (upd H4 q2 (.dK (putK kvs (Sum.inr x) w))) := Ex.mut (e13.trans e4) nq1
        refine k _ H5 (em.trans e5) ?_
        rw [hb']
        exact ⟨q2, rfl, (show PlAt K (upd H4 q2 (.dK (putK kvs (Sum.inr x) w))) q2 b' from ⟨_, upd_same, g1.mono (TX.dK (e4 _ _ hq)), g2, step_ok ou hk4 hb'⟩).mono e5⟩
end
end K86
end
section
set_option maxRecDepth 100000
set_option maxHeartbeats 4000000
namespace K86
open PySem PySem.Spec PyProof.Rows L2 HF
open Evl (Ex Ev EvT EvL EvU EvA)
def stepZ : List (Tm × Tm) → Option Pl → Option Pl
  | [], o => o
  | z :: zs, o => stepZ zs (o.bind (stepT z.1 z.2))
theorem stepZ_none : ∀ zs : List (Tm × Tm), stepZ zs none = none
  | [] => rfl
  | _ :: zs => stepZ_none zs
theorem stepZ_app : ∀ (xs ys : List (Tm × Tm)) (o : Option Pl), stepZ (xs ++ ys) o = stepZ ys (stepZ xs o)
  | [], _, _ => rfl
  | _ :: xs, ys, o => stepZ_app xs ys _
theorem stepT_len {t u : Tm} {b b' : Pl} (h : stepT t u b = some b') : b'.length ≤ b.length + 1 := by
  unfold stepT at h
  cases t with
  | val k =>
    simp only at h
    split at h
    · cases h; omega
    · cases h
  | var x =>
    simp only at h
    split at h
    · cases h; simp
    · split at h
      · cases h; omega
      · cases h
theorem stepZ_len : ∀ (zs : List (Tm × Tm)) {b b' : Pl}, stepZ zs (some b) = some b' → b'.length ≤ b.length + zs.length
  | [], b, b', h => by cases h; simp
  | z :: zs, b, b', h => by
    have h : stepZ zs (stepT z.1 z.2 b) = some b' := h
    cases e : stepT z.1 z.2 b with
    | none => rw [e, stepZ_none] at h; cases h
    | some b1 =>
      rw [e] at h
      have h1 := stepZ_len zs h
      have h2 := stepT_len e
      rw [List.length_cons]
      omega
def litStep (a c : At) (b : Pl) : Option Pl := if a.1 = c.1 then stepZ (a.2.zip c.2) (some b) else none
section
variable {P : Program} {w : World} {K : PySem.W.Frag} {mg : Str → Option Value} {base : Heap} {f : Addr} {fd : FuncData} {σ : L2.St} {H : Hp} {anyA : Addr}
theorem et_notN {te : TE} {v : V} (h : Ev te σ H v) : EvT (tTest (tOp (fun x y H Q => y = .non ∧ Q (.bl (!decide (x = .non))) H) te (tC .non))) σ H (!decide (v = .non)) := fun H0 e Q q =>
  h H0 e _ fun H1 e1 => ⟨rfl, _, rfl, q H1 e1⟩
def spWithTerms (K : PySem.W.Frag) : Sp := fun vs H Q _ => ∃ v w p ts us b, vs = [v, w, .ref p] ∧ TD K H v (.tuple (List.map Tm.d ts)) ∧ TD K H w (.tuple (List.map Tm.d us)) ∧ ts.length = us.length ∧ ts.length ≤ 20 ∧ (∀ t ∈ ts, Tm.ok t = true) ∧ (∀ u ∈ us, Tm.ok u = true) ∧ PlAt K H p b ∧ b.length ≤ 900 ∧
  ∀ r H', Ex H H' → OutP K H' r (stepZ (ts.zip us) (some b)) → Q r H'
theorem sc_with_terms : FnScope ["terms", "wanted", "places", "term", "other"] ["terms", "wanted", "places"] (defScope swith_terms) := C8.fnScope_by (by decide +kernel)
theorem cal_with_terms (F : FnP K "with_terms" "with_terms" swith_terms f fd) (gm : mg "with_terms" = some (.ref f)) (T : Bl mg) (c_with_term : C8.Cal P w K mg base 1 "with_term" (spWithTerm K) []) : C8.Cal P w K mg base 2 "with_terms" (spWithTerms K) [] := by
  refine mkCal F gm sc_with_terms (fun _ _ _ _ _ _ us hl => match us, hl with | [_, _, _], _ => rfl) (fun vs H Q E h => ?_) (fun cdv A outer s H vs Q E hr h => ?_)
  · obtain ⟨v, w, p, ts, us, b, rfl, _⟩ := h
    rfl
  · obtain ⟨v, w, p, ts, us, b, rfl, tv, tw, hl, hl2, ot, ou, hp, hb, k⟩ := h
    refine ⟨_, (pss_cons (ps_for PassesOwn.never rfl (RZ.pi_zipA rfl T.f_zip (pa_cons (pv 0) (pa_cons (pv 1) pa_nil))) (pg_tup rfl (pgs_cons (pg_name (i := 3) sc_with_terms.nd rfl (Or.inl rfl)) (pgs_cons (pg_name (i := 4) sc_with_terms.nd rfl (Or.inl rfl)) pgs_nil)))
      (pss_one (ps_if (pt_cmpR op_notN (pv 2) pe_non (nomark _)) (pss_one (ps_set (i := 2) sc_with_terms.nd rfl (Or.inl rfl) (C8.pe_c c_with_term hr (by decide) rfl (pa_cons (pv 3) (pa_cons (pv 4) (pa_cons (pv 2) pa_nil))))))
        pss_nil)))
      (pss_one (ps_ret (pv 2)))), ?_⟩
    obtain ⟨a1, xs, rfl, hx, hxs⟩ := tv.tup_inv
    obtain ⟨a2, ys, rfl, hy, hys⟩ := tw.tup_inv
    have l1 : xs.length = ts.length := by rw [hxs.length, List.length_map]
    have l2 : ys.length = us.length := by rw [hys.length, List.length_map]
    refine q_forZ (a := a1) (b := a2) (Evl.ev_var rfl) (Evl.ev_var rfl) hx hy (by omega) (fun i σ' H' => ∃ r o1 o2, σ' = [some (.ref a1), some (.ref a2), some r, o1, o2] ∧ OutP K H' r (stepZ ((ts.zip us).take i) (some b)) ∧ Ex H H') (fun H1 e1 => ⟨_, _, _, rfl, ⟨p, rfl, hp.mono e1⟩, e1⟩) (fun i σ' H' pv => let ⟨_, _, _, _, _, e⟩ := pv; TX.of_ex e) ?_ ?_
    · rintro i x y σ' H' hxi hyi ⟨r, o1, o2, rfl, ho, e1⟩ H2 e2
      obtain ⟨d1, hd1, tx⟩ := hxs.get' hxi
      obtain ⟨d2, hd2, ty⟩ := hys.get' hyi
      rw [List.getElem?_map] at hd1 hd2
      obtain ⟨t, hti, rfl⟩ := Option.map_eq_some_iff.mp hd1
      obtain ⟨u, hui, rfl⟩ := Option.map_eq_some_iff.mp hd2
      have hz : (ts.zip us)[i]? = some (t, u) := by rw [List.getElem?_zip_eq_some]; exact ⟨hti, hui⟩
      have tk : stepZ ((ts.zip us).take (i + 1)) (some b) = (stepZ ((ts.zip us).take i) (some b)).bind (stepT t u) := by
        rw [List.take_add_one, hz, Option.toList_some, stepZ_app] <;> rfl
      have ho2 := ho.mono e2
      have e12 := e1.trans e2
      cases es : stepZ ((ts.zip us).take i) (some b) with
      | none =>
        rw [es] at ho2 tk
        have : r = .non := ho2
        subst this
        refine Evl.s_when (b := false) (Evl.et_is (et_notN (v := .non) (Evl.ev_var rfl)) rfl) (fun hb => absurd hb (by decide)) (fun _ H3 e3 => ?_)
        exact ⟨_, _, _, rfl, by rw [tk]; exact rfl, e12.trans e3⟩
      | some b1 =>
        rw [es] at ho2 tk
        obtain ⟨q, rfl, hq⟩ := ho2
        refine Evl.s_when (b := true) (Evl.et_is (et_notN (v := .ref q) (Evl.ev_var rfl)) rfl) (fun _ H3 e3 => ?_) (fun hb => absurd hb (by decide))
        have hlen := stepZ_len _ es
        have hzl : ((ts.zip us).take i).length ≤ ts.length := by
          rw [List.length_take, List.length_zip]
          omega
        refine ⟨_, rfl, _, rfl, _, rfl, x, y, q, t, u, b1, rfl, (tx.mono_ex (e12.trans e3)), (ty.mono_ex (e12.trans e3)), ot t (List.mem_of_getElem? hti), ou u (List.mem_of_getElem? hui), hq.mono e3, by omega, fun r' H4 e4 o4 => ?_⟩
        exact ⟨_, _, _, rfl, by rw [tk]; exact o4, (e12.trans e3).trans e4⟩
    · rintro σ' H' ⟨r, o1, o2, rfl, ho, e1⟩
      rw [List.take_of_length_le (by rw [List.length_zip]; omega)] at ho
      exact Evl.s_ret (Evl.ev_var rfl) fun H2 e2 => k r H2 (e1.trans e2) (ho.mono e2)
theorem ed_at {te : TE} {a : At} (h : EvD K te σ H (litD a)) : EvD K (tOp (rIxT K) te (tC (.int 1))) σ H (atD a) := ed_ix h ed_int at1
theorem ed_atT {te : TE} {a : At} (h : EvD K te σ H (litD a)) : EvD K (tOp (rIxT K) (tOp (rIxT K) te (tC (.int 1))) (tC (.int 1))) σ H (.tuple (List.map Tm.d a.2)) := ed_ix (ed_at h) ed_int at1
theorem ed_atN {te : TE} {a : At} (h : EvD K te σ H (litD a)) : EvD K (tOp (rIxT K) (tOp (rIxT K) te (tC (.int 1))) (tC (.int 0))) σ H (.str a.1) := ed_ix (ed_at h) ed_int at0
theorem ed_tag {te : TE} {a : At} (h : EvD K te σ H (litD a)) : EvD K (tOp (rIxT K) te (tC (.int 0))) σ H (.str "is") := ed_ix h ed_int at0
def spWithLit (K : PySem.W.Frag) : Sp := fun vs H Q _ => ∃ v w p a c b, vs = [v, w, .ref p] ∧ TD K H v (litD a) ∧ TD K H w (litD c) ∧ (a.1 = c.1 → a.2.length = c.2.length) ∧ a.2.length ≤ 20 ∧ (∀ t ∈ a.2, Tm.ok t = true) ∧ (∀ u ∈ c.2, Tm.ok u = true) ∧ PlAt K H p b ∧ b.length ≤ 900 ∧
  ∀ r H', Ex H H' → OutP K H' r (litStep a c b) → Q r H'
theorem sc_with_atom : FnScope ["literal", "wanted", "places", "terms", "others", "term"] ["literal", "wanted", "places"] (defScope swith_atom) := C8.fnScope_by (by decide +kernel)
theorem cal_with_atom (F : FnP K "with_atom" "with_atom" swith_atom f fd) (gm : mg "with_atom" = some (.ref f)) (T : Bl mg) (c_with_terms : C8.Cal P w K mg base 2 "with_terms" (spWithTerms K) []) : C8.Cal P w K mg base 3 "with_atom" (spWithLit K) [] := by
  refine mkCal F gm sc_with_atom (fun _ _ _ _ _ _ us hl => match us, hl with | [_, _, _], _ => rfl) (fun vs H Q E h => ?_) (fun cdv A outer s H vs Q E hr h => ?_)
  · obtain ⟨v, w, p, a, c, b, rfl, _⟩ := h
    rfl
  · obtain ⟨v, w, p, a, c, b, rfl, tv, tw, hl, hl2, ot, ou, hp, hbl, k⟩ := h
    refine ⟨_, (pss_cons (ps_set (i := 3) sc_with_atom.nd rfl (Or.inl rfl) (pe_ix ix_tup (pe_ix ix_tup (pv 0) pe_int (fun _ _ => rfl)) pe_int (fun _ _ => rfl)))
      (pss_cons (ps_set (i := 4) sc_with_atom.nd rfl (Or.inl rfl) (pe_ix ix_tup (pe_ix ix_tup (pv 1) pe_int (fun _ _ => rfl)) pe_int (fun _ _ => rfl)))
      (pss_cons (ps_if (pt_cmpR op_ne (pe_ix ix_tup (pe_ix ix_tup (pv 0) pe_int (fun _ _ => rfl)) pe_int (fun _ _ => rfl)) (pe_ix ix_tup (pe_ix ix_tup (pv 1) pe_int (fun _ _ => rfl)) pe_int (fun _ _ => rfl)) (nomark _)) (pss_one (ps_ret pe_non))
      pss_nil)
      (pss_cons (ps_if (pt_cmpR op_eq (pe_ix ix_tup (pv 0) pe_int (fun _ _ => rfl)) pe_str (nomark _)) pss_never
      pss_nil)
      (pss_one (ps_ret (C8.pe_c c_with_terms hr (by decide) rfl (pa_cons (pv 3) (pa_cons (pv 4) (pa_cons (pv 2) pa_nil)))))))))), ?_⟩
    refine q_asgD (ed_atT (ed_var rfl tv)) fun v3 H1 e1 t3 => ?_
    refine q_asgD (ed_atT (ed_var rfl (tw.mono_ex e1))) fun v4 H2 e2 t4 => ?_
    have e12 := e1.trans e2
    refine Evl.q_when (b := !decide (a.1 = c.1)) (et_neS (ed_atN (ed_var rfl (tv.mono_ex e12))) (ed_atN (ed_var rfl (tw.mono_ex e12)))) (fun hb H3 e3 => ?_) (fun hb H3 e3 => ?_)
    · have q : ¬ a.1 = c.1 := by simpa using hb
      exact Evl.s_ret (Evl.ev_c (v := .non)) fun H4 e4 => k _ H4 ((e12.trans e3).trans e4) (by unfold litStep; rw [if_neg q]; exact rfl)
    · have q : a.1 = c.1 := by simpa using hb
      have e13 := e12.trans e3
      refine Evl.q_when (b := false) (Evl.et_is (et_eqS (ed_tag (ed_var rfl (tv.mono_ex e13))) ed_str) (by decide +kernel)) (fun hb => absurd hb (by decide)) (fun _ H4 e4 => ?_)
      have e14 := e13.trans e4
      refine ⟨_, rfl, _, rfl, _, rfl, v3, v4, p, a.2, c.2, b, rfl, t3.mono_ex (e2.trans (e3.trans e4)), t4.mono_ex (e3.trans e4), hl q, hl2, ot, ou, hp.mono e14, hbl, fun r H5 e5 o5 => k r H5 (e14.trans e5) (by unfold litStep; rw [if_pos q]; exact o5)⟩
theorem sc_with_literal : FnScope ["literal", "wanted", "places"] ["literal", "wanted", "places"] (defScope swith_literal) := C8.fnScope_by (by decide +kernel)
theorem cal_with_literal (F : FnP K "with_literal" "with_literal" swith_literal f fd) (gm : mg "with_literal" = some (.ref f)) (T : Bl mg) (c_with_atom : C8.Cal P w K mg base 3 "with_atom" (spWithLit K) []) : C8.Cal P w K mg base 4 "with_literal" (spWithLit K) [] := by
  refine mkCal F gm sc_with_literal (fun _ _ _ _ _ _ us hl => match us, hl with | [_, _, _], _ => rfl) (fun vs H Q E h => ?_) (fun cdv A outer s H vs Q E hr h => ?_)
  · obtain ⟨v, w, p, a, c, b, rfl, _⟩ := h
    rfl
  · obtain ⟨v, w, p, a, c, b, rfl, tv, tw, hl, hl2, ot, ou, hp, hb, k⟩ := h
    refine ⟨_, (pss_cons (ps_if (pt_cmpR op_ne (pe_ix ix_tup (pv 0) pe_int (fun _ _ => rfl)) (pe_ix ix_tup (pv 1) pe_int (fun _ _ => rfl)) (nomark _)) pss_never
      pss_nil)
      (pss_cons (ps_if (pt_cmpR op_in_seq (pe_ix ix_tup (pv 0) pe_int (fun _ _ => rfl)) (pe_tup (pa_cons pe_str (pa_cons pe_str pa_nil))) (by rfl)) (pss_one (ps_ret (C8.pe_c c_with_atom hr (by decide) rfl (pa_cons (pv 0) (pa_cons (pv 1) (pa_cons (pv 2) pa_nil))))))
      pss_nil)
      pss_never)), ?_⟩
    refine Evl.q_when (b := false) (Evl.et_is (et_neS (ed_tag (ed_var rfl tv)) (ed_tag (ed_var rfl tw))) (by decide +kernel)) (fun hb => absurd hb (by decide)) (fun _ H1 e1 => ?_)
    refine Evl.q_if (b := true) (Evl.et_is (et_inT (a := "is") (ys := ["is", "not"]) (ed_tag (ed_var rfl (tv.mono_ex e1))) (ed_tup (eds_cons ed_str (eds_cons ed_str eds_nil)) (by decide))) (by decide +kernel)) (fun _ H2 e2 => ?_) (fun hb => absurd hb (by decide))
    have e12 := e1.trans e2
    exact ⟨_, rfl, _, rfl, _, rfl, v, w, p, a, c, b, rfl, tv.mono_ex e12, tw.mono_ex e12, hl, hl2, ot, ou, hp.mono e12, hb, fun r H5 e5 o5 => k r H5 (e12.trans e5) o5⟩
end
end K86
end
section
set_option maxRecDepth 100000
set_option maxHeartbeats 4000000
namespace K86
open PySem PySem.Spec PyProof.Rows L2 HF
open Evl (Ex Ev EvT EvL EvU EvA)
def ExtP (bd : List At) : List At → Pl → Pl → Prop
  | [], b, b' => b' = b
  | a :: as, b, b' => ∃ c ∈ bd, ∃ b1, litStep a c b = some b1 ∧ ExtP bd as b1 b'
theorem extP_snoc {bd : List At} {a : At} : ∀ {as : List At} {b b' : Pl}, ExtP bd (as ++ [a]) b b' ↔ ∃ b1, ExtP bd as b b1 ∧ ∃ c ∈ bd, litStep a c b1 = some b'
  | [], b, b' => by
    constructor
    · rintro ⟨c, hc, b1, h1, rfl⟩
      exact ⟨b, rfl, c, hc, h1⟩
    · rintro ⟨b1, rfl, c, hc, h1⟩
      exact ⟨c, hc, b', h1, rfl⟩
  | x :: as, b, b' => by
    constructor
    · rintro ⟨c, hc, b1, h1, h2⟩
      obtain ⟨b2, h3, h4⟩ := (extP_snoc (as := as)).mp h2
      exact ⟨b2, ⟨c, hc, b1, h1, h3⟩, h4⟩
    · rintro ⟨b2, ⟨c, hc, b1, h1, h3⟩, h4⟩
      exact ⟨c, hc, b1, h1, (extP_snoc (as := as)).mpr ⟨b2, h3, h4⟩⟩
theorem tGet_app (b : Pl) (x : Str) (u : Tm) (y : Str) : tGet (b ++ [(x, u)]) y = match tGet b y with
  | some t => some t
  | none => if x = y then some u else none := by
  induction b with
  | nil =>
    show tGet [(x, u)] y = _
    rw [tGet_cons]
    rfl
  | cons p b ih =>
    show tGet (p :: (b ++ [(x, u)])) y = _
    rw [tGet_cons, tGet_cons]
    by_cases e : p.1 = y
    · rw [if_pos e, if_pos e]
    · rw [if_neg e, if_neg e, ih]
theorem pLe_refl (b : Pl) : pLe b b := fun _ _ h => h
theorem pLe_trans {a b c : Pl} (h : pLe a b) (g : pLe b c) : pLe a c := fun x t e => g x t (h x t e)
theorem stepT_mono {t u : Tm} {b1 b b2 : Pl} (h : pLe b1 b) (e : stepT t u b = some b2) : ∃ b3, stepT t u b1 = some b3 ∧ pLe b3 b2 := by
  unfold stepT at e ⊢
  cases t with
  | val k =>
    simp only at e ⊢
    split at e
    · rename_i q
      cases e
      exact ⟨b1, by rw [if_pos q], h⟩
    · cases e
  | var x =>
    simp only at e ⊢
    cases e2 : tGet b x with
    | none =>
      rw [e2] at e
      cases e
      have e1 : tGet b1 x = none := by
        cases q : tGet b1 x with
        | none => rfl
        | some t => rw [h x t q] at e2; cases e2
      rw [e1]
      refine ⟨_, rfl, fun y t hy => ?_⟩
      rw [tGet_app] at hy ⊢
      cases q : tGet b1 y with
      | some t' =>
        rw [q] at hy
        rw [h y t' q]
        exact hy
      | none =>
        rw [q] at hy
        simp only at hy
        by_cases z : x = y
        · rw [if_pos z] at hy
          rw [← z, e2]
          simpa using hy
        · rw [if_neg z] at hy
          cases hy
    | some u' =>
      rw [e2] at e
      simp only at e
      by_cases q : u' = u
      · rw [if_pos q] at e
        cases e
        cases e1 : tGet b1 x with
        | none =>
          refine ⟨_, rfl, fun y t hy => ?_⟩
          rw [tGet_app] at hy
          cases q2 : tGet b1 y with
          | some t' =>
            rw [q2] at hy
            rw [h y t' q2]
            exact hy
          | none =>
            rw [q2] at hy
            simp only at hy
            by_cases z : x = y
            · rw [if_pos z] at hy
              rw [← z, e2, q]
              exact hy
            · rw [if_neg z] at hy
              cases hy
        | some u2 =>
          have := h x u2 e1
          rw [e2] at this
          simp only
          rw [if_pos (by rw [← Option.some.inj this]; exact q)]
          exact ⟨b1, rfl, h⟩
      · rw [if_neg q] at e
        cases e
theorem stepZ_mono : ∀ (zs : List (Tm × Tm)) {b1 b b2 : Pl}, pLe b1 b → stepZ zs (some b) = some b2 → ∃ b3, stepZ zs (some b1) = some b3 ∧ pLe b3 b2
  | [], b1, b, b2, h, e => by
    cases e
    exact ⟨b1, rfl, h⟩
  | z :: zs, b1, b, b2, h, e => by
    have e : stepZ zs (stepT z.1 z.2 b) = some b2 := e
    cases q : stepT z.1 z.2 b with
    | none => rw [q, stepZ_none] at e; cases e
    | some b4 =>
      rw [q] at e
      obtain ⟨b5, h5, h6⟩ := stepT_mono h q
      obtain ⟨b3, h3, h4⟩ := stepZ_mono zs h6 e
      exact ⟨b3, by show stepZ zs (stepT z.1 z.2 b1) = some b3; rw [h5]; exact h3, h4⟩
theorem litStep_mono {a c : At} {b1 b b2 : Pl} (h : pLe b1 b) (e : litStep a c b = some b2) : ∃ b3, litStep a c b1 = some b3 ∧ pLe b3 b2 := by
  unfold litStep at e ⊢
  by_cases q : a.1 = c.1
  · rw [if_pos q] at e ⊢
    exact stepZ_mono _ h e
  · rw [if_neg q] at e
    cases e
theorem litStep_len {a c : At} {b b' : Pl} (h : litStep a c b = some b') : b'.length ≤ b.length + a.2.length := by
  unfold litStep at h
  by_cases q : a.1 = c.1
  · rw [if_pos q] at h
    have h1 := stepZ_len _ h
    have h2 : (a.2.zip c.2).length ≤ a.2.length := by rw [List.length_zip]; omega
    omega
  · rw [if_neg q] at h
    cases h
/-- what subsumes tells -/
def SubP (r1 r2 : Rl) : Prop := r1.hn = r2.hn ∧ ∃ b0 b, stepZ (r1.ht.zip r2.ht) (some []) = some b0 ∧ ExtP r2.bd r1.bd b0 b
structure Pair (r1 r2 : Rl) : Prop where
  hd : r1.ht.length = r2.ht.length
  hd2 : r1.ht.length ≤ 20
  ok1 : ∀ t ∈ r1.ht, Tm.ok t = true
  ok2 : ∀ t ∈ r2.ht, Tm.ok t = true
  okb1 : ∀ a ∈ r1.bd, ∀ t ∈ a.2, Tm.ok t = true
  okb2 : ∀ a ∈ r2.bd, ∀ t ∈ a.2, Tm.ok t = true
  wid : ∀ a ∈ r1.bd, ∀ c ∈ r2.bd, a.1 = c.1 → a.2.length = c.2.length
  wid2 : ∀ a ∈ r1.bd, a.2.length ≤ 20
  bl1 : r1.bd.length ≤ 20
  bl2 : 1 ≤ r2.bd.length
  pow : r2.bd.length ^ r1.bd.length ≤ 200
section
variable {P : Program} {w : World} {K : PySem.W.Frag} {mg : Str → Option Value} {base : Heap} {f : Addr} {fd : FuncData} {σ : L2.St} {H : Hp} {anyA : Addr}
theorem ed_body {E : XK} {te : TE} {r : Rl} (h : EvD K te σ H r.d) : EvD K (tCall (spData K rBodyOf) [] E (tCons te tNil)) σ H (.tuple (r.bd.map litD)) := ed_call (eds_cons h eds_nil) (spD ⟨r, rfl, rfl⟩)
theorem ed_rTag {te : TE} {r : Rl} (h : EvD K te σ H r.d) : EvD K (tOp (rIxT K) te (tC (.int 0))) σ H (.str "rule") := ed_ix h ed_int at0
theorem ed_rHead {te : TE} {r : Rl} (h : EvD K te σ H r.d) : EvD K (tOp (rIxT K) te (tC (.int 1))) σ H (.tuple [.str r.hn, .tuple (r.ht.map Tm.d)]) := ed_ix h ed_int at1
theorem ed_rHn {te : TE} {r : Rl} (h : EvD K te σ H r.d) : EvD K (tOp (rIxT K) (tOp (rIxT K) te (tC (.int 1))) (tC (.int 0))) σ H (.str r.hn) := ed_ix (ed_rHead h) ed_int at0
theorem ed_rHt {te : TE} {r : Rl} (h : EvD K te σ H r.d) : EvD K (tOp (rIxT K) (tOp (rIxT K) te (tC (.int 1))) (tC (.int 1))) σ H (.tuple (r.ht.map Tm.d)) := ed_ix (ed_rHead h) ed_int at1
def PlL (K : PySem.W.Frag) (H : Hp) (L : List (Addr × Pl)) : Prop := ∀ p ∈ L, PlAt K H p.1 p.2 ∧ p.2.length ≤ 500
theorem PlL.mono {H H' : Hp} (e : Ex H H') {L : List (Addr × Pl)} (h : PlL K H L) : PlL K H' L := fun p hp => ⟨(h p hp).1.mono e, (h p hp).2⟩
abbrev refsL (L : List (Addr × Pl)) : List V := L.map fun p => V.ref p.1
def spSub (K : PySem.W.Frag) : Sp := fun vs H Q _ => ∃ v w r1 r2, vs = [v, w] ∧ TD K H v (Rl.d r1) ∧ TD K H w (Rl.d r2) ∧ Pair r1 r2 ∧ ∀ r H', Ex H H' → (r = true ↔ SubP r1 r2) → Q (.bl r) H'
theorem sc_subsumes : FnScope ["rule", "other", "first", "found", "literal", "further", "places", "wanted", "more"] ["rule", "other"] (defScope ssubsumes) := C8.fnScope_by (by decide +kernel)
theorem cal_subsumes (F : FnP K "subsumes" "subsumes" ssubsumes f fd) (gm : mg "subsumes" = some (.ref f)) (T : Bl mg) (G : Gv K mg anyA) (c_with_terms : C8.Cal P w K mg base 2 "with_terms" (spWithTerms K) []) (c_with_literal : C8.Cal P w K mg base 4 "with_literal" (spWithLit K) []) (c_body_of : C8.Cal P w K mg base 1 "body_of" (spData K rBodyOf) []) : C8.Cal P w K mg base 5 "subsumes" (spSub K) [] := by
  refine mkCal F gm sc_subsumes (fun _ _ _ _ _ _ us hl => match us, hl with | [_, _], _ => rfl) (fun vs H Q E h => ?_) (fun cdv A outer s H vs Q E hr h => ?_)
  · obtain ⟨v, w, r1, r2, rfl, _⟩ := h
    rfl
  · obtain ⟨v, w, r1, r2, rfl, tv, tw, pr, k⟩ := h
    refine ⟨_, (pss_cons (ps_if (PW.pt (pw_or (pt_cmpR op_ne (pe_ix ix_tup (pv 0) pe_int (fun _ _ => rfl)) pe_str (nomark _)) (pw_or (pt_cmpR op_ne (pe_ix ix_tup (pv 1) pe_int (fun _ _ => rfl)) pe_str (nomark _)) (pw_or1 (pt_cmpR op_ne (pe_ix ix_tup (pe_ix ix_tup (pv 0) pe_int (fun _ _ => rfl)) pe_int (fun _ _ => rfl)) (pe_ix ix_tup (pe_ix ix_tup (pv 1) pe_int (fun _ _ => rfl)) pe_int (fun _ _ => rfl)) (nomark _)))))) (pss_one (ps_ret pe_bl))
      pss_nil)
      (pss_cons (ps_set (i := 2) sc_subsumes.nd rfl (Or.inl rfl) (C8.pe_c c_with_terms hr (by decide) rfl (pa_cons (pe_ix ix_tup (pe_ix ix_tup (pv 0) pe_int (fun _ _ => rfl)) pe_int (fun _ _ => rfl)) (pa_cons (pe_ix ix_tup (pe_ix ix_tup (pv 1) pe_int (fun _ _ => rfl)) pe_int (fun _ _ => rfl)) (pa_cons pe_dnewK pa_nil)))))
      (pss_cons (ps_setLc (i := 3) (own := [("places", 6)]) (g := gName 6) rfl sc_subsumes.nd rfl rfl (sw_true rfl rfl rfl (by decide +kernel)) (pi_list (pe_lst (pa_cons (pv 2) pa_nil))) (blkOk_by (own := [("places", 6)]) (N := ["rule", "other", "first", "found", "literal", "further", "places", "wanted", "more"]) (sc := defScope ssubsumes) (by decide +kernel)) (fun _ _ _ _ _ => (pg_name (i := 6) sc_subsumes.nd rfl (Or.inl rfl))) (fun _ _ _ _ _ => (pts_one (pt_cmpR op_notN (pv 6) pe_non (nomark _)))) (fun _ _ _ _ _ => (pv 6)))
      (pss_cons (ps_for PassesOwn.never rfl (pi_tup (C8.pe_c c_body_of hr (by decide) rfl (pa_cons (pv 0) pa_nil))) (pg_name (i := 4) sc_subsumes.nd rfl (Or.inl rfl))
      (pss_cons (ps_set (i := 5) sc_subsumes.nd rfl (Or.inl rfl) (pe_lst pa_nil))
        (pss_cons (ps_for PassesOwn.never rfl (pi_list (pv 3)) (pg_name (i := 6) sc_subsumes.nd rfl (Or.inl rfl))
        (pss_one (ps_for PassesOwn.never rfl (pi_tup (C8.pe_c c_body_of hr (by decide) rfl (pa_cons (pv 1) pa_nil))) (pg_name (i := 7) sc_subsumes.nd rfl (Or.inl rfl))
          (pss_cons (ps_set (i := 8) sc_subsumes.nd rfl (Or.inl rfl) (C8.pe_c c_with_literal hr (by decide) rfl (pa_cons (pv 4) (pa_cons (pv 7) (pa_cons (pv 6) pa_nil)))))
            (pss_one (ps_if (PW.pt (pw_and (pt_cmpR op_notN (pv 8) pe_non (nomark _)) (pw_and1 (pt_cmpR (op_notInKv (units70 hr)) (pv 8) (pv 5) (by rfl))))) (pss_one (ps_expr (pe_bm PySem.F.plainAttrs_list PySem.F.slot_list_append PySem.F.type_list_append mt_append (pv 5) (pa_cons (pv 8) pa_nil))))
            pss_nil))))))
        (pss_cons (ps_set (i := 3) sc_subsumes.nd rfl (Or.inl rfl) (pv 5))
        (pss_one (ps_if (pt_cmpR op_gt (pe_callB call_len (by rfl) T.f_len PySem.boot_len (pa_cons (pv 3) pa_nil)) (C8.pe_gc rfl G.g_MOST_WAYS) (nomark _)) (pss_one (ps_ret pe_bl))
        pss_nil))))))
      (pss_one (ps_ret (pe_cmpR op_gt (pe_callB call_len (by rfl) T.f_len PySem.boot_len (pa_cons (pv 3) pa_nil)) pe_int (nomark _)))))))), ?_⟩
    have tr : ∀ {H1 : Hp}, Ex H H1 → EvT (tTest (tOp rNe (tOp (rIxT K) (tVar 0) (tC (.int 0))) (tC (.str "rule")))) ([some v, some w, none, none, none, none, none, none, none] : L2.St) H1 false := fun e => Evl.et_is (et_neS (ed_rTag (ed_var rfl (tv.mono_ex e))) ed_str) (by decide +kernel)
    have tr2 : ∀ {H1 : Hp}, Ex H H1 → EvT (tTest (tOp rNe (tOp (rIxT K) (tVar 1) (tC (.int 0))) (tC (.str "rule")))) ([some v, some w, none, none, none, none, none, none, none] : L2.St) H1 false := fun e => Evl.et_is (et_neS (ed_rTag (ed_var rfl (tw.mono_ex e))) ed_str) (by decide +kernel)
    refine Evl.q_when (b := !decide (r1.hn = r2.hn)) (Evl.et_is (Evl.et_or (tr (Ex.refl H)) fun _ => Evl.et_or (tr2 (Ex.refl H)) fun _ => et_neS (ed_rHn (ed_var rfl tv)) (ed_rHn (ed_var rfl tw))) (by rw [Bool.false_or, Bool.false_or])) (fun hb H1 e1 => ?_) (fun hb H1 e1 => ?_)
    · have q : ¬ r1.hn = r2.hn := by simpa using hb
      exact Evl.s_ret (Evl.ev_c (v := .bl false)) fun H2 e2 => k false H2 (e1.trans e2) ⟨fun z => (by cases z), fun z => absurd z.1 q⟩
    have hn : r1.hn = r2.hn := by simpa using hb
    -- first = with_terms(.., {})
    refine (ed_rHt (K := K) (te := tVar 0) (σ := [some v, some w, none, none, none, none, none, none, none]) (H := H1) (ed_var rfl (tv.mono_ex e1))).go fun v1 H2 e2 t2 => ?_
    refine (ed_rHt (K := K) (te := tVar 1) (σ := [some v, some w, none, none, none, none, none, none, none]) (H := H2) (ed_var rfl (tw.mono_ex (e1.trans e2)))).go fun v2 H3 e3 t3 => ?_
    intro p0 hp0
    have e13 := (e1.trans e2).trans e3
    have e4 : Ex H3 (upd H3 p0 (.dK [])) := Ex.new hp0
    refine ⟨v1, v2, p0, r1.ht, r2.ht, [], rfl, t2.mono_ex (e3.trans e4), t3.mono_ex e4, pr.hd, pr.hd2, pr.ok1, pr.ok2, ⟨[], upd_same, .nil, List.nodup_nil, fun _ z => by cases z⟩, by simp, fun r H4 e5 o => ?_⟩
    have e14 := (e13.trans e4).trans e5
    generalize ho0 : stepZ (r1.ht.zip r2.ht) (some []) = o0 at o
    -- found = [..]
    refine Evl.q_asgL (xs := Evl.given 1 (fun _ => !decide (r = .non)) fun _ => r) (Evl.el_lcNL (K := K) (xs := [r]) (fun _ => !decide (r = .non)) (fun _ => r) (Evl.el_lst (Evl.ea_cons (Evl.ev_var rfl) Evl.ea_nil) (by simp)) (by simp) wipe1 (fun i x H5 e hx => ?_) (fun i x H5 e hx _ => ?_)) fun pf H5 npf e6 hpf => ?_
    · have : x = r := by
        cases i with
        | zero => simpa using hx.symm
        | succ i => simp at hx
      subst this
      exact et_notN (Evl.ev_var rfl)
    · have : x = r := by
        cases i with
        | zero => simpa using hx.symm
        | succ i => simp at hx
      subst this
      exact Evl.ev_var rfl
    have e15 := e14.trans e6
    have npf0 : H pf = none := Evl.fresh_back e14 npf
    let R : Nat → Pl → Prop := fun i b => ∃ b0, o0 = some b0 ∧ ExtP r2.bd (r1.bd.take i) b0 b
    have start : ∃ L, H5 pf = some (.lst (refsL L)) ∧ PlL K H5 L ∧ (∀ p ∈ L, R 0 p.2) ∧ (∀ b, R 0 b → ∃ p ∈ L, pLe p.2 b) ∧ L.length ≤ r2.bd.length ^ 0 ∧ (∀ p ∈ L, p.2.length ≤ 20 + 20 * 0) := by
      cases o0 with
      | none =>
        have : r = .non := o
        subst this
        exact ⟨[], hpf, fun _ z => (by cases z), fun _ z => (by cases z), fun b ⟨b0, z, _⟩ => (by cases z), by simp, fun _ z => (by cases z)⟩
      | some b0 =>
        obtain ⟨q, rfl, hq⟩ := o
        have ln : b0.length ≤ 20 := by
          have h1 := stepZ_len _ ho0
          have h2 : (r1.ht.zip r2.ht).length ≤ r1.ht.length := by rw [List.length_zip]; omega
          have h3 := pr.hd2
          simp at h1
          omega
        have one : ∀ p ∈ [(q, b0)], p = (q, b0) := fun p hp => by simpa using hp
        refine ⟨[(q, b0)], hpf, fun p hp => ?_, fun p hp => ⟨b0, rfl, ?_⟩, fun b hb => ?_, by simp, fun p hp => ?_⟩
        · rw [one p hp]
          exact ⟨hq.mono e6, by show b0.length ≤ 500; omega⟩
        · rw [one p hp, List.take_zero]
          exact rfl
        · obtain ⟨b1, z, hz⟩ := hb
          rw [List.take_zero] at hz
          cases z
          exact ⟨(q, b0), List.mem_cons_self .., by rw [show b = b0 from hz]; exact pLe_refl _⟩
        · rw [one p hp]
          show b0.length ≤ _
          omega
    have stepR : ∀ {i a b}, r1.bd[i]? = some a → (R (i + 1) b ↔ ∃ b1, R i b1 ∧ ∃ c ∈ r2.bd, litStep a c b1 = some b) := fun {i a b} ha => by
      show (∃ b0, o0 = some b0 ∧ ExtP r2.bd (r1.bd.take (i + 1)) b0 b) ↔ _
      rw [List.take_add_one, ha, Option.toList_some]
      constructor
      · rintro ⟨b0, h1, h2⟩
        obtain ⟨b1, h3, h4⟩ := extP_snoc.mp h2
        exact ⟨b1, ⟨b0, h1, h3⟩, h4⟩
      · rintro ⟨b1, ⟨b0, h1, h3⟩, h4⟩
        exact ⟨b0, h1, extP_snoc.mpr ⟨b1, h3, h4⟩⟩
    have fin : ∀ {i : Nat}, i < r1.bd.length → r2.bd.length ^ (i + 1) ≤ 200 := fun {i} hi => Nat.le_trans (Nat.pow_le_pow_right pr.bl2 hi) pr.pow
    refine q_forD (ds := r1.bd.map litD) (ed_body (ed_var rfl (tv.mono_ex e15))) (fun H6 i σ' H' => ∃ r p o4 o5 o6 o7 o8 L, σ' = [some v, some w, some r, some (.ref p), o4, o5, o6, o7, o8] ∧ TX H6 H' ∧ Ex H H' ∧ H' p = some (.lst (refsL L)) ∧ PlL K H' L ∧
      (∀ p ∈ L, R i p.2) ∧ (∀ b, R i b → ∃ p ∈ L, pLe p.2 b) ∧ L.length ≤ r2.bd.length ^ i ∧ (∀ p ∈ L, p.2.length ≤ 20 + 20 * i)) (fun H6 e7 => ?_) (fun H6 i σ' H' pv => ?_) ?_ ?_
    · obtain ⟨L, h1, h2, h3, h4, h5, h6⟩ := start
      exact ⟨_, _, _, _, _, _, _, L, rfl, TX.refl _, e15.trans e7, e7 _ _ h1, h2.mono e7, h3, h4, h5, h6⟩
    · obtain ⟨_, _, _, _, _, _, _, _, _, t, _⟩ := pv
      exact t
    · rintro H6 i d x σ' H' hi tx ⟨r, p, o4, o5, o6, o7, o8, L, rfl, tx6, eH, hp, hL, hR1, hR2, hlen, hbl⟩
      rw [List.getElem?_map] at hi
      obtain ⟨a, ha, rfl⟩ := Option.map_eq_some_iff.mp hi
      have am : a ∈ r1.bd := List.mem_of_getElem? ha
      have ilt : i < r1.bd.length := (List.getElem?_eq_some_iff.mp ha).1
      refine Evl.q_asgL (xs := []) (Evl.el_lst Evl.ea_nil (by decide)) fun pu H7 npu e8 hpu => ?_
      have dpu : p ≠ pu := ne_of_none hp npu
      refine Evl.q_forLn (a := p) (xs := refsL L) (Evl.ev_var rfl) (SqL.of (e8 _ _ hp)) (fun k σ2 H2 => ∃ o6 o7 o8 M, σ2 = [some v, some w, some r, some (.ref p), some x, some (.ref pu), o6, o7, o8] ∧ Ex H' H2 ∧ H2 pu = some (.lst (refsL M)) ∧ PlL K H2 M ∧
        (∀ p ∈ M, R (i + 1) p.2) ∧ (∀ (k' : Nat) p1, k' < k → L[k']? = some p1 → ∀ c ∈ r2.bd, ∀ b', litStep a c p1.2 = some b' → ∃ p ∈ M, pLe p.2 b') ∧ M.length ≤ k * r2.bd.length ∧ (∀ p ∈ M, p.2.length ≤ 20 + 20 * (i + 1))) (fun H8 e9 => ?_) (fun k σ2 H2 _ pv => ?_) ?_ ?_
      · exact ⟨_, _, _, [], rfl, e8.trans e9, e9 _ _ hpu, fun _ z => (by cases z), fun _ z => (by cases z), fun _ _ z => absurd z (Nat.not_lt_zero _), by simp, fun _ z => (by cases z)⟩
      · obtain ⟨_, _, _, M, _, e, _⟩ := pv
        exact SqL.of (e _ _ hp)
      · rintro k y σ2 H2 hy ⟨o6, o7, o8, M, rfl, eH2, hpu2, hM, hM1, hM2, hM3, hM4⟩
        rw [List.getElem?_map] at hy
        obtain ⟨⟨q, b1⟩, hq, rfl⟩ := Option.map_eq_some_iff.mp hy
        have qm : (q, b1) ∈ L := List.mem_of_getElem? hq
        have klt : k < L.length := (List.getElem?_eq_some_iff.mp hq).1
        have kn : (k + 1) * r2.bd.length ≤ 200 := by
          have h1 : (k + 1) * r2.bd.length ≤ L.length * r2.bd.length := Nat.mul_le_mul_right _ klt
          have h2 : L.length * r2.bd.length ≤ r2.bd.length ^ i * r2.bd.length := Nat.mul_le_mul_right _ hlen
          have h3 := fin ilt
          rw [Nat.pow_succ] at h3
          omega
        rw [Nat.succ_mul] at kn
        refine s_forD (ds := r2.bd.map litD) (ed_body (ed_var rfl (tw.mono_ex (eH.trans eH2)))) (fun G m σ3 H3 => ∃ o7 o8 M, σ3 = [some v, some w, some r, some (.ref p), some x, some (.ref pu), some (.ref q), o7, o8] ∧ TX G H3 ∧ Ex H' H3 ∧ H3 pu = some (.lst (refsL M)) ∧ PlL K H3 M ∧
          (∀ p ∈ M, R (i + 1) p.2) ∧ (∀ (k' : Nat) p1, k' < k → L[k']? = some p1 → ∀ c ∈ r2.bd, ∀ b', litStep a c p1.2 = some b' → ∃ p ∈ M, pLe p.2 b') ∧ (∀ c ∈ r2.bd.take m, ∀ b', litStep a c b1 = some b' → ∃ p ∈ M, pLe p.2 b') ∧ M.length ≤ k * r2.bd.length + m ∧ (∀ p ∈ M, p.2.length ≤ 20 + 20 * (i + 1))) (fun G g => ?_) (fun G m σ3 H3 pv => ?_) ?_ ?_
        · exact ⟨_, _, M, rfl, TX.refl _, eH2.trans g, g _ _ hpu2, hM.mono g, hM1, hM2, fun _ z => (by simp at z), by omega, hM4⟩
        · obtain ⟨_, _, _, _, t, _⟩ := pv
          exact t
        · rintro G m d z σ3 H3 hm tz ⟨o7, o8, M, rfl, tG, eH3, hpu3, hM, hM1, hM2, hM2', hM3, hM4⟩
          rw [List.getElem?_map] at hm
          obtain ⟨c, hc, rfl⟩ := Option.map_eq_some_iff.mp hm
          have cm : c ∈ r2.bd := List.mem_of_getElem? hc
          have mlt : m < r2.bd.length := (List.getElem?_eq_some_iff.mp hc).1
          have hqL := (hL _ qm)
          have tkc : r2.bd.take (m + 1) = r2.bd.take m ++ [c] := by rw [List.take_add_one, hc, Option.toList_some]
          refine ⟨_, rfl, _, rfl, _, rfl, x, z, q, a, c, b1, rfl, tx.mono_ex eH3, tz, pr.wid a am c cm, pr.wid2 a am, pr.okb1 a am, pr.okb2 c cm, hqL.1.mono eH3, by have z : b1.length ≤ 500 := hqL.2; show b1.length ≤ 900; omega, fun r' H4 e4 o => ?_⟩
          have e34 := eH3.trans e4
          cases ho : litStep a c b1 with
          | none =>
            rw [ho] at o
            have : r' = .non := o
            subst this
            refine Evl.s_when (b := false) (Evl.et_is (Evl.et_and (b := false) (et_notN (v := .non) (Evl.ev_var rfl)) fun h => absurd h (by decide)) rfl) (fun hb => absurd hb (by decide)) (fun _ H5 e5 => ?_)
            refine ⟨_, _, M, rfl, (tG.trans (TX.of_ex (e4.trans e5))), e34.trans e5, e5 _ _ (e4 _ _ hpu3), hM.mono (e4.trans e5), hM1, hM2, fun c' hc' b' hb' => ?_, by omega, hM4⟩
            rw [tkc] at hc'
            rcases List.mem_append.mp hc' with hc' | hc'
            · exact hM2' c' hc' b' hb'
            · have : c' = c := by simpa using hc'
              rw [this, ho] at hb'
              cases hb'
          | some b' =>
            rw [ho] at o
            obtain ⟨q', rfl, hq'⟩ := o
            have lb' : b'.length ≤ 20 + 20 * (i + 1) := by
              have h1 := litStep_len ho
              have h2 := hbl _ qm
              have h3 := pr.wid2 a am
              have h4 : b1.length ≤ 20 + 20 * i := h2
              omega
            have il := pr.bl1
            have Rb' : R (i + 1) b' := (stepR ha).mpr ⟨b1, hR1 _ qm, c, cm, ho⟩
            obtain ⟨kvs', hk1, hk2, hk3, hk4⟩ := hq'
            refine ⟨_, rfl, rfl, _, rfl, ?_⟩
            refine iteT ?_
            refine ⟨_, rfl, _, rfl, q', pu, M.map fun p => (p.1, psOf p.2), kvs', psOf b', rfl, rfl, by rw [List.map_map]; exact e4 _ _ hpu3, hk1, hk2, ps_shaped hk4, fun p' hp' => ?_, fun t ht => ⟨_, rfl, ?_⟩⟩
            · obtain ⟨p2, hp2, rfl⟩ := List.mem_map.mp hp'
              obtain ⟨kk, g1, g2, g3, g4⟩ := (hM p2 hp2).1.mono e4
              exact ⟨kk, g1, g2, ps_shaped g4⟩
            refine ite2 (fun zt => ?_) (fun zt => ?_)
            · -- append
              refine Evl.s_app (l := pu) (xs := refsL M) (v := .ref q') (e4 _ _ hpu3) (Evl.ev_var rfl) (Evl.ev_var rfl) (by rw [List.length_map]; omega) fun H5 e5 => ?_
              have dn : H' pu = none := npu
              have hnew : ∀ {o : HO}, Ex H4 (upd H5 pu o) ∨ True := fun {o} => .inr trivial
              have plM : PlL K (upd H5 pu (.lst (refsL M ++ [.ref q']))) (M ++ [(q', b')]) := fun p2 hp2 => by
                have tx5 : TX H5 (upd H5 pu (.lst (refsL M ++ [.ref q']))) := TX.lst (e5 _ _ (e4 _ _ hpu3))
                have keep : ∀ {a2 : Addr} {b2 : Pl}, PlAt K H4 a2 b2 → PlAt K (upd H5 pu (.lst (refsL M ++ [.ref q']))) a2 b2 := fun {a2 b2} h => by
                  obtain ⟨k2, g1, g2, g3, g4⟩ := h
                  have n2 : a2 ≠ pu := ne_of g1 (e4 _ _ hpu3) (fun zz => by cases zz)
                  exact ⟨k2, by rw [upd_ne n2]; exact e5 _ _ g1, (g2.mono (TX.of_ex e5)).mono tx5, g3, g4⟩
                rcases List.mem_append.mp hp2 with hp2 | hp2
                · exact ⟨keep ((hM p2 hp2).1.mono e4), (hM p2 hp2).2⟩
                · have : p2 = (q', b') := by simpa using hp2
                  rw [this]
                  exact ⟨keep ⟨kvs', hk1, hk2, hk3, hk4⟩, by show b'.length ≤ 500; omega⟩
              have eM : Ex H' (upd H5 pu (.lst (refsL M ++ [.ref q']))) := Ex.mut (e34.trans e5) dn
              have txM : TX G (upd H5 pu (.lst (refsL M ++ [.ref q']))) := (tG.trans (TX.of_ex (e4.trans e5))).trans (TX.lst (e5 _ _ (e4 _ _ hpu3)))
              refine ⟨_, _, M ++ [(q', b')], rfl, txM, eM, by rw [upd_same]; show _ = some (HO.lst (List.map _ (M ++ _))); rw [List.map_append] <;> rfl, plM, fun p2 hp2 => ?_, fun k' p1 hk' hl' c' hc' b2 hb2 => ?_, fun c' hc' b2 hb2 => ?_, by rw [List.length_append, List.length_cons, List.length_nil]; omega, fun p2 hp2 => ?_⟩
              · rcases List.mem_append.mp hp2 with hp2 | hp2
                · exact hM1 p2 hp2
                · have : p2 = (q', b') := by simpa using hp2
                  rw [this]
                  exact Rb'
              · obtain ⟨p3, h3, h4⟩ := hM2 k' p1 hk' hl' c' hc' b2 hb2
                exact ⟨p3, List.mem_append_left _ h3, h4⟩
              · rw [tkc] at hc'
                rcases List.mem_append.mp hc' with hc' | hc'
                · obtain ⟨p3, h3, h4⟩ := hM2' c' hc' b2 hb2
                  exact ⟨p3, List.mem_append_left _ h3, h4⟩
                · have : c' = c := by simpa using hc'
                  rw [this, ho] at hb2
                  cases hb2
                  exact ⟨(q', b'), List.mem_append_right _ (List.mem_cons_self ..), pLe_refl _⟩
              · rcases List.mem_append.mp hp2 with hp2 | hp2
                · exact hM4 p2 hp2
                · have : p2 = (q', b') := by simpa using hp2
                  rw [this]
                  exact lb'
            · refine ⟨_, _, M, rfl, tG.trans (TX.of_ex e4), e34, e4 _ _ hpu3, hM.mono e4, hM1, hM2, fun c' hc' b2 hb2 => ?_, by omega, hM4⟩
              rw [tkc] at hc'
              rcases List.mem_append.mp hc' with hc' | hc'
              · exact hM2' c' hc' b2 hb2
              · have : c' = c := by simpa using hc'
                rw [this, ho] at hb2
                cases hb2
                have tt : t = true := by simpa using zt
                obtain ⟨p3, h3, h4⟩ := ht tt
                obtain ⟨p2, hp2, rfl⟩ := List.mem_map.mp h3
                exact ⟨p2, hp2, dLe_pLe h4⟩
        · rintro G σ3 H3 ⟨o7, o8, M, rfl, tG, eH3, hpu3, hM, hM1, hM2, hM2', hM3, hM4⟩
          rw [List.length_map] at hM3 hM2'
          rw [List.take_length] at hM2'
          refine ⟨_, _, _, M, rfl, eH3, hpu3, hM, hM1, fun k' p1 hk' hl' c' hc' b2 hb2 => ?_, by rw [Nat.succ_mul]; exact hM3, hM4⟩
          by_cases e : k' = k
          · subst e
            rw [hq] at hl'
            cases hl'
            exact hM2' c' hc' b2 hb2
          · exact hM2 k' p1 (by omega) hl' c' hc' b2 hb2
      · rintro σ2 H2 ⟨o6, o7, o8, M, rfl, eH2, hpu2, hM, hM1, hM2, hM3, hM4⟩
        rw [List.length_map] at hM2 hM3
        have lM : M.length ≤ r2.bd.length ^ (i + 1) := by
          rw [Nat.pow_succ]
          exact Nat.le_trans hM3 (Nat.mul_le_mul_right _ hlen)
        have lM2 := fin ilt
        refine Evl.q_asg (Evl.ev_var rfl) fun H3 e3 => ?_
        refine Evl.s_when (b := false) (Evl.et_is (et_gt (ed_lenL (Evl.ev_var rfl) (e3 _ _ hpu2)) (ed_gl (.int 200))) (decide_eq_false (by rw [List.length_map]; omega))) (fun hb => absurd hb (by decide)) (fun _ H4 e4 => ?_)
        have e24 := e3.trans e4
        refine ⟨_, _, _, _, _, _, _, M, rfl, tx6.trans (TX.of_ex (eH2.trans e24)), (eH.trans eH2).trans e24, e24 _ _ hpu2, hM.mono e24, hM1, fun b hb => ?_, lM, hM4⟩
        obtain ⟨b1, hb1, c, hc, hs⟩ := (stepR ha).mp hb
        obtain ⟨p3, h3, h4⟩ := hR2 b1 hb1
        obtain ⟨b3, h5, h6⟩ := litStep_mono h4 hs
        obtain ⟨k', hk'⟩ := List.getElem?_of_mem h3
        obtain ⟨p4, h7, h8⟩ := hM2 k' p3 (List.getElem?_eq_some_iff.mp hk').1 hk' c hc b3 h5
        exact ⟨p4, h7, pLe_trans h8 h6⟩
    · rintro H6 σ' H' ⟨r, p, o4, o5, o6, o7, o8, L, rfl, tx6, eH, hp, hL, hR1, hR2, hlen, hbl⟩
      rw [List.length_map] at hR1 hR2
      have key : (decide ((0 : Int) < ((refsL L).length : Int)) = true) ↔ SubP r1 r2 := by
        rw [decide_eq_true_iff, List.length_map]
        constructor
        · intro h0
          have : 0 < L.length := by omega
          have hm : L[0] ∈ L := List.getElem_mem this
          obtain ⟨b0, h1, h2⟩ := hR1 _ hm
          rw [List.take_length] at h2
          exact ⟨hn, b0, _, by rw [ho0]; exact h1, h2⟩
        · rintro ⟨_, b0, b, h1, h2⟩
          rw [ho0] at h1
          obtain ⟨p3, h3, _⟩ := hR2 b ⟨b0, h1, by rw [List.take_length]; exact h2⟩
          have := List.length_pos_of_mem h3
          omega
      have le := ed_lenL (K := K) (te := tVar 3) (σ := [some v, some w, some r, some (.ref p), o4, o5, o6, o7, o8]) (H := H') (xs := refsL L) (Evl.ev_var rfl) hp
      have ev : Ev (tOp (rI0 fun i j => V.bl (decide (j < i))) (tCB (rLenV K) (tCons (tVar 3) tNil)) (tC (V.int 0))) [some v, some w, some r, some (.ref p), o4, o5, o6, o7, o8] H' (.bl (decide ((0 : Int) < ((refsL L).length : Int)))) := fun H1 e Q q => le H1 e _ fun n1 H8 e8 t8 => by
        rw [t8.int_inv]
        exact ⟨_, _, rfl, rfl, q H8 e8⟩
      exact Evl.s_ret ev fun H8 e8 => k _ H8 (eH.trans e8) key
end
end K86
end
section
set_option maxRecDepth 100000
set_option maxHeartbeats 4000000
/-! a dict whose keys are (a tuple of ints, an int) -/
namespace HF
open PySem PySem.Spec PyProof.Rows L2
open Evl (Ex Ev EvT EvL EvU EvA)
abbrev IK := List Nat × Nat
/-- an entry: the key, its tuple, the value -/
abbrev IEnt := IK × Addr × Addr
def nkI (k : IK) : NestedKey := .tup [.tup (k.1.map fun n : Nat => .num (n : Int)), .num (k.2 : Int)]
def intsOf (ns : List Nat) : List V := ns.map fun n : Nat => V.int (n : Int)
def KeyAt (H : Hp) (ka : Addr) (k : IK) : Prop := ∃ p, H ka = some (.tup [.ref p, .int (k.2 : Int)]) ∧ H p = some (.tup (intsOf k.1))
theorem KeyAt.mono {H H' : Hp} (t : TX H H') {ka : Addr} {k : IK} (h : KeyAt H ka k) : KeyAt H' ka k := let ⟨p, h1, h2⟩ := h; ⟨p, t _ _ h1, t _ _ h2⟩
def xsI (L : List IEnt) : List (NestedKey × Addr × Value) := L.map fun e => (nkI e.1, e.2.1, .ref e.2.2)
def iGet (L : List IEnt) (k : IK) : Option Addr := (L.find? fun e => decide (e.1 = k)).map (·.2.2)
theorem iGet_cons (e : IEnt) (L : List IEnt) (k : IK) : iGet (e :: L) k = if e.1 = k then some e.2.2 else iGet L k := by
  unfold iGet
  by_cases z : e.1 = k <;> simp [z]
theorem num_inj : ∀ {a b : List Nat}, a.map (fun n : Nat => NestedKey.num (n : Int)) = b.map (fun n : Nat => NestedKey.num (n : Int)) → a = b
  | [], [], _ => rfl
  | [], _ :: _, h => by cases h
  | _ :: _, [], h => by cases h
  | x :: a, y :: b, h => by
    rw [List.map_cons, List.map_cons] at h
    injection h with h1 h2
    injection h1 with h1
    rw [num_inj h2, show x = y by omega]
theorem nkI_inj {a b : IK} (h : nkI a = nkI b) : a = b := by
  unfold nkI at h
  injection h with h
  injection h with h1 h2
  injection h1 with h1
  injection h2 with h2 _
  injection h2 with h2
  have e1 := num_inj h1
  have e2 : a.2 = b.2 := by omega
  exact Prod.ext e1 e2
section
variable (P : Program) (w : World)
def IdxO (a : Addr) (L : List IEnt) : HO := .ext fun h => ∃ o es ep, h.get? a = some o ∧ o.ExactDict ∧ o.data = .dict es ep ∧ es.toList = (xsI L).map (entryOfKey (nestedKind P w)) ∧ ((xsI L).map (·.1)).Nodup ∧ (a == sysModules) = false ∧ L.length ≤ 100000
/-- the index dict, its keys' tuples where they were -/
def IdxIs (H : Hp) (a : Addr) (L : List IEnt) : Prop := H a = some (IdxO P w a L) ∧ ∀ e ∈ L, KeyAt H e.2.1 e.1
end
section
variable {P : Program} {w : World} {H H' : Hp} {h : Heap} {a : Addr} {L : List IEnt}
theorem idx_new {a : Addr} {L : List IEnt} (x : ∃ o es ep, h.get? a = some o ∧ o.ExactDict ∧ o.data = .dict es ep ∧ es.toList = (xsI L).map (entryOfKey (nestedKind P w)) ∧ ((xsI L).map (·.1)).Nodup ∧ (a == sysModules) = false ∧ L.length ≤ 100000) : ObjOk P w H h a (IdxO P w a L) := by
  refine ⟨x, let ⟨o, _, _, e, _⟩ := x; ⟨o, e⟩, fun h1 h2 y k => ?_⟩
  obtain ⟨o, es, ep, e, r⟩ := y
  exact ⟨o, es, ep, k o e, r⟩
end
theorem vals_ints : ∀ {ns : List Nat} {us : List Value} {h : Heap}, Vals (intsOf ns) us → NestedAll h (ns.map fun n : Nat => NestedKey.num (n : Int)) us
  | [], _, _, r => by cases r; exact .nil
  | n :: ns, _, h, r => by
    cases r with
    | cons r1 r2 =>
      obtain ⟨t, rfl⟩ := (show ∃ t, _ = Value.int (n : Int) t from r1)
      exact .cons (.int _ t) (vals_ints r2)
theorem depth_num : ∀ ns : List Nat, NestedKey.depthAll (ns.map fun n : Nat => NestedKey.num (n : Int)) ≤ 1
  | [] => by simp [NestedKey.depthAll]
  | n :: ns => by
    have := depth_num ns
    simp only [List.map_cons, NestedKey.depthAll, NestedKey.depth]
    omega
section
variable {X : Cx} {pins : List (Addr × Obj)} {σ : L2.St} {H : Hp} {s : Shared}
theorem key_is (I : Inv X pins σ H s) {ka : Addr} {k : IK} (h : KeyAt H ka k) : (nestedKind X.prog X.w).is s.heap (nkI k) ka := by
  obtain ⟨p, h1, h2⟩ := h
  obtain ⟨_, its, r, ⟨oc, od, dt, sl⟩, e1, e2, n, e3⟩ := (show ObjOk X.prog X.w H s.heap ka (.tup [.ref p, .int (k.2 : Int)]) from I.hok ka _ h1)
  obtain ⟨_, its2, r2, ⟨oc2, od2, dt2, sl2⟩, e4, e5, n2, e6⟩ := (show ObjOk X.prog X.w H s.heap p (.tup (intsOf k.1)) from I.hok p _ h2)
  refine ⟨?_, ?_⟩
  · refine .tup e1 e2 e3 ?_
    cases r with
    | cons q1 r =>
      cases r with
      | cons q2 r =>
        cases r
        cases (show _ = Value.ref p from q1)
        obtain ⟨t, rfl⟩ := (show ∃ t, _ = Value.int (k.2 : Int) t from q2)
        exact .cons (.tup e4 e5 e6 (by simpa using vals_ints r2)) (.cons (.int _ t) .nil)
  · have := depth_num k.1
    unfold nkI
    simp only [NestedKey.depth, NestedKey.depthAll]
    omega
theorem idx_keyed (I : Inv X pins σ H s) {a : Addr} {L : List IEnt} (h : IdxIs X.prog X.w H a L) : (a == sysModules) = false ∧ L.length ≤ 100000 ∧ s.heap.DictOfH (nestedKind X.prog X.w) a (xsI L) := by
  obtain ⟨h1, h2⟩ := h
  obtain ⟨⟨o, es, ep, e1, e2, e3, e4, e5, e6, e7⟩, _⟩ := I.hok a _ h1
  refine ⟨e6, e7, o, es, ep, e1, e2, e3, e4, fun x hx => ?_, e5⟩
  obtain ⟨e, he, rfl⟩ := List.mem_map.mp hx
  exact key_is I (h2 e he)
theorem xs_at : ∀ (L : List IEnt) (k : IK), (atKey (xsI L) (nkI k)).map (·.2) = (iGet L k).map Value.ref
  | [], k => rfl
  | e :: L, k => by
    have ih := xs_at L k
    rw [iGet_cons]
    by_cases z : e.1 = k
    · rw [if_pos z]
      simp [xsI, atKey, z]
    · rw [if_neg z, ← ih]
      have n : ¬ nkI e.1 = nkI k := fun q => z (nkI_inj q)
      simp [xsI, atKey, n]
theorem room_nest (hu : X.A.units + 70 < cLine) : (nestedKind X.prog X.w).room X.A.in1 := by show X.A.units + 1 + 8 < cLine; omega
theorem idx_sysne (I : Inv X pins σ H s) : True := trivial
end
section
variable {X : Cx}
def tINew (P : Program) (w : World) : TE := fun _ H Q => ∀ p, H p = none → Q (.ref p) (upd H p (IdxO P w p []))
theorem pe_inew {pos : Pos} : PE X (.Dict [] [] pos) (tINew X.prog X.w) := ⟨fun pins s σ H Q I h =>
  wpAny_Dict_empty ⟨.ref s.heap.objs.size, _, I.laid (a := s.heap.objs.size) (o := IdxO X.prog X.w s.heap.objs.size []) (t' := s.toks) (fun _ _ q => Heap.get?_push_of_some _ q) (Nat.le_refl _)
    (idx_new ⟨_, #[], 0, Heap.get?_push_size _ rfl, ⟨rfl, rfl, rfl⟩, rfl, rfl, List.nodup_nil, beq_eq_false_iff_ne.mpr (Ne.symm (Nat.ne_of_lt I.big)), by simp⟩), rfl, h _ (I.hok.fresh (Nat.le_refl _))⟩⟩
/-- (spots, width) not in d -/
def rINot (P : Program) (w : World) : R2 := fun x y H Q => ∃ ka a L k, x = .ref ka ∧ y = .ref a ∧ IdxIs P w H a L ∧ KeyAt H ka k ∧ Q (.bl (!(iGet L k).isSome)) H
theorem op_inot (hu : X.A.units + 70 < cLine) : OpR X (compareOp .NotIn) (rINot X.prog X.w) := by
  intro pins s σ H x y v u Q I rx ry h
  obtain ⟨ka, a, L, k, rfl, rfl, hi, hk, q⟩ := h
  cases (show v = Value.ref ka from rx)
  cases (show u = Value.ref a from ry)
  obtain ⟨h1, _, h2⟩ := idx_keyed I hi
  refine notIn_keyed (kvs := pairsH (xsI L)) (k := nkI k) (room_nest hu) (key_is I hk) h1 ⟨_, h2, rfl⟩ ?_
  rw [valueAt_pairsH, xs_at, Option.isSome_map]
  exact ⟨.bl _, H, I.tok _, rfl, q⟩
/-- d[spots, width] -/
def tIGet (P : Program) (w : World) (td ty : TE) : TE := fun σ H Q => td σ H fun x H1 => ty σ H1 fun y H2 => ∃ a ka L k v, x = .ref a ∧ y = .ref ka ∧ IdxIs P w H2 a L ∧ KeyAt H2 ka k ∧ iGet L k = some v ∧ Q (.ref v) H2
theorem pe_iget {o i : Expr} {pos : Pos} {td ty : TE} (hu : X.A.units + 70 < cLine) (ho : PE X o td) (hi : PE X i ty) (hs : NoSl i) : PE X (.Subscript o i pos) (tIGet X.prog X.w td ty) := by
  refine ⟨fun pins s σ H Q I h => ?_⟩
  refine subD_of PySem.F.slot_dict_getitem.lookup hs (thn (ho.run pins s σ H _ I h) fun u s1 ⟨x, H1, I1, rx, q1⟩ => thn (hi.run pins s1 σ H1 _ I1 q1) fun iv s2 ⟨y, H2, I2, ry, a, ka, L, k, v, ex, ey, hd, hk, hv, q2⟩ => ?_)
  subst ex ey
  obtain rfl : u = Value.ref a := rx
  obtain rfl : iv = Value.ref ka := ry
  obtain ⟨h1, _, h2⟩ := idx_keyed I2 hd
  refine ⟨h2.typeIs, getItem_keyed (kvs := pairsH (xsI L)) (k := nkI k) (v := .ref v) (room_nest hu) (key_is I2 hk) ⟨_, h2, rfl⟩ ?_ ⟨.ref v, H2, I2.tok _, rfl, q2⟩⟩
  rw [valueAt_pairsH, xs_at, hv]
  rfl
/-- d[spots, width] = index, a new key -/
def sIPut (P : Program) (w : World) (td ty tv : TE) : TS := fun D σ H => tv σ H fun v H1 => td σ H1 fun x H2 => ty σ H2 fun y H3 => ∃ a ka L k z, v = .ref z ∧ x = .ref a ∧ y = .ref ka ∧ IdxIs P w H3 a L ∧ KeyAt H3 ka k ∧ iGet L k = none ∧ L.length < 50000 ∧ D.nx σ (upd H3 a (IdxO P w a (L ++ [(k, ka, z)])))
theorem iGet_nodup {L : List IEnt} {k : IK} (nd : ((xsI L).map (·.1)).Nodup) (h : iGet L k = none) {ka z : Addr} : ((xsI (L ++ [(k, ka, z)])).map (·.1)).Nodup := by
  unfold xsI at nd ⊢
  rw [List.map_append, List.map_append, List.nodup_append]
  refine ⟨nd, by simp, fun x hx y hy e => ?_⟩
  have ey : y = nkI k := by simpa using hy
  rw [List.map_map] at hx
  obtain ⟨en, hen, rfl⟩ := List.mem_map.mp hx
  have ek : en.1 = k := nkI_inj (e.trans ey)
  unfold iGet at h
  rw [Option.map_eq_none_iff, List.find?_eq_none] at h
  exact h en hen (decide_eq_true ek)
theorem ps_iput {o i value : Expr} {pos pos' : Pos} {td ty tv : TE} (hu : X.A.units + 70 < cLine) (ho : PE X o td) (hi : PE X i ty) (hv : PE X value tv) (hs : swapsWith value (some (.Subscript o i pos')) pos.line X.env = pure false) :
    PS X (.Assign [.Subscript o i pos'] value pos) (sIPut X.prog X.w td ty tv) := by
  refine ⟨fun pins s σ H D I h => ?_⟩
  refine wpAny_Assign_Subscript (thn (hv.run pins s σ H _ I h) fun r s1 ⟨v, H1, I1, rv, q1⟩ => thn (ho.run pins s1 σ H1 _ I1 q1) fun u s2 ⟨x, H2, I2, rx, q2⟩ => thn (hi.run pins s2 σ H2 _ I2 q2) fun iv s3 ⟨y, H3, I3, ry, a, ka, L, k, z, ev, ex, ey, hd, hk, hn, hl, q3⟩ => ?_) hs
  subst ev ex ey
  obtain rfl : u = Value.ref a := rx
  obtain rfl : iv = Value.ref ka := ry
  obtain rfl : r = Value.ref z := rv
  obtain ⟨h1, h7, h2⟩ := idx_keyed I3 hd
  have nd : ((xsI L).map (·.1)).Nodup := let ⟨_, _, _, _, _, _, _, _, n⟩ := h2; n
  have zz : sizeLine = 16777216 := sizeLine_eq
  have lx : (xsI L).length = L.length := by unfold xsI; rw [List.length_map]
  refine wpAny_setItem_heap (knd := nestedKind X.prog X.w) (k := nkI k) (hsz := by rw [lx]; omega) (room_nest hu) (key_is I3 hk) h2 fun h' hm' hs => ?_
  have st : storedH (xsI L) (nkI k) ka (.ref z) = xsI (L ++ [(k, ka, z)]) := by
    unfold storedH
    have no : (atKey (xsI L) (nkI k)).isSome = false := by
      have := xs_at L k
      rw [hn] at this
      rw [← Option.isSome_map (f := (·.2)), this]
      rfl
    rw [if_neg (by rw [no]; decide)]
    unfold xsI
    rw [List.map_append] <;> rfl
  rw [st] at hm'
  obtain ⟨ob, es, ep, g1, g2, g3, g4, _, g5⟩ := hm'
  have I4 : Inv X pins σ (upd H3 a (IdxO X.prog X.w a (L ++ [(k, ka, z)]))) { s3 with heap := h', toks := s3.toks + (nestedKind X.prog X.w).draws (nkI k) } :=
    d_write I3 (by rw [hd.1]; exact True.intro) hs ⟨ob, g1⟩ (idx_new ⟨ob, es, ep, g1, g2, g3, g4, g5, h1, by rw [List.length_append, List.length_cons, List.length_nil]; omega⟩)
  exact ⟨σ, _, I4, q3⟩
/-- while a statement runs the empty index dict is told as a dict of no texts -/
def tAsK (P : Program) (w : World) (t : TS) : TS := fun D σ H => ∃ d, H d = some (IdxO P w d []) ∧ t ⟨fun σ' H' => H' d = some (.dK []) ∧ D.nx σ' (upd H' d (IdxO P w d [])), fun v H' => H' d = some (.dK []) ∧ D.rt v (upd H' d (IdxO P w d [])), fun σ' H' => H' d = some (.dK []) ∧ D.bk σ' (upd H' d (IdxO P w d [])), fun σ' H' => H' d = some (.dK []) ∧ D.ct σ' (upd H' d (IdxO P w d []))⟩ σ (upd H d (.dK []))
theorem inv_toK {pins : List (Addr × Obj)} {σ : L2.St} {H : Hp} {s : Shared} {d : Addr} (I : Inv X pins σ H s) (h : H d = some (IdxO X.prog X.w d [])) : Inv X pins σ (upd H d (.dK [])) s := by
  obtain ⟨⟨o, es, ep, e1, e2, e3, e4, e5, e6, e7⟩, _⟩ := I.hok d _ h
  have ee : es = #[] := by
    have : es.toList = [] := e4
    simpa using this
  subst ee
  exact I.write (x := d) (e := d) (t' := s.toks) (h' := s.heap) (by rw [h]; exact True.intro) (.inl rfl) (fun b v _ q => q) ⟨o, e1⟩
    ⟨Nat.zero_le _, e6, [], .nil, o, #[], ep, e1, e2, e3, by intro x hx; simp at hx, .nil, List.nodup_nil⟩
theorem inv_toI {pins : List (Addr × Obj)} {σ : L2.St} {H : Hp} {s : Shared} {d : Addr} (I : Inv X pins σ H s) (h : H d = some (.dK [])) : Inv X pins σ (upd H d (IdxO X.prog X.w d [])) s := by
  obtain ⟨_, hs, vs, rel, o, es, ep, e1, e2, e3, e4, e5, e6⟩ := (show ObjOk X.prog X.w H s.heap d (.dK []) from I.hok d _ h)
  cases rel
  have ee : es.toList = [] := by
    cases q : es.toList with
    | nil => rfl
    | cons a b => rw [q] at e5; cases e5
  exact I.write (x := d) (e := d) (t' := s.toks) (h' := s.heap) (by rw [h]; exact True.intro) (.inl rfl) (fun b v _ q => q) ⟨o, e1⟩ (idx_new ⟨o, es, ep, e1, e2, e3, ee, List.nodup_nil, hs, by simp⟩)
theorem ps_asK {st : Stmt} {t : TS} (h : PS X st t) : PS X st (tAsK X.prog X.w t) := by
  refine ⟨fun pins s σ H D I hw => ?_⟩
  obtain ⟨d, hd, hw⟩ := hw
  refine thn (h.run pins s σ _ _ (inv_toK I hd) hw) fun f s1 q => ?_
  cases f with
  | next => obtain ⟨σ', H', I2, e, q⟩ := q; exact ⟨σ', _, inv_toI I2 e, q⟩
  | brk => obtain ⟨σ', H', I2, e, q⟩ := q; exact ⟨σ', _, inv_toI I2 e, q⟩
  | cont => obtain ⟨σ', H', I2, e, q⟩ := q; exact ⟨σ', _, inv_toI I2 e, q⟩
  | ret v => obtain ⟨x, σ', H', I2, r, e, q⟩ := q; exact ⟨x, σ', _, inv_toI I2 e, r, q⟩
/-- d.setdefault(k, x), the keys tuples -/
def tDSetT (td ty tx : TE) : TE := fun σ H Q => td σ H fun x H1 => ∃ a, x = .ref a ∧ IsD H1 a ∧ ty σ H1 fun y H2 => tx σ H2 fun z H3 => ∃ (kvs : List (List Key × V)) (k : List Key) (b : Addr), H3 a = some (.dT kvs) ∧ y = .ref b ∧ H3 b = some (.tup (k.map kV)) ∧ kvs.length < 100000 ∧
  (∀ v, valV kvs k = some v → Q v H3) ∧ (valV kvs k = none → Q z (upd H3 a (.dT (putK kvs k z))))
theorem pe_dsetT {o e f : Expr} {td ty tx : TE} {apos cpos : Pos} (hu : X.A.units + 1 < cLine) (ho : PE X o td) (he : PE X e ty) (hf : PE X f tx) (m : M2 X o "setdefault" apos e f cpos) : PE X (.Call (.Attribute o "setdefault" apos) [e, f] [] cpos) (tDSetT td ty tx) := by
  refine ⟨fun pins s σ H Q I h => ?_⟩
  refine wpAny_Call_method m.base m.few m.line PySem.F.plainAttrs_dict PySem.F.slot_dict_setdefault PySem.F.type_dict_setdefault (thn (ho.run pins s σ H _ I h) fun u s1 ⟨x, H1, I1, rx, a, ex, d, q1⟩ => ?_)
  subst ex
  obtain rfl : u = Value.ref a := rx
  obtain ⟨t1, t2, _⟩ := isD_at I1 d
  refine ⟨t1, t2, ?_⟩
  rw [m.trees]
  refine Calls.callWith_builtin rfl (Calls.evalArgs_plain (Calls.spliced_cons (thn (he.run pins s1 σ H1 _ I1 q1) fun iv s2 ⟨y, H2, I2, ry, q2⟩ =>
    Calls.spliced_cons (thn (hf.run pins s2 σ H2 _ I2 q2) fun fv s3 ⟨z, H3, I3, rz, kvs, k, b, ea, ey, eb, hl, q3, q4⟩ => Calls.spliced_nil ?_))))
  subst ey
  obtain rfl : iv = Value.ref b := ry
  obtain ⟨hz, hd, xs, rel, dd⟩ := dt_of I3.hok ea
  have hz' : xs.length ≤ sizeLine := by rw [← Paired.length rel]; exact hz
  have zz : sizeLine = 16777216 := sizeLine_eq
  refine call_setdefault_heap (hsz := hz') (tupleKind_room_in1 hu) (key_of I3.hok eb) hd dd (fun p hp => ?_) fun hn h' dd' hs => ?_
  · have r := rel.val k
    rw [hp] at r
    cases ev : valV kvs k with
    | none =>
      rw [ev] at r
      exact (show False from r).elim
    | some v0 =>
      rw [ev] at r
      exact ⟨v0, H3, I3.tok _, r, q3 v0 ev⟩
  · have r := rel.val k
    rw [hn] at r
    have e : valV kvs k = none := by
      cases ev : valV kvs k with
      | none => rfl
      | some v0 =>
        rw [ev] at r
        exact (show False from r).elim
    obtain ⟨q, es, ep, hq, h2, h3, h4, _, h5⟩ := dd'
    have hl' : (putK kvs k z).length ≤ sizeLine := by have := length_putK kvs k z; omega
    have kt : KT (upd H3 a (.dT (putK kvs k z))) (putK kvs k z) (storedH xs k b fv) := (rel.put k eb rz).keeps fun c ys ec => by
      rw [upd_ne (ne_of ec ea (fun z => nomatch z))]
      exact ec
    exact ⟨z, upd H3 a (.dT (putK kvs k z)), d_write (ob := .dT (putK kvs k z)) I3 (by rw [ea]; exact True.intro) hs ⟨q, hq⟩ (show ObjOk X.prog X.w (upd H3 a (.dT (putK kvs k z))) h' a (.dT (putK kvs k z)) from ⟨hl', hd, _, kt, q, es, ep, hq, h2, h3, h4, h5⟩), rz, q4 e⟩
/-- either of two rules of one callee -/
theorem callR_or {f : Value} {r1 r2 : List V → Hp → VK → Prop} (h1 : CallR X f r1) (h2 : CallR X f r2) : CallR X f (fun xs H Q => r1 xs H Q ∨ r2 xs H Q) := by
  intro pins s σ H xs us Q I r q
  rcases q with q | q
  · exact h1 pins s σ H xs us Q I r q
  · exact h2 pins s σ H xs us Q I r q
end
end HF
end
section
set_option maxRecDepth 100000
set_option maxHeartbeats 4000000
/-! dict comprehensions whose keys are tuples: HandS.DictComp's rule (dc_core, pe_dc) turned to .dT; the empty one told anew -/
namespace HF
open PySem PySem.Spec PyProof.Rows L2
open Evl (Ex Ev EvT EvL EvU EvA)
theorem d_dictSetT {X : Cx} {pins : List (Addr × Obj)} {σ : L2.St} {H : Hp} {s : Shared} {E : Value → Shared → Prop} {D b : Addr} {kvs : List (List Key × V)} {k : List Key} {v : V} {u r : Value} {Q : Unit → Shared → Prop} (hu : X.A.units + 70 < cLine) (I : Inv X pins σ H s) (hD : H D = some (.dT kvs))
    (hb : H b = some (.tup (k.map kV))) (hz : kvs.length < 100000) (ry : RelV (.ref b) u) (rv : RelV v r) (h : ∀ s', Inv X pins σ (upd H D (.dT (putK kvs k v))) s' → Q () s') : wpAny (model X.prog X.w) X.A (dictSet D u r) Q E s := by
  obtain rfl : u = Value.ref b := ry
  obtain ⟨z, hd, xs, rel, dd⟩ := dt_of I.hok hD
  have zz : sizeLine = 16777216 := sizeLine_eq
  have hl : (putK kvs k v).length ≤ sizeLine := by have := length_putK kvs k v; omega
  refine wpAny_dictSet_heap (knd := tupleKind (mixKind X.prog X.w)) (k := k) (hsz := by rw [← Paired.length rel]; exact z) (by show X.A.units < cLine; omega) (key_of I.hok hb) dd fun h' dd' hs => h _ ?_
  obtain ⟨q, es, ep, hq, h2, h3, h4, _, h5⟩ := dd'
  have kt : KT (upd H D (.dT (putK kvs k v))) (putK kvs k v) (storedH xs k b r) := (rel.put k hb rv).keeps fun c ys ec => by
    rw [upd_ne (ne_of ec hD (fun z => nomatch z))]
    exact ec
  exact d_write (ob := .dT (putK kvs k v)) I (by rw [hD]; exact True.intro) hs ⟨q, hq⟩ (show ObjOk X.prog X.w (upd H D (.dT (putK kvs k v))) h' D (.dT (putK kvs k v)) from ⟨hl, hd, _, kt, q, es, ep, hq, h2, h3, h4, h5⟩)
section
variable {X : Cx}
def tDcT (wi : TI) (g : TG) (tt : TT) (tk tv : TE) (vs : List Nat) : TE := fun σ H Q => wi σ H fun J H1 => ∀ D, H1 D = none → ∃ W : Nat → Nat → Hp → Prop, (∃ m, W 0 m (upd H1 D (.dT []))) ∧ ∀ i m H, W i m H →
  (J.stop i H ∧ Q (.ref D) H) ∨ (J.go i H ∧ ∃ Nx : Hp → Prop, (∀ H', Nx H' → ∃ m', m' < m ∧ W (i + 1) m' H') ∧ ∀ x H', J.yld i H x H' → g x (wipe σ vs) H' fun σ2 H2 => wipe σ2 vs = wipe σ vs ∧ tt σ2 H2 fun b H3 =>
    if b = true then tk σ2 H3 fun y H4 => tv σ2 H4 fun z H5 => ∃ kvs k b, y = .ref b ∧ H5 b = some (.tup (k.map kV)) ∧ H5 D = some (.dT kvs) ∧ kvs.length < 100000 ∧ Nx (upd H5 D (.dT (putK kvs k z))) else Nx H3)
theorem dcT_core {pins : List (Addr × Obj)} {s : Shared} {σ : L2.St} {H : Hp} {Q : VK} {kx vx tg iter : Expr} {ifs : List Expr} {scope : Scope} {own : List (Str × Nat)} {pos pos' : Pos} {wi : TI} {g : TG} {tt : TT} {tk tv : TE} {use : Option (Value → Sem Unit)} {Qf : Value → Shared → Prop}
    (hu : X.A.units + 70 < cLine) (hc : X.calm = true) (hN : X.N.Nodup) (I : Inv X pins σ H s) (hi : PI X tg iter wi) (ok : BlkOk X.N X.env.scope scope own)
    (hg : ∀ (s : Shared) (H : Hp) (C : Addr) (cl : List (Str × Addr)) (fp : List Addr), PG (X.blk s H scope (compEnvC scope cl C X.env) fp) tg g) (ht : ∀ (s : Shared) (H : Hp) (C : Addr) (cl : List (Str × Addr)) (fp : List Addr), PTs (X.blk s H scope (compEnvC scope cl C X.env) fp) ifs tt)
    (hk : ∀ (s : Shared) (H : Hp) (C : Addr) (cl : List (Str × Addr)) (fp : List Addr), PE (X.blk s H scope (compEnvC scope cl C X.env) fp) kx tk)
    (he : ∀ (s : Shared) (H : Hp) (C : Addr) (cl : List (Str × Addr)) (fp : List Addr), PE (X.blk s H scope (compEnvC scope cl C X.env) fp) vx tv) (hs : ∀ x, foldedSetIterable iter X.env x = pure x)
    (h : tDcT wi g tt tk tv (own.map (·.2)) σ H Q)
    (hRR : ∀ D C s' m H', Inv X pins σ H' s' → Q (.ref D) H' → s'.heap.Ns C m → FpOk X pins H' C → compPost (model X.prog X.w) X.A X.xe use Qf (.ref D) C (.ok .next) s') :
    wpAny (model X.prog X.w) X.A (comprehension (.DictComp kx vx [⟨tg, iter, ifs, 0⟩] scope pos) scope X.env pos' newDict false (eval iter X.env) use) Qf X.xe s := by
  have hfree : ∀ y ∈ scope.names, y.2 = .free → ∃ c, X.env.cells.lookup y.1 = some c := fun y hy e => by
    rcases ok.free y hy e with k | k
    · exact I.ok.has _ (.inl k)
    · exact I.ok.has _ (.inr k)
  refine wpAny_comprehension_free (use := use) rfl hs (closure_ok hfree) ok.kind (fun y hy e => by rw [ok.uniq y hy, e])
    (thn (hi.run pins s σ H _ I h) fun xv s1 hx => thn hx fun itv s2 h2 => ?_)
  obtain ⟨it, fp, tn, J, H2, e, I2, T, st2, f2, q⟩ := h2
  subst e
  refine wpAny_newObj_type (newEnv_comp ?_)
  generalize hD : s2.heap.objs.size = D
  have hDn : H2 D = none := I2.hok.fresh (Nat.le_of_eq hD)
  obtain ⟨W, ⟨m0, w0⟩, turn⟩ := q D hDn
  -- the new dict
  generalize hs3 : ({ s2 with heap := s2.heap.push { cls := .type "dict", data := .dict #[] } } : Shared) = s3
  have I3 : Inv X pins σ (upd H2 D (.dT [])) s3 := by
    rw [← hs3]
    refine I2.laid (t' := s2.toks) (fun b o e => Heap.get?_push_of_some _ e) (Nat.le_of_eq hD) ?_
    rw [← hD]
    exact dt_empty s2.heap I2.big
  have h3 : s3.heap = s2.heap.push { cls := .type "dict", data := .dict #[] } := by rw [← hs3]
  have sz : ∀ b ∈ fp, b < s2.heap.objs.size := fun b hb => by
    obtain ⟨o, e, _⟩ := T.obj _ _ st2 b hb
    exact Heap.lt_size e
  have f3 : ∀ b ∈ fp, FpOk X pins (upd H2 D (.dT [])) b ∧ b < s3.heap.objs.size := fun b hb => by
    have hlt := sz b hb
    refine ⟨⟨?_, (f2 b hb).2⟩, by rw [h3, Heap.size_push]; exact Nat.lt_succ_of_lt hlt⟩
    rw [upd_ne (by rw [← hD]; exact Nat.ne_of_lt hlt)]
    exact (f2 b hb).1
  have st3 : tn 0 s3.heap := T.keep _ _ _ st2 fun b _ o e => by rw [h3]; exact Heap.get?_push_of_some _ e
  have I4 := block_start I3 ok hN f3
  have pg := hg s3 (upd H2 D (.dT [])) s3.heap.objs.size (cellsFrom (s3.heap.objs.size + 1) scope.names (cloFrom X.env.cells scope.names [])) fp
  have pt := ht s3 (upd H2 D (.dT [])) s3.heap.objs.size (cellsFrom (s3.heap.objs.size + 1) scope.names (cloFrom X.env.cells scope.names [])) fp
  have pk := hk s3 (upd H2 D (.dT [])) s3.heap.objs.size (cellsFrom (s3.heap.objs.size + 1) scope.names (cloFrom X.env.cells scope.names [])) fp
  have pe := he s3 (upd H2 D (.dT [])) s3.heap.objs.size (cellsFrom (s3.heap.objs.size + 1) scope.names (cloFrom X.env.cells scope.names [])) fp
  show codeAny _ _ (.compStart (.DictComp kx vx [⟨tg, iter, ifs, 0⟩] scope pos) 0 (.ref it) (.ref D) (compEnvC scope (cellsFrom (s3.heap.objs.size + 1) scope.names (cloFrom X.env.cells scope.names [])) s3.heap.objs.size X.env)) (compPost (model X.prog X.w) X.A X.xe use Qf (.ref D) s3.heap.objs.size) { s3 with heap := pushCells (s3.heap.push { cls := .type "dict", data := .dict #[] }) scope.names }
  have nfp : ∀ b ∈ fp, (upd H2 D (.dT [])) b = none := fun b hb => (f3 b hb).1.1
  generalize hce : compEnvC scope (cellsFrom (s3.heap.objs.size + 1) scope.names (cloFrom X.env.cells scope.names [])) s3.heap.objs.size X.env = ce at I4 pg pt pk pe ⊢
  have cL : ce.locals = s3.heap.objs.size := by subst hce; rfl
  generalize hH3 : upd H2 D (.dT []) = H3 at I3 I4 pg pt pk pe w0 nfp f3
  generalize hs4 : ({ s3 with heap := pushCells (s3.heap.push { cls := .type "dict", data := .dict #[] }) scope.names } : Shared) = s4 at I4 ⊢
  have st4 : tn 0 s4.heap := T.keep _ _ _ st3 fun b _ o e => by rw [← hs4]; exact pushCells_keeps _ _ _ _ (Heap.get?_push_of_some _ e)
  have stat : ∀ {σ' : L2.St} {H' : Hp} {s' : Shared}, Inv (X.blk s3 H3 scope ce fp) [] σ' H' s' → (∀ b ∈ fp, H' b = none) → ∀ b ∈ fp, FpOk (X.blk s3 H3 scope ce fp) [] H' b := fun {σ' H' s'} I' hn b hb =>
    ⟨hn b hb, (I'.ok.exf b hb).1, I'.ok.exfs b hb, .inl hb, fun x c e => (I'.ok.exf b hb).2 x c e, fun p hp => absurd (show p ∈ ([] : List (Addr × Obj)) ++ [] from hp) (by simp)⟩
  have loop : codeAny (model X.prog X.w) X.A (.compLoop (.DictComp kx vx [⟨tg, iter, ifs, 0⟩] scope pos) 0 (.ref it) (.ref D) ce) (compPost (model X.prog X.w) X.A X.xe use Qf (.ref D) s3.heap.objs.size) s4 := by
    refine compLoop_anyD (fun n s' => ∃ i H', Inv (X.blk s3 H3 scope ce fp) [] (wipe σ (own.map (·.2))) H' s' ∧ tn i s'.heap ∧ (∀ b ∈ fp, H' b = none) ∧ W i n H') ?_ m0 ⟨0, H3, I4, st4, nfp, w0⟩
    rintro n s5 ⟨i, H5, I5, st5, n5, w5⟩
    rcases turn i n H5 w5 with ⟨stop, qq⟩ | ⟨go, Nx, hNx, step⟩
    · have td := T.done (X.blk s3 H3 scope ce fp) rfl rfl rfl hc i [] s5 _ H5 (fun _ _ => False) I5 (stat I5 n5) st5 stop
      refine thnF td fun r s6 ⟨hr, I6⟩ => ?_
      subst hr
      -- back in the def's context
      have I7 : Inv X pins σ H5 s6 := I3.call' (ch := fp) I6.os I6.base I6.hok I6.bare fun b hb => ⟨(f3 b hb).1.2.2.2.1, (f3 b hb).1.2.1, (f3 b hb).1.2.2.2.2.1, (f3 b hb).1.2.2.2.2.2⟩
      have nC : H5 s3.heap.objs.size = none := by
        have z : H5 ce.locals = none := I6.free
        rw [cL] at z
        exact z
      obtain ⟨m, hn, _⟩ := I6.loc
      have hn : s6.heap.Ns ce.locals m := hn
      rw [cL] at hn
      exact hRR D s3.heap.objs.size s6 m H5 I7 qq hn (I3.fpOk (Nat.le_refl _) nC)
    · have ti := T.item (X.blk s3 H3 scope ce fp) rfl rfl rfl hc i [] s5 _ H5 (fun _ _ => False) I5 (stat I5 n5) st5 go
      refine thnF ti fun r s6 ⟨u, hr, h6⟩ => ?_
      subst hr
      refine thnF h6 fun _ s7 ⟨x, H7, I7, r7, y7, st7, n7⟩ => ?_
      have I7' := I7.pinned (stat I7 n7) (T.obj _ _ st7)
      refine thnF (pg.run _ s7 _ H7 x u _ I7' r7 (step x H7 y7)) fun _ s8 ⟨σ8, H8, I8, hw8, q8⟩ => ?_
      refine thnF (pt.run _ s8 σ8 H8 _ I8 q8) fun b s9 ⟨H9, I9, q9⟩ => ?_
      -- the turn's end
      have fin : ∀ {s' : Shared} {H' : Hp}, Inv (X.blk s3 H3 scope ce fp) ([] ++ pinsAt fp s7.heap) σ8 H' s' → Nx H' → ∃ m, m < n ∧ ∃ i H', Inv (X.blk s3 H3 scope ce fp) [] (wipe σ (own.map (·.2))) H' s' ∧ tn i s'.heap ∧ (∀ b ∈ fp, H' b = none) ∧ W i m H' := fun {s' H'} I' nx => by
        obtain ⟨m', hm, w'⟩ := hNx H' nx
        have pin' : ∀ b ∈ fp, ∀ o, s7.heap.get? b = some o → s'.heap.get? b = some o ∧ H' b = none := fun b hb o e =>
          let z := I'.pin (b, o) (List.mem_append_right _ (List.mem_append_right _ (mem_pinsAt hb e)))
          ⟨z.1, z.2.1⟩
        have hl : (wipe σ (own.map (·.2))).length = σ8.length := by rw [← hw8, wipe_length]
        refine ⟨m', hm, i + 1, H', (I'.unpinned (pins := [])).weak hl (fun j v e => ?_), T.keep _ _ _ st7 fun b hb o e => (pin' b hb o e).1, fun b hb => ?_, w'⟩
        · rw [← hw8] at e
          exact (wipe_some e).1
        · obtain ⟨o, e, _⟩ := T.obj _ _ st7 b hb
          exact (pin' b hb o e).2
      cases b with
      | false =>
        simp only [Bool.false_eq_true, if_false] at q9 ⊢
        exact fin I9 q9
      | true =>
        simp only [if_true] at q9 ⊢
        refine thnF (pk.run _ s9 σ8 H9 _ I9 q9) fun z s10 ⟨yk, H10, I10, r10, q10⟩ => ?_
        refine thnF (pe.run _ s10 σ8 H10 _ I10 q10) fun z2 s11 ⟨yv, H11, I11, r11, kvs, k, kb, ek, hkb, hD11, hz11, nx⟩ => ?_
        subst ek
        exact d_dictSetT (X := X.blk s3 H3 scope ce fp) hu I11 hD11 hkb hz11 r10 r11 fun s12 I12 => fin I12 nx
  exact codeAny_compStart_dict loop (T.self X.A 0 _ _ _ st4 loop)
/-- as a value -/
theorem pe_dcT {kx vx tg iter : Expr} {ifs : List Expr} {scope : Scope} {own : List (Str × Nat)} {pos : Pos} {wi : TI} {g : TG} {tt : TT} {tk tv : TE} (hu : X.A.units + 70 < cLine) (hc : X.calm = true) (hN : X.N.Nodup) (hi : PI X tg iter wi) (ok : BlkOk X.N X.env.scope scope own)
    (hg : ∀ (s : Shared) (H : Hp) (C : Addr) (cl : List (Str × Addr)) (fp : List Addr), PG (X.blk s H scope (compEnvC scope cl C X.env) fp) tg g) (ht : ∀ (s : Shared) (H : Hp) (C : Addr) (cl : List (Str × Addr)) (fp : List Addr), PTs (X.blk s H scope (compEnvC scope cl C X.env) fp) ifs tt)
    (hk : ∀ (s : Shared) (H : Hp) (C : Addr) (cl : List (Str × Addr)) (fp : List Addr), PE (X.blk s H scope (compEnvC scope cl C X.env) fp) kx tk)
    (he : ∀ (s : Shared) (H : Hp) (C : Addr) (cl : List (Str × Addr)) (fp : List Addr), PE (X.blk s H scope (compEnvC scope cl C X.env) fp) vx tv) (hs : ∀ x, foldedSetIterable iter X.env x = pure x := by intro _; rfl) :
    PE X (.DictComp kx vx [⟨tg, iter, ifs, 0⟩] scope pos) (tDcT wi g tt tk tv (own.map (·.2))) := by
  refine ⟨fun pins s σ H Q I h => ?_⟩
  rw [arm_eval_DictComp]
  refine dcT_core hu hc hN I hi ok hg ht hk he hs h fun D C s' m H' I' q hn f => ⟨m, hn, fun h'' sb => ?_⟩
  obtain ⟨f0, f1, f2, f3, f4, f5⟩ := f
  exact ⟨.ref D, H', I'.turned (t' := s'.toks) (fun b o hb e => (sb.2 b hb).trans e) f0 f1 f3 f4 f5, rfl, q⟩

/-- a new empty dict, told as one of tuples -/
def tReT (t : TE) : TE := fun σ H Q => t σ H fun v H1 => ∃ p, v = .ref p ∧ H1 p = some (.dK []) ∧ Q v (upd H1 p (.dT []))
theorem inv_toT {pins : List (Addr × Obj)} {σ : L2.St} {H : Hp} {s : Shared} {d : Addr} (I : Inv X pins σ H s) (h : H d = some (.dK [])) : Inv X pins σ (upd H d (.dT [])) s := by
  obtain ⟨_, hs, vs, rel, o, es, ep, e1, e2, e3, e4, e5, e6⟩ := (show ObjOk X.prog X.w H s.heap d (.dK []) from I.hok d _ h)
  cases rel
  have ee : es.toList = [] := by
    cases q : es.toList with
    | nil => rfl
    | cons a b => rw [q] at e5; cases e5
  exact I.write (x := d) (e := d) (t' := s.toks) (h' := s.heap) (by rw [h]; exact True.intro) (.inl rfl) (fun b v _ q => q) ⟨o, e1⟩ ⟨Nat.zero_le _, hs, [], .nil, o, es, ep, e1, e2, e3, ee, List.nodup_nil⟩
theorem pe_reT {e : Expr} {t : TE} (h : PE X e t) : PE X e (tReT t) := by
  refine ⟨fun pins s σ H Q I hw => ?_⟩
  refine thn (h.run pins s σ _ _ I hw) fun v s1 ⟨x, H1, I1, r, p, ex, hp, q⟩ => ?_
  exact ⟨x, _, inv_toT I1 hp, r, q⟩
end
end HF
end
section
set_option maxRecDepth 100000
set_option maxHeartbeats 4000000
namespace K86
open PySem PySem.Spec PyProof.Rows L2 HF
open Evl (Ex Ev EvT EvL EvU EvA)
/-- the spots that are bound -/
def spotsOf (os : List (Option Key)) : List Nat := (List.range os.length).filter fun i => (os.getD i none).isSome
def pickO (os : List (Option Key)) (sp : List Nat) : List (Option Key) := sp.map fun i => os.getD i none
section
variable {P : Program} {w : World} {K : PySem.W.Frag} {mg : Str → Option Value} {base : Heap} {f : Addr} {fd : FuncData} {σ : L2.St} {H : Hp} {anyA : Addr}
theorem td_pat {a : Addr} {os : List (Option Key)} (h : H a = some (.tup (os.map optV))) : TD K H (.ref a) (.tuple (os.map optD)) := .tup (.inl h) (tds_opts os)
theorem td_ints {a : Addr} {ns : List Nat} (h : H a = some (.tup (intsOf ns))) : TD K H (.ref a) (.tuple (ns.map fun n : Nat => .int (n : Int))) := .tup (.inl h) (by
  have : ∀ ns : List Nat, TDs K H (intsOf ns) (ns.map fun n : Nat => PyData.int (n : Int)) := fun ns => by
    induction ns with
    | nil => exact .nil
    | cons n ns ih => exact .cons (.int _) ih
  exact this ns)
theorem ints_inv : ∀ {ns : List Nat} {xs : List V}, TDs K H xs (ns.map fun n : Nat => PyData.int (n : Int)) → xs = intsOf ns
  | [], _, h => by cases h; rfl
  | n :: ns, _, h => by
    cases h with
    | cons h hs =>
      rw [h.int_inv, ints_inv hs]
      rfl
theorem eu_tupleInts {te : TE} {ns : List Nat} (h : EvLD K te σ H (ns.map fun n : Nat => .int (n : Int))) : EvU (tCB (fun xs H Q => ∃ p ys, xs = [.ref p] ∧ ((SqL K H p ys ∧ ∀ l, H l = none → Q (.ref l) (upd H l (.tup ys))) ∨ (SqT K H p ys ∧ Q (.ref p) H))) (tCons te tNil)) σ H (intsOf ns) := fun H0 e Q q =>
  h H0 e _ fun p xs H1 np e1 hp ts => ⟨p, xs, rfl, .inl ⟨SqL.of hp, fun l hl => by
    rw [ints_inv ts]
    exact q l _ (Evl.fresh_back e1 hl) (e1.trans (Ex.new hl)) upd_same⟩⟩
theorem at_opt {os : List (Option Key)} {i : Nat} (h : i < os.length) : atI (os.map optD) (i : Int) = some (optD (os.getD i none)) := by
  refine atI_nat ?_
  rw [List.getElem?_map, List.getElem?_eq_getElem h, List.getD_eq_getElem?_getD, List.getElem?_eq_getElem h] <;> rfl
theorem et_notNo {te : TE} {o : Option Key} (h : EvD K te σ H (optD o)) : EvT (tTest (tOp (fun x y H Q => y = .non ∧ Q (.bl (!decide (x = .non))) H) te (tC .non))) σ H o.isSome := by
  have e : (!decide (optV o = V.non)) = o.isSome := by
    cases o with
    | none => rfl
    | some k => cases k <;> rfl
  exact Evl.et_is (et_notN (h.ev fun _ _ t => opt_inv t)) e
def spSpotsOf : Sp := fun vs H Q _ => ∃ a os, vs = [.ref a] ∧ H a = some (.tup (List.map optV os)) ∧ os.length ≤ 1000 ∧ ∀ q H', Ex H H' → H q = none → H' q = some (.tup (intsOf (spotsOf os))) → Q (.ref q) H'
theorem sc_spots_of : FnScope ["pattern", "spot"] ["pattern"] (defScope sspots_of) := C8.fnScope_by (by decide +kernel)
theorem cal_spots_of (F : FnP K "spots_of" "spots_of" sspots_of f fd) (gm : mg "spots_of" = some (.ref f)) (T : Bl mg) : C8.Cal P w K mg base 1 "spots_of" spSpotsOf [] := by
  refine mkCal F gm sc_spots_of (fun _ _ _ _ _ _ us hl => match us, hl with | [_], _ => rfl) (fun vs H Q E h => ?_) (fun cdv A outer s H vs Q E hr h => ?_)
  · obtain ⟨a, os, rfl, _⟩ := h
    rfl
  · obtain ⟨a, os, rfl, ha, hl, k⟩ := h
    refine ⟨_, (pss_one (ps_ret (pe_callTy call_tuple_of (by rfl) T.f_tuple (by decide +kernel) (pa_cons (pe_lc (own := [("spot", 1)]) (g := gName 1) rfl sc_spots_of.nd (pi_range1 rfl T.f_range (pa_cons (pe_callB call_len (by rfl) T.f_len PySem.boot_len (pa_cons (pv 0) pa_nil)) pa_nil)) (blkOk_by (own := [("spot", 1)]) (N := ["pattern", "spot"]) (sc := defScope sspots_of) (by decide +kernel)) (fun _ _ _ _ _ => (pg_name (i := 1) sc_spots_of.nd rfl (Or.inl rfl))) (fun _ _ _ _ _ => (pts_one (pt_cmpR op_notN (pe_ix (r := rIxT K) ix_tup (pv 0) (pv 1) (fun _ _ => rfl)) pe_non (nomark _)))) (fun _ _ _ _ _ => (pv 1))) pa_nil)))), ?_⟩
    have hv := td_pat (K := K) ha
    have key := eld_lcR (K := K) (σ := start ["pattern", "spot"] [.ref a]) (H := H) (n := (os.length : Int)) (ta := tCons (tCB (rLenV K) (tCons (tVar 0) tNil)) tNil) (j := 1) (vs := [1]) (tt := tTest (tOp (fun x y H Q => y = .non ∧ Q (.bl (!decide (x = .non))) H) (tOp (rIxT K) (tVar 0) (tVar 1)) (tC .non))) (te := tVar 1)
      (fun i => (os.getD i none).isSome) (fun i => .int (i : Int)) (Evl.ea_cons (by have := ed_lenT (K := K) (te := tVar 0) (σ := start ["pattern", "spot"] [.ref a]) (H := H) (ed_var rfl hv); rw [List.length_map] at this; exact this.evI) Evl.ea_nil) (by omega) wipe1
      (fun i H1 hi e1 => et_notNo (ed_ix (ed_var rfl (hv.mono_ex e1)) (ed_var rfl (.int _)) (at_opt (by omega)))) (fun i H1 hi e1 _ => ed_var rfl (.int _))
    rw [show ((os.length : Int)).toNat = os.length by omega] at key
    exact Evl.s_retU (eu_tupleInts (ns := spotsOf os) key) fun q H1 nq e1 hq => k q H1 e1 nq hq
def spPicked : Sp := fun vs H Q _ => ∃ a b os sp, vs = [.ref a, .ref b] ∧ H a = some (.tup (List.map optV os)) ∧ H b = some (.tup (intsOf sp)) ∧ (∀ i ∈ sp, i < os.length) ∧ sp.length ≤ 1000 ∧ ∀ q H', Ex H H' → H q = none → H' q = some (.tup (List.map optV (pickO os sp))) → Q (.ref q) H'
theorem sc_picked : FnScope ["row", "spots", "spot"] ["row", "spots"] (defScope spicked) := C8.fnScope_by (by decide +kernel)
theorem cal_picked (F : FnP K "picked" "picked" spicked f fd) (gm : mg "picked" = some (.ref f)) (T : Bl mg) : C8.Cal P w K mg base 1 "picked" spPicked [] := by
  refine mkCal F gm sc_picked (fun _ _ _ _ _ _ us hl => match us, hl with | [_, _], _ => rfl) (fun vs H Q E h => ?_) (fun cdv A outer s H vs Q E hr h => ?_)
  · obtain ⟨a, b, os, sp, rfl, _⟩ := h
    rfl
  · obtain ⟨a, b, os, sp, rfl, ha, hb, hlt, hl, k⟩ := h
    refine ⟨_, (pss_one (ps_ret (pe_callTy call_tuple_of (by rfl) T.f_tuple (by decide +kernel) (pa_cons (pe_lc (own := [("spot", 2)]) (g := gName 2) rfl sc_picked.nd (pi_tup (pv 1)) (blkOk_by (own := [("spot", 2)]) (N := ["row", "spots", "spot"]) (sc := defScope spicked) (by decide +kernel)) (fun _ _ _ _ _ => (pg_name (i := 2) sc_picked.nd rfl (Or.inl rfl))) (fun _ _ _ _ _ => pts_nil) (fun _ _ _ _ _ => (pe_ix (r := rIxT K) ix_tup (pv 0) (pv 2) (fun _ _ => rfl)))) pa_nil)))), ?_⟩
    have hv := td_pat (K := K) ha
    have hs := td_ints (K := K) hb
    have key := eld_lcT (K := K) (σ := start ["row", "spots", "spot"] [.ref a, .ref b]) (H := H) (ts := sp) (enc := fun n : Nat => .int (n : Int)) (j := 2) (vs := [2]) (tl := tVar 1) (tt := tYes) (te := tOp (rIxT K) (tVar 0) (tVar 2)) (fun _ => true) (fun i => optD (os.getD i none)) (ed_var rfl hs) (by omega) wipe1 (fun _ _ _ _ _ _ => et_yes) fun t x H1 ht e1 tx _ => ed_ix (ed_var rfl (hv.mono_ex e1)) (ed_var rfl tx) (at_opt (hlt t ht))
    rw [filter_yes] at key
    exact Evl.s_retU (eu_tupleOf (os := pickO os sp) (by unfold pickO; rw [List.map_map]; exact key)) fun q H1 nq e1 hq => k q H1 e1 nq hq
/-! ### matched -/
def mStep (t : Tm) (k : Key) (b : Bd) : Option Bd := match t with
  | .val c => if c = k then some b else none
  | .var x => match bGet b x with
    | none => some (b ++ [(x, k)])
    | some k' => if k' = k then some b else none
def mStepZ : List (Tm × Key) → Option Bd → Option Bd
  | [], o => o
  | z :: zs, o => mStepZ zs (o.bind (mStep z.1 z.2))
theorem mStepZ_none : ∀ zs : List (Tm × Key), mStepZ zs none = none
  | [] => rfl
  | _ :: zs => mStepZ_none zs
theorem mStepZ_app : ∀ (xs ys : List (Tm × Key)) (o : Option Bd), mStepZ (xs ++ ys) o = mStepZ ys (mStepZ xs o)
  | [], _, _ => rfl
  | _ :: xs, ys, o => mStepZ_app xs ys _
theorem mStep_len {t : Tm} {u : Key} {b b' : Bd} (h : mStep t u b = some b') : b'.length ≤ b.length + 1 := by
  unfold mStep at h
  cases t with
  | val k =>
    simp only at h
    split at h
    · cases h; omega
    · cases h
  | var x =>
    simp only at h
    split at h
    · cases h; simp
    · split at h
      · cases h; omega
      · cases h
theorem mStepZ_len : ∀ (zs : List (Tm × Key)) {b b' : Bd}, mStepZ zs (some b) = some b' → b'.length ≤ b.length + zs.length
  | [], b, b', h => by cases h; simp
  | z :: zs, b, b', h => by
    have h : mStepZ zs (mStep z.1 z.2 b) = some b' := h
    cases e : mStep z.1 z.2 b with
    | none => rw [e, mStepZ_none] at h; cases h
    | some b1 =>
      rw [e] at h
      have h1 := mStepZ_len zs h
      have h2 := mStep_len e
      rw [List.length_cons]
      omega
def BdOk (b : Bd) : Prop := (b.map (·.1)).Nodup
theorem bGet_cons (p : Str × Key) (b : Bd) (x : Str) : bGet (p :: b) x = if p.1 = x then some p.2 else bGet b x := by
  unfold bGet
  by_cases e : p.1 = x <;> simp [e]
theorem bGet_none {b : Bd} {x : Str} (h : bGet b x = none) : x ∉ b.map (·.1) := by
  induction b with
  | nil => exact fun z => by cases z
  | cons p b ih =>
    rw [bGet_cons] at h
    by_cases e : p.1 = x
    · rw [if_pos e] at h; cases h
    · rw [if_neg e] at h
      intro z
      rw [List.map_cons] at z
      rcases List.mem_cons.mp z with z | z
      · exact e z.symm
      · exact ih h z
theorem bd_skip {x : Str} {v : V} : ∀ {b : Bd}, x ∉ b.map (·.1) → (bdKV b).map (fun kv => if kv.1 = Sum.inr x then (kv.1, v) else kv) = bdKV b ∧ ((bdKV b).any fun kv => decide (kv.1 = Sum.inr x)) = false
  | [], _ => ⟨rfl, rfl⟩
  | p :: b, hn => by
    rw [List.map_cons] at hn
    obtain ⟨h1, h2⟩ := bd_skip (x := x) (v := v) (b := b) fun z => hn (List.mem_cons_of_mem _ z)
    have ne : ¬ (Sum.inr p.1 : Key) = Sum.inr x := fun z => hn (List.mem_cons.mpr (.inl (Sum.inr.inj z).symm))
    refine ⟨?_, ?_⟩
    · show (if (Sum.inr p.1 : Key) = Sum.inr x then _ else _) :: List.map _ (bdKV b) = _
      rw [if_neg ne, h1]
      rfl
    · rw [show ((bdKV (p :: b)).any fun kv => decide (kv.1 = Sum.inr x)) = (decide ((Sum.inr p.1 : Key) = Sum.inr x) || (bdKV b).any fun kv => decide (kv.1 = Sum.inr x)) from rfl, h2, decide_eq_false ne, Bool.or_false]
theorem bd_same {x : Str} {k : Key} : ∀ {b : Bd}, BdOk b → bGet b x = some k → (bdKV b).map (fun kv => if kv.1 = Sum.inr x then (kv.1, kV k) else kv) = bdKV b ∧ ((bdKV b).any fun kv => decide (kv.1 = Sum.inr x)) = true
  | [], _, h => by cases h
  | p :: b, nd, h => by
    unfold BdOk at nd
    rw [List.map_cons, List.nodup_cons] at nd
    rw [bGet_cons] at h
    by_cases e : p.1 = x
    · rw [if_pos e] at h
      have hk := Option.some.inj h
      obtain ⟨h1, _⟩ := bd_skip (x := x) (v := kV k) (b := b) (by rw [← e]; exact nd.1)
      refine ⟨?_, ?_⟩
      · show (if (Sum.inr p.1 : Key) = Sum.inr x then ((Sum.inr p.1 : Key), kV k) else (Sum.inr p.1, kV p.2)) :: List.map _ (bdKV b) = _
        rw [if_pos (by rw [e]), h1, ← hk]
        rfl
      · show (decide ((Sum.inr p.1 : Key) = Sum.inr x) || _) = true
        rw [decide_eq_true (by rw [e]), Bool.true_or]
    · rw [if_neg e] at h
      obtain ⟨h1, h2⟩ := bd_same nd.2 h
      have ne : ¬ (Sum.inr p.1 : Key) = Sum.inr x := fun z => e (Sum.inr.inj z)
      refine ⟨?_, ?_⟩
      · show (if (Sum.inr p.1 : Key) = Sum.inr x then _ else _) :: List.map _ (bdKV b) = _
        rw [if_neg ne, h1]
        rfl
      · rw [show ((bdKV (p :: b)).any fun kv => decide (kv.1 = Sum.inr x)) = (decide ((Sum.inr p.1 : Key) = Sum.inr x) || (bdKV b).any fun kv => decide (kv.1 = Sum.inr x)) from rfl, h2, Bool.or_true]
theorem bd_put {x : Str} {k : Key} {b b' : Bd} (nd : BdOk b) (h : mStep (.var x) k b = some b') : putK (bdKV b) (Sum.inr x) (kV k) = bdKV b' ∧ BdOk b' := by
  unfold mStep at h
  simp only at h
  cases e : bGet b x with
  | none =>
    rw [e] at h
    cases h
    obtain ⟨_, h2⟩ := bd_skip (v := kV k) (bGet_none e)
    refine ⟨?_, ?_⟩
    · unfold putK
      rw [if_neg (by rw [h2]; decide)]
      unfold bdKV
      rw [List.map_append] <;> rfl
    · unfold BdOk
      rw [List.map_append, List.nodup_append]
      refine ⟨nd, by simp, fun a ha c hc z => ?_⟩
      have : c = x := by simpa using hc
      exact bGet_none e (by rw [← this, ← z]; exact ha)
  | some k' =>
    rw [e] at h
    simp only at h
    by_cases q : k' = k
    · rw [if_pos q] at h
      cases h
      obtain ⟨h1, h2⟩ := bd_same nd (by rw [e, q] : bGet b x = some k)
      refine ⟨?_, nd⟩
      unfold putK
      rw [if_pos h2, h1]
    · rw [if_neg q] at h
      cases h
def OutB (H : Hp) (v : V) : Option Bd → Prop
  | none => v = .non
  | some b => ∃ q, v = .ref q ∧ H q = some (.dK (bdKV b)) ∧ BdOk b
def spMatched (K : PySem.W.Frag) : Sp := fun vs H Q _ => ∃ v ra p a r b, vs = [v, .ref ra, .ref p] ∧ TD K H v (atD a) ∧ H ra = some (.tup (List.map kV r)) ∧ r.length = a.2.length ∧ r.length ≤ 20 ∧ H p = some (.dK (bdKV b)) ∧ BdOk b ∧ b.length ≤ 900 ∧
  ∀ x H', Ex H H' → OutB H' x (mStepZ (a.2.zip r) (some b)) → Q x H'
theorem sc_matched : FnScope ["atom", "row", "bound", "found", "term", "value"] ["atom", "row", "bound"] (defScope smatched) := C8.fnScope_by (by decide +kernel)
theorem cal_matched (F : FnP K "matched" "matched" smatched f fd) (gm : mg "matched" = some (.ref f)) (T : Bl mg) : C8.Cal P w K mg base 1 "matched" (spMatched K) [] := by
  refine mkCal F gm sc_matched (fun _ _ _ _ _ _ us hl => match us, hl with | [_, _, _], _ => rfl) (fun vs H Q E h => ?_) (fun cdv A outer s H vs Q E hr h => ?_)
  · obtain ⟨v, ra, p, a, r, b, rfl, _⟩ := h
    rfl
  · obtain ⟨v, ra, p, a, r, b, rfl, tv, hra, hl, hl2, hp, nd, hb, k⟩ := h
    have hu := hu_of hr
    refine ⟨_, (pss_cons (ps_set (i := 3) sc_matched.nd rfl (Or.inl rfl) (pe_callTy call_dictD (by rfl) T.f_dict (by decide +kernel) (pa_cons (pv 2) pa_nil)))
      (pss_cons (ps_for PassesOwn.never rfl (RZ.pi_zipA rfl T.f_zip (pa_cons (pe_ix ix_tup (pv 0) pe_int (fun _ _ => rfl)) (pa_cons (pv 1) pa_nil))) (pg_tup rfl (pgs_cons (pg_name (i := 4) sc_matched.nd rfl (Or.inl rfl)) (pgs_cons (pg_name (i := 5) sc_matched.nd rfl (Or.inl rfl)) pgs_nil)))
      (pss_cons (ps_if (PW.pt (pw_and (pt_cmpR op_eq (pe_ix ix_tup (pv 4) pe_int (fun _ _ => rfl)) pe_str (nomark _)) (pw_and1 (pt_cmpR op_ne (pe_ix ix_tup (pv 4) pe_int (fun _ _ => rfl)) (pv 5) (nomark _))))) (pss_one (ps_ret pe_non))
        pss_nil)
        (pss_one (ps_if (pt_cmpR op_eq (pe_ix ix_tup (pv 4) pe_int (fun _ _ => rfl)) pe_str (nomark _)) (pss_cons (ps_if (pt_cmpR op_ne (pe_dget2 hu (pv 3) (pe_ix ix_tup (pv 4) pe_int (fun _ _ => rfl)) (pv 5) ⟨rfl, rfl, rfl, rfl⟩) (pv 5) (nomark _)) (pss_one (ps_ret pe_non))
          pss_nil)
          (pss_one (ps_dput hu (pv 3) (pe_ix ix_tup (pv 4) pe_int (fun _ _ => rfl)) (pv 5) rfl)))
        pss_nil))))
      (pss_one (ps_ret (pv 3))))), ?_⟩
    refine ⟨_, rfl, p, _, rfl, .inl hp, fun q nq => ?_⟩
    have e1 : Ex H (upd H q (.dK (bdKV b))) := Ex.new nq
    have hq : (upd H q (.dK (bdKV b))) q = some (.dK (bdKV b)) := upd_same
    generalize upd H q (.dK (bdKV b)) = H1 at e1 hq ⊢
    obtain ⟨a1, xs, rfl, hx, hxs⟩ := (tv.mono_ex e1).tup_inv
    have l1 : xs.length = 2 := by rw [hxs.length]; rfl
    -- the terms
    obtain ⟨x1, hx1, tx1⟩ := hxs.atI (d := .tuple (a.2.map Tm.d)) at1
    obtain ⟨a2, ts, rfl, hts, tts⟩ := tx1.tup_inv
    have lt : ts.length = a.2.length := by rw [tts.length, List.length_map]
    have ev1 : Ev (tOp (rIxT K) (tVar 0) (tC (.int 1))) ([some (.ref a1), some (.ref ra), some (.ref p), some (.ref q), none, none] : L2.St) H1 (.ref a2) := fun H2 e Q q0 => ⟨_, rfl, a1, xs, 1, _, rfl, rfl, (hx.mono (TX.of_ex e)).sq, hx1, q0 H2 (Ex.refl H2)⟩
    refine q_forZ (a := a2) (b := ra) (ys := r.map kV) ev1 (Evl.ev_var rfl) hts (.inl (e1 _ _ hra)) (by rw [List.length_map]; omega) (fun i σ' H' => ∃ o1 o2 b', σ' = [some (.ref a1), some (.ref ra), some (.ref p), some (.ref q), o1, o2] ∧ mStepZ ((a.2.zip r).take i) (some b) = some b' ∧ H' q = some (.dK (bdKV b')) ∧ BdOk b' ∧ TX H1 H' ∧ Ex H H') (fun H2 e2 => ⟨_, _, b, rfl, rfl, e2 _ _ hq, nd, TX.of_ex e2, e1.trans e2⟩) (fun i σ' H' pv => let ⟨_, _, _, _, _, _, _, t, _⟩ := pv; t) ?_ ?_
    · rintro i x y σ' H' hxi hyi ⟨o1, o2, b', rfl, hm, hq', nd', tx, ex⟩ H2 e2
      obtain ⟨d1, hd1, tx1⟩ := tts.get' hxi
      rw [List.getElem?_map] at hd1 hyi
      obtain ⟨t, hti, rfl⟩ := Option.map_eq_some_iff.mp hd1
      obtain ⟨k0, hki, rfl⟩ := Option.map_eq_some_iff.mp hyi
      have hz : (a.2.zip r)[i]? = some (t, k0) := by rw [List.getElem?_zip_eq_some]; exact ⟨hti, hki⟩
      have tk : mStepZ ((a.2.zip r).take (i + 1)) (some b) = mStep t k0 b' := by
        rw [List.take_add_one, hz, Option.toList_some, mStepZ_app, hm] <;> rfl
      have whole : mStep t k0 b' = none → mStepZ (a.2.zip r) (some b) = none := fun z => by
        rw [← List.take_append_drop (i + 1) (a.2.zip r), mStepZ_app, tk, z, mStepZ_none]
      have tx2 := (tx1.mono (tx.trans (TX.of_ex e2)))
      have ex2 := ex.trans e2
      have lb : b'.length ≤ 950 := by
        have h1 := mStepZ_len _ hm
        have h2 : ((a.2.zip r).take i).length ≤ r.length := by rw [List.length_take, List.length_zip]; omega
        omega
      have zz : sizeLine = 16777216 := sizeLine_eq
      cases t with
      | val c =>
        refine Evl.q_when (b := !decide (c = k0)) (Evl.et_is (Evl.et_and (a := true) (et_eqS (a := "value") (b := "value") (ed_ix (ed_var rfl tx2) ed_int at0) ed_str) fun _ => et_neK (a := c) (b := k0) (ed_ix (ed_var rfl tx2) ed_int at1) (ed_var rfl (TD.key _))) (by rw [Bool.true_and])) (fun hb H3 e3 => ?_) (fun hb H3 e3 => ?_)
        · have qn : ¬ c = k0 := by simpa using hb
          exact Evl.s_ret (Evl.ev_c (v := .non)) fun H4 e4 => k _ H4 ((ex2.trans e3).trans e4) (by
            rw [whole (by unfold mStep; simp only; rw [if_neg qn])]
            exact rfl)
        · have qn : c = k0 := by simpa using hb
          refine Evl.s_when (b := false) (Evl.et_is (et_eqS (a := "value") (b := "var") (ed_ix (ed_var rfl (tx2.mono_ex e3)) ed_int at0) ed_str) (by decide +kernel)) (fun hb => absurd hb (by decide)) (fun _ H4 e4 => ?_)
          have e24 := e2.trans (e3.trans e4)
          exact ⟨_, _, b', rfl, by rw [tk]; unfold mStep; simp only; rw [if_pos qn], e24 _ _ hq', nd', tx.trans (TX.of_ex e24), ex.trans e24⟩
      | var x =>
        refine Evl.q_when (b := false) (Evl.et_is (Evl.et_and (b := false) (et_eqS (a := "var") (b := "value") (ed_ix (ed_var rfl tx2) ed_int at0) ed_str) fun h => absurd h (by decide +kernel)) (by decide +kernel)) (fun hb => absurd hb (by decide)) (fun _ H3 e3 => ?_)
        refine Evl.s_when (b := true) (Evl.et_is (et_eqS (a := "var") (b := "var") (ed_ix (ed_var rfl (tx2.mono_ex e3)) ed_int at0) ed_str) (by decide +kernel)) (fun _ H4 e4 => ?_) (fun hb => absurd hb (by decide))
        have e24 := e2.trans (e3.trans e4)
        have hq4 := e24 _ _ hq'
        have tx4 := tx2.mono_ex (e3.trans e4)
        have look : (valV (bdKV b') (Sum.inr x)).getD (kV k0) = kV ((bGet b' x).getD k0) := by
          rw [bGet_val]
          cases bGet b' x <;> rfl
        have g : EvD K (tDGet2 (tVar 3) (tOp (rIxT K) (tVar 4) (tC (.int 1))) (tVar 5)) ([some (.ref a1), some (.ref ra), some (.ref p), some (.ref q), some _, some (kV k0)] : L2.St) H4 (kD ((bGet b' x).getD k0)) := fun H5 e Q q0 => by
          have := ev_dget2 (K := K) (x := x) (y := kV k0) (to := tVar 3) (tk := tOp (rIxT K) (tVar 4) (tC (.int 1))) (tx := tVar 5) (σ := [some (.ref a1), some (.ref ra), some (.ref p), some (.ref q), some _, some (kV k0)]) (Evl.ev_var rfl) (ed_ix (ed_var rfl tx4) ed_int at1) (Evl.ev_var rfl) hq4
          rw [look] at this
          exact this H5 e Q fun H6 e6 => q0 _ H6 e6 (TD.key _)
        refine Evl.q_when (b := !decide ((bGet b' x).getD k0 = k0)) (et_neK g (ed_var rfl (TD.key _))) (fun hb H5 e5 => ?_) (fun hb H5 e5 => ?_)
        · have qn : ¬ (bGet b' x).getD k0 = k0 := by simpa using hb
          exact Evl.s_ret (Evl.ev_c (v := .non)) fun H6 e6 => k _ H6 (((ex.trans e24).trans e5).trans e6) (by
            rw [whole ?_]
            · exact rfl
            · unfold mStep
              simp only
              cases e : bGet b' x with
              | none => rw [e] at qn; exact absurd rfl qn
              | some k' =>
                rw [e] at qn
                have qn : ¬ k' = k0 := qn
                simp only
                rw [if_neg qn])
        · have qn : (bGet b' x).getD k0 = k0 := by simpa using hb
          have hs : ∃ b2, mStep (.var x) k0 b' = some b2 := by
            unfold mStep
            simp only
            cases e : bGet b' x with
            | none => exact ⟨_, rfl⟩
            | some k' =>
              rw [e] at qn
              have qn : k' = k0 := qn
              simp only
              rw [if_pos qn]
              exact ⟨_, rfl⟩
          obtain ⟨b2, hb2⟩ := hs
          obtain ⟨g1, g2⟩ := bd_put nd' hb2
          refine ⟨_, rfl, _, rfl, ?_⟩
          refine (ed_ix (K := K) (ta := tVar 4) (tb := tC (.int 1)) (σ := [some (.ref a1), some (.ref ra), some (.ref p), some (.ref q), some _, some (kV k0)]) (H := H5) (ed_var rfl (tx4.mono_ex e5)) ed_int at1).go fun x' H6 e6 tx' => ?_
          rw [tx'.str_inv]
          have hq6 := e6 _ _ (e5 _ _ hq4)
          refine ⟨q, _, rfl, DPut.k (k := Sum.inr x) hq6 (by unfold bdKV; rw [List.length_map]; omega), ?_⟩
          have e26 := e24.trans (e5.trans e6)
          refine ⟨_, _, b2, rfl, by rw [tk]; exact hb2, by rw [upd_same, g1], g2, (tx.trans (TX.of_ex e26)).trans (TX.dK hq6), Ex.mut (ex.trans e26) nq⟩
    · rintro σ' H' ⟨o1, o2, b', rfl, hm, hq', nd', tx, ex⟩
      rw [List.take_of_length_le (by rw [List.length_zip]; omega)] at hm
      exact Evl.s_ret (Evl.ev_var rfl) fun H2 e2 => k _ H2 (ex.trans e2) (by rw [hm]; exact ⟨q, rfl, e2 _ _ hq', nd'⟩)
end
end K86
end
section
set_option maxRecDepth 100000
set_option maxHeartbeats 4000000
namespace K86
open PySem PySem.Spec PyProof.Rows L2 HF
open Evl (Ex Ev EvT EvL EvU EvA)
abbrev Row := List Key
instance decMemRow (r : Row) (rows : List Row) : Decidable (r ∈ rows) := decidable_of_iff (rows.any (fun x => decide (x = r)) = true) (by
  rw [List.any_eq_true]
  exact ⟨fun ⟨x, hx, e⟩ => by rw [← of_decide_eq_true e]; exact hx, fun h => ⟨r, h, decide_eq_true rfl⟩⟩)
def mKV (rows : List Row) : List (List Key × V) := rows.map fun r => (r, V.bl true)
def addRow (rows : List Row) (r : Row) : List Row := if r ∈ rows then rows else rows ++ [r]
theorem mKV_val (r : Row) : ∀ rows : List Row, valV (mKV rows) r = if r ∈ rows then some (.bl true) else none
  | [] => rfl
  | x :: rows => by
    by_cases e : x = r
    · rw [show mKV (x :: rows) = (x, V.bl true) :: mKV rows from rfl, valV_pos (by exact e), if_pos (List.mem_cons.mpr (.inl e.symm))]
    · rw [show mKV (x :: rows) = (x, V.bl true) :: mKV rows from rfl, valV_neg (by exact e), mKV_val r rows]
      by_cases h : r ∈ rows
      · rw [if_pos h, if_pos (List.mem_cons_of_mem _ h)]
      · rw [if_neg h, if_neg fun z => (List.mem_cons.mp z).elim (fun q => e q.symm) h]
theorem mKV_any (r : Row) : ∀ rows : List Row, ((mKV rows).any fun kv => decide (kv.1 = r)) = decide (r ∈ rows)
  | [] => by simp [mKV]
  | x :: rows => by
    rw [show mKV (x :: rows) = (x, V.bl true) :: mKV rows from rfl, List.any_cons, mKV_any r rows]
    by_cases e : x = r
    · simp [e]
    · have e' : ¬ r = x := fun z => e z.symm
      simp [e, e']
theorem mKV_put (rows : List Row) (r : Row) : putK (mKV rows) r (.bl true) = mKV (addRow rows r) := by
  unfold putK addRow
  rw [mKV_any]
  by_cases h : r ∈ rows
  · rw [if_pos (decide_eq_true h), if_pos h]
    unfold mKV
    rw [List.map_map]
    refine List.map_congr_left fun x _ => ?_
    show (if x = r then (x, V.bl true) else (x, V.bl true)) = (x, V.bl true)
    split <;> rfl
  · rw [if_neg (by rw [decide_eq_false h]; decide), if_neg h]
    unfold mKV
    rw [List.map_append] <;> rfl
theorem mKV_len (rows : List Row) : (mKV rows).length = rows.length := by unfold mKV; rw [List.length_map]
/-- the classes -/
structure Kl (K : PySem.W.Frag) (CR CD : Addr) : Prop where
  cR : Cls K CR
  nM : NoAttr K CR "members"
  nI : NoAttr K CR "indexes"
  cD : Cls K CD
  nT : NoAttr K CD "tables"
structure RelRec where
  ra : Addr
  dx : Addr
  ma : Addr
  ia : Addr
  rows : List Row
def relF (t : RelRec) : List (Str × V) := [("members", .ref t.ma), ("indexes", .ref t.ia)]
/-- the relation, its index dict aside -/
def RelIs (H : Hp) (CR : Addr) (t : RelRec) : Prop := H t.ra = some (.ins CR t.dx (relF t)) ∧ H t.ma = some (.dT (mKV t.rows))
section
variable {P : Program} {w : World} {K : PySem.W.Frag} {mg : Str → Option Value} {base : Heap} {f : Addr} {fd : FuncData} {σ : L2.St} {H : Hp} {anyA CR CD : Addr}
theorem ev_fld {ta : TE} {a C dx : Addr} {fs : List (Str × V)} {x : Str} {v : V} (h : Ev ta σ H (.ref a)) (ha : H a = some (.ins C dx fs)) (c : Cls K C) (n : NoAttr K C x) (l : fs.lookup x = some v) : Ev (tFld K ta x) σ H v := fun H1 e Q q =>
  h H1 e _ fun H2 e2 => ⟨a, C, dx, fs, v, rfl, e2 _ _ (e _ _ ha), c, n, l, q H2 e2⟩
theorem et_dinT {ty td : TE} {b d : Addr} {kvs : List (List Key × V)} {k : List Key} (hb : Ev ty σ H (.ref b)) (hd : Ev td σ H (.ref d)) (h1 : H b = some (.tup (k.map kV))) (h2 : H d = some (.dT kvs)) : EvT (tTest (tDIn ty td)) σ H (valV kvs k).isSome := fun H1 e Q q =>
  hb H1 e _ fun H2 e2 => hd H2 (e.trans e2) _ fun H3 e3 => ⟨d, _, rfl, DGet.t (e3 _ _ (e2 _ _ (e _ _ h2))) (e3 _ _ (e2 _ _ (e _ _ h1))), _, rfl, q H3 (e2.trans e3)⟩
theorem et_dninK {ty td : TE} {d : Addr} {kvs : List (Key × V)} {k : Key} (hb : Ev ty σ H (kV k)) (hd : Ev td σ H (.ref d)) (h2 : H d = some (.dK kvs)) : EvT (tTest (tDNotIn ty td)) σ H (!(valV kvs k).isSome) := fun H1 e Q q =>
  hb H1 e _ fun H2 e2 => hd H2 (e.trans e2) _ fun H3 e3 => ⟨d, _, rfl, DGet.k (e3 _ _ (e2 _ _ (e _ _ h2))), _, rfl, q H3 (e2.trans e3)⟩
theorem s_dputT {ty td tv : TE} {D : Ends} {d b : Addr} {kvs : List (List Key × V)} {k : List Key} {v : V} (hv : Ev tv σ H v) (hd : Ev td σ H (.ref d)) (hb : Ev ty σ H (.ref b)) (h2 : H d = some (.dT kvs)) (h1 : H b = some (.tup (k.map kV))) (hl : kvs.length < 100000)
    (q : ∀ H1, Ex H H1 → D.nx σ (upd H1 d (.dT (putK kvs k v)))) : sDPut td ty tv D σ H := hv H (Ex.refl H) _ fun H1 e1 => hd H1 e1 _ fun H2 e2 => hb H2 (e1.trans e2) _ fun H3 e3 =>
  have e := (e1.trans e2).trans e3
  ⟨d, _, rfl, DPut.t (e _ _ h2) (e _ _ h1) (by have zz : sizeLine = 16777216 := sizeLine_eq; omega), q H3 e⟩
theorem q_dputT {ty td tv : TE} {D : Ends} {tz : TS} {d b : Addr} {kvs : List (List Key × V)} {k : List Key} {v : V} (hv : Ev tv σ H v) (hd : Ev td σ H (.ref d)) (hb : Ev ty σ H (.ref b)) (h2 : H d = some (.dT kvs)) (h1 : H b = some (.tup (k.map kV))) (hl : kvs.length < 100000)
    (q : ∀ H1, Ex H H1 → tz D σ (upd H1 d (.dT (putK kvs k v)))) : tSeq (sDPut td ty tv) tz D σ H := s_dputT (D := { D with nx := tz D }) hv hd hb h2 h1 hl q
/-- for .. in d.items(), no items -/
theorem s_items0 {td : TE} {g : TG} {tu : TS} {D : Ends} {d : Addr} {o : Obj} (hd : Ev td σ H (.ref d)) (h : H d = some (.frz o (.dK []))) (q : ∀ H1, Ex H H1 → D.nx σ H1) : tFor (iItems td) g tu D σ H := hd H (Ex.refl H) _ fun H1 e1 =>
  ⟨d, o, [], rfl, e1 _ _ h, for_it (n := 0) (walk_items (kvs := [])) (fun i σ' H' => σ' = σ ∧ H' = H1) ⟨rfl, rfl⟩ (fun i σ' H' _ p => by rw [p.2]; exact e1 _ _ h) (fun i x σ' H' H'' hi => absurd hi (Nat.not_lt_zero _)) fun σ' H' p => by
    rw [p.1, p.2]
    exact q H1 e1⟩
/-- the loop over the items of the empty index dict -/
theorem q_idx0 {td : TE} {g : TG} {tu tz : TS} {D : Ends} {d : Addr} (hd : ∀ od, Ev td σ (upd H d (.frz od (.dK []))) (.ref d)) (h : H d = some (IdxO P w d [])) (q : ∀ H1, Ex H H1 → tz D σ H1) : tSeq (tAsK P w (tLock (tFor (iItems td) g tu))) tz D σ H := by
  refine ⟨d, h, d, .dK [], upd_same, True.intro, fun od => ?_⟩
  rw [upd_upd]
  refine s_items0 (hd od) upd_same fun H1 e1 => ⟨e1 _ _ upd_same, upd_same, ?_⟩
  rw [upd_upd]
  refine q _ fun a o ha => ?_
  by_cases z : a = d
  · rw [z] at ha ⊢
    rw [upd_same, ← ha, h]
  · rw [upd_ne z]
    exact e1 _ _ (by rw [upd_ne z]; exact ha)
theorem pe_mk0 {X : Cx} {k j : Nat} {C : Addr} {x : Str} {sp : Sp} {dvs : List V} {p pos : Pos} (c : C8.Mak X.prog X.w X.K X.mg X.base k x C sp dvs) (hr : Room j X.A) (hk : k + 1 ≤ j) (hg : Gl X x) (hdb : (x == ("__debug__" : Str)) = false := by decide) : PE X (.Call (.Name x p) [] [] pos) (tMake C sp dvs E0 tNil) := by
  obtain ⟨f, fd, ps, ds, M, F, hm, b, d⟩ := c.ex
  exact pe_make0 M F (hr.mono hk) hg hm b d pass0 hdb
/-! ### Relation.__init__ -/
def spRelInit (P : Program) (w : World) (CR rT : Addr) : Sp := fun vs H Q _ => ∃ x dx, vs = [.ref x, .ref rT] ∧ H x = some (.ins CR dx []) ∧
  ∀ ma ia H', (∀ a o, a ≠ x → H a = some o → H' a = some o) → H ma = none → H ia = none → ma ≠ ia → H' x = some (.ins CR dx [("members", .ref ma), ("indexes", .ref ia)]) → H' ma = some (.dT []) → H' ia = some (IdxO P w ia []) → Q .non H'
theorem sc_Relation___init__ : FnScope ["self", "rows", "row"] ["self", "rows"] (defScope sRelation___init__) := C8.fnScope_by (by decide +kernel)
theorem mak_Relation {rT : Addr} (F : FunD K "__init__" "Relation.__init__" (defArgs sRelation___init__) (defBody sRelation___init__) (defScope sRelation___init__) [.ref rT] [] f fd) (M : Mk K CR f) (hm : mg "Relation" = some (.ref CR)) (hT : WT K rT []) (L : Kl K CR CD) : C8.Mak P w K mg base 1 "Relation" CR (spRelInit P w CR rT) [.ref rT] := by
  obtain ⟨ds, hds, hbd⟩ := F.binds1 (ps := ["self", "rows"]) 1 0 (by simp) (by simp) (fun T kV doc pm an cdv ct us its h1 h2 => by
    match us, its, h1, h2 with
    | [_], [_], _, _ => exact ⟨_, rfl, rfl⟩)
  refine ⟨f, fd, ["self", "rows"], ds, M, F.ok sc_Relation___init__ (fun vs H Q E h => ?_) fun cdv A outer s H vs Q E hr h => ?_, hm, hbd, by simpa using hds⟩
  · obtain ⟨x, dx, rfl, _⟩ := h
    rfl
  · obtain ⟨x, dx, rfl, hx, k⟩ := h
    have main : ∃ t, PSs (cxOf CX0 P w K mg base ["self", "rows", "row"] "Relation.__init__" (defScope sRelation___init__) f cdv A outer s H E).nox (defBody sRelation___init__) t ∧ t { nx := fun _ H' => Q .non H', rt := Q } (start ["self", "rows", "row"] [.ref x, .ref rT]) H := by
      refine ⟨_, (pss_cons (ps_fld (pv 0) (pe_reT (pe_dc (own := [("row", 2)]) (g := gName 2) rfl sc_Relation___init__.nd (pi_tup (pv 1)) (blkOk_by (own := [("row", 2)]) (N := ["self", "rows", "row"]) (sc := defScope sRelation___init__) (by decide +kernel)) (fun _ _ _ _ _ => (pg_name (i := 2) sc_Relation___init__.nd rfl (Or.inl rfl))) (fun _ _ _ _ _ => pts_nil) (fun _ _ _ _ _ => (pv 2)) (fun _ _ _ _ _ => pe_bl))) rfl)
        (pss_one (ps_fld (pv 0) pe_inew rfl))), ?_⟩
      refine ⟨_, rfl, rT, rfl, ⟨[], (show TupA K H rT [] from .inr hT).sq⟩, fun D hD => ?_⟩
      refine dc_tup (xs := []) (fun i H' => H' = upd H D (.dK [])) rfl (fun i H' _ p => (show TupA K H' rT [] from .inr hT).sq) (fun i x H' hi _ => by simp at hi) fun H' p => ?_
      subst p
      refine ⟨D, rfl, upd_same, ?_⟩
      rw [upd_upd]
      have nx : x ≠ D := ne_of_none hx hD
      refine ⟨_, rfl, x, CR, dx, [], rfl, by rw [upd_ne nx]; exact hx, L.cR, L.nM, by decide, ?_⟩
      show ∀ ia, _ = none → _
      intro ia hia
      have hx1 : (upd (upd H D (.dT [])) x (.ins CR dx (putF "members" (.ref D) []))) x = some (.ins CR dx [("members", .ref D)]) := upd_same
      have hD1 : (upd (upd H D (.dT [])) x (.ins CR dx (putF "members" (.ref D) []))) D = some (.dT []) := by rw [upd_ne nx.symm, upd_same]
      have hk1 : ∀ a o, a ≠ x → H a = some o → (upd (upd H D (.dT [])) x (.ins CR dx (putF "members" (.ref D) []))) a = some o := fun a o ha h => by rw [upd_ne ha, upd_ne (ne_of_none h hD)]; exact h
      generalize upd (upd H D (.dT [])) x (.ins CR dx (putF "members" (.ref D) [])) = H1 at hx1 hD1 hk1 hia ⊢
      have ix : x ≠ ia := ne_of_none hx1 hia
      have iD : D ≠ ia := ne_of_none hD1 hia
      refine ⟨_, rfl, x, CR, dx, [("members", .ref D)], rfl, by rw [upd_ne ix]; exact hx1, L.cR, L.nI, by simp, ?_⟩
      have hia0 : H ia = none := by
        cases q : H ia with
        | none => rfl
        | some o =>
          rw [hk1 ia o ix.symm q] at hia
          cases hia
      refine k D ia _ (fun a o ha h => ?_) hD hia0 iD ?_ ?_ ?_
      · rw [upd_ne ha, upd_ne (ne_of_none (hk1 a o ha h) hia)]
        exact hk1 a o ha h
      · rw [upd_same]
        rfl
      · rw [upd_ne nx.symm, upd_ne iD]
        exact hD1
      · rw [upd_ne ix.symm, upd_same]
        rfl
    obtain ⟨t, h1, h2⟩ := main
    exact ⟨t, h1.nox, h2⟩
/-! ### Relation.add -/
def spRelAdd (P : Program) (w : World) (CR : Addr) : Sp := fun vs H Q _ => ∃ t b r, vs = [.ref t.ra, .ref b] ∧ RelIs H CR t ∧ H t.ia = some (IdxO P w t.ia []) ∧ H b = some (.tup (List.map kV r)) ∧ t.rows.length ≤ 1000 ∧
  ∀ v H', (∀ a o, a ≠ t.ma → H a = some o → H' a = some o) → H' t.ma = some (.dT (mKV (addRow t.rows r))) → Q v H'
theorem sc_Relation_add : FnScope ["self", "row", "index", "spots", "width", "rows"] ["self", "row"] (defScope sRelation_add) := C8.fnScope_by (by decide +kernel)
theorem met_Relation_add (F : FnP K "add" "Relation.add" sRelation_add f fd) (me : Meth K CR "add" f) (L : Kl K CR CD) : C8.Met P w K mg base 1 CR "add" (spRelAdd P w CR) [] := by
  refine mkMet L.cR me F sc_Relation_add (fun _ _ _ _ _ _ us hl => match us, hl with | [_, _], _ => rfl) (fun vs H Q E h => ?_) (fun cdv A outer s H vs Q E hr h => ?_)
  · obtain ⟨t, b, r, rfl, _⟩ := h
    rfl
  · obtain ⟨t, b, r, rfl, ⟨h1, h2⟩, h3, hb, hl, k⟩ := h
    have hu := hu_of hr
    refine ⟨_, (pss_cons (ps_if (pt_cmp (pc_din hu (pv 1) (pe_fld (pv 0) rfl))) (pss_one (ps_ret pe_bl)) pss_nil)
      (pss_cons (ps_dput hu (pe_fld (pv 0) rfl) (pv 1) pe_bl rfl)
      (pss_cons (ps_asK (ps_lock (ps_for PassesOwn.never rfl (pi_items (pe_fld (pv 0) rfl)) (pg_tup rfl (pgs_cons (pg_tup rfl (pgs_cons (pg_name (i := 3) sc_Relation_add.nd rfl (Or.inl rfl)) (pgs_cons (pg_name (i := 4) sc_Relation_add.nd rfl (Or.inl rfl)) pgs_nil))) (pgs_cons (pg_name (i := 2) sc_Relation_add.nd rfl (Or.inl rfl)) pgs_nil))) pss_never)))
      (pss_one (ps_ret pe_bl))))), ?_⟩
    have fM : ∀ {σ : L2.St} {H1 : Hp}, σ[0]? = some (some (.ref t.ra)) → H1 t.ra = some (.ins CR t.dx (relF t)) → Ev (tFld K (tVar 0) "members") σ H1 (.ref t.ma) := fun hs h => ev_fld (Evl.ev_var hs) h L.cR L.nM rfl
    have fI : ∀ {σ : L2.St} {H1 : Hp}, σ[0]? = some (some (.ref t.ra)) → H1 t.ra = some (.ins CR t.dx (relF t)) → Ev (tFld K (tVar 0) "indexes") σ H1 (.ref t.ia) := fun hs h => ev_fld (Evl.ev_var hs) h L.cR L.nI rfl
    refine Evl.q_when (b := (valV (mKV t.rows) r).isSome) (et_dinT (Evl.ev_var rfl) (fM rfl h1) hb h2) (fun hb1 H1 e1 => ?_) (fun hb1 H1 e1 => ?_)
    · have hr : r ∈ t.rows := by
        rw [mKV_val] at hb1
        by_cases z : r ∈ t.rows
        · exact z
        · rw [if_neg z] at hb1; cases hb1
      exact Evl.s_ret (Evl.ev_c (v := .bl false)) fun H2 e2 => k _ H2 (fun a o _ h => (e1.trans e2) _ _ h) (by
        unfold addRow
        rw [if_pos hr]
        exact (e1.trans e2) _ _ h2)
    · have d1 : t.ia ≠ t.ma := ne_of h3 h2 fun z => by cases z
      have d2 : t.ra ≠ t.ma := ne_of h1 h2 fun z => by cases z
      have d3 : t.ra ≠ t.ia := ne_of h1 h3 fun z => by cases z
      refine q_dputT (kvs := mKV t.rows) (k := r) (v := .bl true) Evl.ev_c (fM rfl (e1 _ _ h1)) (Evl.ev_var rfl) (e1 _ _ h2) (e1 _ _ hb) (by rw [mKV_len]; omega) fun H2 e2 => ?_
      have e12 := e1.trans e2
      rw [mKV_put]
      have g1 : (upd H2 t.ma (.dT (mKV (addRow t.rows r)))) t.ra = some (.ins CR t.dx (relF t)) := by rw [upd_ne d2]; exact e12 _ _ h1
      have g2 : (upd H2 t.ma (.dT (mKV (addRow t.rows r)))) t.ma = some (.dT (mKV (addRow t.rows r))) := upd_same
      have g3 : (upd H2 t.ma (.dT (mKV (addRow t.rows r)))) t.ia = some (IdxO P w t.ia []) := by rw [upd_ne d1]; exact e12 _ _ h3
      have g4 : ∀ a o, a ≠ t.ma → H a = some o → (upd H2 t.ma (.dT (mKV (addRow t.rows r)))) a = some o := fun a o ha h => by rw [upd_ne ha]; exact e12 _ _ h
      generalize upd H2 t.ma (.dT (mKV (addRow t.rows r))) = H3 at g1 g2 g3 g4 ⊢
      refine q_idx0 (d := t.ia) (fun od => fI rfl (by rw [upd_ne d3]; exact g1)) g3 fun H4 e4 => ?_
      exact Evl.s_ret (Evl.ev_c (v := .bl true)) fun H5 e5 => k _ H5 (fun a o ha h => (e4.trans e5) _ _ (g4 a o ha h)) ((e4.trans e5) _ _ g2)
end
end K86
end
section
set_option maxRecDepth 100000
set_option maxHeartbeats 4000000
namespace K86
open PySem PySem.Spec PyProof.Rows L2 HF
open Evl (Ex Ev EvT EvL EvU EvA)
/-! ### the index of a relation -/
def keyOf (os : List (Option Key)) (sp : List Nat) : List Key := sp.map fun i => (os.getD i none).getD (.inl 0)
def rowKey (r : Row) (sp : List Nat) : List Key := keyOf (r.map some) sp
def grpT (k : IK) (key : List Key) (r : Row) : Bool := decide (r.length = k.2) && decide (rowKey r k.1 = key)
def grp (rows : List Row) (k : IK) (key : List Key) : List Row := rows.filter (grpT k key)
abbrev GL := List (List Key × Addr)
def gKV (G : GL) : List (List Key × V) := G.map fun g => (g.1, V.ref g.2)
def GrpAt (H : Hp) (d : Addr) (k : IK) (rows : List Row) : Prop := ∃ G : GL, H d = some (.dT (gKV G)) ∧ (∀ key, valV (gKV G) key = none → grp rows k key = []) ∧
  (∀ key v, valV (gKV G) key = some v → ∃ ra, v = .ref ra ∧ ra ≠ d ∧ H ra = some (.dT (mKV (grp rows k key)))) ∧ (∀ k1 k2 v, valV (gKV G) k1 = some v → valV (gKV G) k2 = some v → k1 = k2)
theorem GrpAt.mono {H H' : Hp} (h : ∀ a kvs, H a = some (.dT kvs) → H' a = some (.dT kvs)) {d : Addr} {k : IK} {rows : List Row} (g : GrpAt H d k rows) : GrpAt H' d k rows := by
  obtain ⟨G, h1, h2, h3, h4⟩ := g
  refine ⟨G, h _ _ h1, h2, fun key v e => ?_, h4⟩
  obtain ⟨ra, r1, r2, r3⟩ := h3 key v e
  exact ⟨ra, r1, r2, h _ _ r3⟩
theorem pick_key {os : List (Option Key)} : ∀ {sp : List Nat}, (∀ i ∈ sp, (os.getD i none).isSome = true) → (pickO os sp).map optV = (keyOf os sp).map kV
  | [], _ => rfl
  | i :: sp, h => by
    have ih := pick_key (os := os) (sp := sp) fun j hj => h j (List.mem_cons_of_mem _ hj)
    have hi := h i (List.mem_cons_self ..)
    unfold pickO keyOf at ih ⊢
    rw [List.map_cons, List.map_cons, List.map_cons, List.map_cons, ih]
    congr 1
    cases e : os.getD i none with
    | none => rw [e] at hi; cases hi
    | some k => rfl
theorem row_some {r : Row} {i : Nat} (h : i < r.length) : ((r.map some).getD i none).isSome = true := by
  rw [List.getD_eq_getElem?_getD, List.getElem?_map, List.getElem?_eq_getElem h] <;> rfl
theorem row_opt (r : Row) : (r.map some).map optV = r.map kV := by
  rw [List.map_map]
  rfl
section
variable (P : Program) (w : World)
def IdxOk (H : Hp) (ia : Addr) (rows : List Row) (c : Nat) : Prop := ∃ L, IdxIs P w H ia L ∧ (∀ e ∈ L, GrpAt H e.2.2 e.1 rows) ∧ L.length ≤ c
end
def Fr1 (ia : Addr) (H H' : Hp) : Prop := ∀ a o, H a = some o → a ≠ ia → H' a = some o
theorem iGet_mem {L : List IEnt} {k : IK} {v : Addr} (h : iGet L k = some v) : ∃ ka, (k, ka, v) ∈ L := by
  induction L with
  | nil => cases h
  | cons e L ih =>
    rw [iGet_cons] at h
    by_cases z : e.1 = k
    · rw [if_pos z] at h
      refine ⟨e.2.1, List.mem_cons.mpr (.inl ?_)⟩
      rw [← z, ← Option.some.inj h]
    · rw [if_neg z] at h
      obtain ⟨ka, hk⟩ := ih h
      exact ⟨ka, List.mem_cons_of_mem _ hk⟩
theorem iGet_app {L : List IEnt} {k : IK} {ka v : Addr} (h : iGet L k = none) : iGet (L ++ [(k, ka, v)]) k = some v := by
  induction L with
  | nil =>
    show iGet [(k, ka, v)] k = some v
    rw [iGet_cons, if_pos rfl]
  | cons e L ih =>
    rw [iGet_cons] at h
    show iGet (e :: (L ++ [(k, ka, v)])) k = some v
    rw [iGet_cons]
    by_cases z : e.1 = k
    · rw [if_pos z] at h; cases h
    · rw [if_neg z] at h ⊢
      exact ih h
theorem grp_step {rows : List Row} {i : Nat} {r : Row} (h : rows[i]? = some r) (k : IK) (key : List Key) : grp (rows.take (i + 1)) k key = grp (rows.take i) k key ++ if grpT k key r then [r] else [] := by
  unfold grp
  rw [List.take_add_one, h, Option.toList_some, List.filter_append]
  congr 1
  by_cases e : grpT k key r = true
  · rw [if_pos e, List.filter_cons, if_pos e] <;> rfl
  · rw [if_neg e, List.filter_cons, if_neg e] <;> rfl
theorem not_before {α : Type} {xs : List α} (nd : xs.Nodup) {i : Nat} {x : α} (h : xs[i]? = some x) : x ∉ xs.take i := by
  intro z
  obtain ⟨j, hj⟩ := List.getElem?_of_mem z
  have hji : j < i := by
    have := (List.getElem?_eq_some_iff.mp hj).1
    rw [List.length_take] at this
    omega
  rw [List.getElem?_take_of_lt hji] at hj
  have := (List.getElem?_inj (List.getElem?_eq_some_iff.mp hj).1 nd).mp (hj.trans h.symm)
  omega
theorem val_put_same {κ : Type} [DecidableEq κ] {kvs : List (κ × V)} {k : κ} {v : V} (h : valV kvs k = none) : valV (putK kvs k v) k = some v ∧ ∀ j, j ≠ k → valV (putK kvs k v) j = valV kvs j := by
  have no : (kvs.any fun kv => decide (kv.1 = k)) = false := by
    rw [valV_any, h]
    rfl
  unfold putK
  rw [if_neg (by rw [no]; decide)]
  clear no
  induction kvs with
  | nil =>
    refine ⟨valV_pos rfl, fun j hj => ?_⟩
    show valV [(k, v)] j = _
    rw [valV_neg (fun z => hj z.symm)]
  | cons p kvs ih =>
    by_cases e : p.1 = k
    · rw [valV_pos e] at h
      cases h
    · rw [valV_neg e] at h
      obtain ⟨h1, h2⟩ := ih h
      refine ⟨?_, fun j hj => ?_⟩
      · show valV (p :: (kvs ++ [(k, v)])) k = _
        rw [valV_neg e]
        exact h1
      · show valV (p :: (kvs ++ [(k, v)])) j = _
        by_cases e2 : p.1 = j
        · rw [valV_pos e2, valV_pos e2]
        · rw [valV_neg e2, valV_neg e2]
          exact h2 j hj
theorem gput {G : GL} {key : List Key} {p : Addr} (h : valV (gKV G) key = none) : putK (gKV G) key (.ref p) = gKV (G ++ [(key, p)]) := by
  have no : ((gKV G).any fun kv => decide (kv.1 = key)) = false := by
    rw [valV_any, h]
    rfl
  unfold putK
  rw [if_neg (by rw [no]; decide)]
  unfold gKV
  rw [List.map_append] <;> rfl
structure GrpG (H : Hp) (d : Addr) (k : IK) (rows : List Row) (G : GL) : Prop where
  at_ : H d = some (.dT (gKV G))
  no : ∀ key, valV (gKV G) key = none → grp rows k key = []
  yes : ∀ key v, valV (gKV G) key = some v → ∃ ra, v = .ref ra ∧ ra ≠ d ∧ H ra = some (.dT (mKV (grp rows k key)))
  inj : ∀ k1 k2 v, valV (gKV G) k1 = some v → valV (gKV G) k2 = some v → k1 = k2
theorem GrpG.mono {H H' : Hp} (h : ∀ a kvs, H a = some (.dT kvs) → H' a = some (.dT kvs)) {d : Addr} {k : IK} {rows : List Row} {G : GL} (g : GrpG H d k rows G) : GrpG H' d k rows G :=
  ⟨h _ _ g.at_, g.no, fun key v e => let ⟨ra, r1, r2, r3⟩ := g.yes key v e; ⟨ra, r1, r2, h _ _ r3⟩, g.inj⟩
theorem grpT_ne {k : IK} {key key2 : List Key} {r : Row} (h : grpT k key r = true) (n : key2 ≠ key) : grpT k key2 r = false := by
  unfold grpT at h ⊢
  rw [Bool.and_eq_true] at h
  have e := of_decide_eq_true h.2
  rw [decide_eq_false (p := rowKey r k.1 = key2) (fun z => n (z.symm.trans e)), Bool.and_false]
theorem GrpG.old {H : Hp} {d ra : Addr} {k : IK} {rows rows' : List Row} {G : GL} {key : List Key} {r : Row} (g : GrpG H d k rows G) (hv : valV (gKV G) key = some (.ref ra)) (hr : grpT k key r = true) (hg : ∀ key2, grp rows' k key2 = grp rows k key2 ++ if grpT k key2 r then [r] else []) :
    GrpG (upd H ra (.dT (mKV (grp rows k key ++ [r])))) d k rows' G := by
  obtain ⟨ra', e, nd, hra⟩ := g.yes key _ hv
  cases e
  refine ⟨by rw [upd_ne nd.symm]; exact g.at_, fun key2 h2 => ?_, fun key2 v2 h2 => ?_, g.inj⟩
  · have ne : key2 ≠ key := fun z => by rw [z, hv] at h2; cases h2
    rw [hg, g.no key2 h2, grpT_ne hr ne]
    rfl
  · obtain ⟨ra2, e2, nd2, hra2⟩ := g.yes key2 v2 h2
    refine ⟨ra2, e2, nd2, ?_⟩
    by_cases z : key2 = key
    · subst z
      rw [hv] at h2
      cases h2
      cases e2
      rw [upd_same, hg, hr]
      rfl
    · have ne : ra2 ≠ ra := fun q => z (g.inj key2 key (.ref ra) (by rw [h2, e2, q]) hv)
      rw [upd_ne ne, hg, grpT_ne hr z]
      simpa using hra2
theorem GrpG.new {H H1 : Hp} {d p : Addr} {k : IK} {rows rows' : List Row} {G : GL} {key : List Key} {r : Row} (g : GrpG H d k rows G) (hv : valV (gKV G) key = none) (hr : grpT k key r = true) (hg : ∀ key2, grp rows' k key2 = grp rows k key2 ++ if grpT k key2 r then [r] else [])
    (keep : ∀ a o, a ≠ d → H a = some o → H1 a = some o) (np : H p = none) (pd : p ≠ d) (hd : H1 d = some (.dT (gKV (G ++ [(key, p)])))) : GrpG (upd H1 p (.dT (mKV [r]))) d k rows' (G ++ [(key, p)]) := by
  have pe := gput (p := p) hv
  obtain ⟨q1, q2⟩ := val_put_same (v := .ref p) hv
  rw [pe] at q1 q2
  have fresh : ∀ key2 v2, valV (gKV G) key2 = some v2 → v2 ≠ .ref p := fun key2 v2 h2 z => by
    obtain ⟨ra2, e2, nd2, hra2⟩ := g.yes key2 v2 h2
    rw [e2] at z
    cases z
    rw [np] at hra2
    cases hra2
  refine ⟨by rw [upd_ne pd.symm]; exact hd, fun key2 h2 => ?_, fun key2 v2 h2 => ?_, fun k1 k2 v h1 h2 => ?_⟩
  · have ne : key2 ≠ key := fun z => by rw [z, q1] at h2; cases h2
    rw [q2 key2 ne] at h2
    rw [hg, g.no key2 h2, grpT_ne hr ne]
    rfl
  · by_cases z : key2 = key
    · subst z
      rw [q1] at h2
      cases h2
      refine ⟨p, rfl, pd, ?_⟩
      rw [upd_same, hg, hr, g.no key2 hv]
      rfl
    · rw [q2 key2 z] at h2
      obtain ⟨ra2, e2, nd2, hra2⟩ := g.yes key2 v2 h2
      have ne : ra2 ≠ p := fun q => by rw [q, np] at hra2; cases hra2
      refine ⟨ra2, e2, nd2, ?_⟩
      rw [upd_ne ne, hg, grpT_ne hr z]
      simpa using keep _ _ nd2 hra2
  · by_cases z1 : k1 = key
    · by_cases z2 : k2 = key
      · rw [z1, z2]
      · rw [z1, q1] at h1
        rw [q2 k2 z2] at h2
        exact absurd (Option.some.inj h1).symm (fresh k2 v h2)
    · by_cases z2 : k2 = key
      · rw [z2, q1] at h2
        rw [q2 k1 z1] at h1
        exact absurd (Option.some.inj h2).symm (fresh k1 v h1)
      · rw [q2 k1 z1] at h1
        rw [q2 k2 z2] at h2
        exact g.inj k1 k2 v h1 h2
section
variable {P : Program} {w : World} {K : PySem.W.Frag} {mg : Str → Option Value} {base : Heap} {f : Addr} {fd : FuncData} {σ : L2.St} {H : Hp} {anyA CR CD : Addr}
theorem eu_picked {ta tb : TE} {a b : Addr} {os : List (Option Key)} {sp : List Nat} {E : XK} (ha : Ev ta σ H (.ref a)) (hb : Ev tb σ H (.ref b)) (h1 : H a = some (.tup (os.map optV))) (h2 : H b = some (.tup (intsOf sp))) (hs : ∀ i ∈ sp, i < os.length ∧ (os.getD i none).isSome = true) (hl : sp.length ≤ 1000) :
    EvU (tCall spPicked [] E (tCons ta (tCons tb tNil))) σ H ((keyOf os sp).map kV) := fun H1 e Q q => ha H1 e _ fun H2 e2 => hb H2 (e.trans e2) _ fun H3 e3 =>
  have e13 := (e.trans e2).trans e3
  ⟨a, b, os, sp, rfl, e13 _ _ h1, e13 _ _ h2, fun i hi => (hs i hi).1, hl, fun p H4 e4 np hp => q p H4 (Evl.fresh_back (e2.trans e3) np) ((e2.trans e3).trans e4) (by rw [hp, pick_key fun i hi => (hs i hi).2])⟩
theorem q_asgSetT {td ty : TE} {D : Ends} {tz : TS} {i : Nat} {d : Addr} {kvs : List (List Key × V)} {key : List Key} (hd : Ev td σ H (.ref d)) (hty : EvU ty σ H (key.map kV)) (h : H d = some (.dT kvs)) (hl : kvs.length < 100000)
    (q1 : ∀ v H1, valV kvs key = some v → Ex H H1 → tz D (σ.set i (some v)) H1) (q2 : ∀ p H1, valV kvs key = none → (∀ a o, a ≠ d → H a = some o → H1 a = some o) → H p = none → p ≠ d → H1 p = some (.dT []) → H1 d = some (.dT (putK kvs key (.ref p))) → tz D (σ.set i (some (.ref p))) H1) :
    tSeq (tAsg (tDSetT td ty tDNewT) (gName i)) tz D σ H := hd H (Ex.refl H) _ fun H1 e1 => ⟨d, rfl, .inr ⟨_, .inl (e1 _ _ h)⟩, hty H1 e1 _ fun b H2 nb e2 hb p np => by
    have e12 := e1.trans e2
    have pd : p ≠ d := (ne_of_none (e12 _ _ h) np).symm
    refine ⟨kvs, key, b, by rw [upd_ne pd.symm]; exact e12 _ _ h, rfl, by rw [upd_ne (ne_of_none hb np)]; exact hb, hl, fun v hv => q1 v _ hv (e12.trans (Ex.new np)), fun hn => ?_⟩
    refine q2 p _ hn (fun a o ha e => ?_) (Evl.fresh_back e12 np) pd (by rw [upd_ne pd, upd_same]) upd_same
    rw [upd_ne ha]
    exact (e12.trans (Ex.new np)) _ _ e⟩
theorem et_inot {tx ty : TE} {a : Addr} {L : List IEnt} {p : Addr} {k : IK} (hx : EvU tx σ H [.ref p, .int (k.2 : Int)]) (hy : Ev ty σ H (.ref a)) (hp : H p = some (.tup (intsOf k.1))) (hi : IdxIs P w H a L) : EvT (tTest (tOp (rINot P w) tx ty)) σ H (!(iGet L k).isSome) := fun H1 e Q q =>
  hx H1 e _ fun ka H2 nk e2 hk => hy H2 (e.trans e2) _ fun H3 e3 =>
    have e13 := (e.trans e2).trans e3
    ⟨ka, a, L, k, rfl, rfl, ⟨e13 _ _ hi.1, fun en hen => (hi.2 en hen).mono (TX.of_ex e13)⟩, ⟨p, e3 _ _ hk, e13 _ _ hp⟩, _, rfl, q H3 (e2.trans e3)⟩
theorem eu_two {ta tb : TE} {x y : V} (ha : Ev ta σ H x) (hb : Ev tb σ H y) : EvU (tTup (tCons ta (tCons tb tNil))) σ H [x, y] := fun H1 e Q q => ha H1 e _ fun H2 e2 => hb H2 (e.trans e2) _ fun H3 e3 => ⟨Evl.sz_of (by simp), fun p hp => q p _ (Evl.fresh_back (e2.trans e3) hp) ((e2.trans e3).trans (Ex.new hp)) upd_same⟩
theorem s_retIGet {td ty : TE} {D : Ends} {a : Addr} {xs : List V} (hd : Ev td σ H (.ref a)) (hy : EvU ty σ H xs) (q : ∀ ka H1, Ex H H1 → H1 ka = some (.tup xs) → ∃ L k v, IdxIs P w H1 a L ∧ KeyAt H1 ka k ∧ iGet L k = some v ∧ D.rt (.ref v) H1) : tRet (tIGet P w td ty) D σ H := hd H (Ex.refl H) _ fun H1 e1 => hy H1 e1 _ fun ka H2 nk e2 hk => by
  obtain ⟨L, k, v, h1, h2, h3, h4⟩ := q ka H2 (e1.trans e2) hk
  exact ⟨a, ka, L, k, v, rfl, rfl, h1, h2, h3, h4⟩
theorem s_iput {td ty tv : TE} {D : Ends} {a z : Addr} {xs : List V} (hv : Ev tv σ H (.ref z)) (hd : Ev td σ H (.ref a)) (hy : EvU ty σ H xs) (q : ∀ ka H1, Ex H H1 → H1 ka = some (.tup xs) → ∃ L k, IdxIs P w H1 a L ∧ KeyAt H1 ka k ∧ iGet L k = none ∧ L.length < 50000 ∧ D.nx σ (upd H1 a (IdxO P w a (L ++ [(k, ka, z)])))) : sIPut P w td ty tv D σ H :=
  hv H (Ex.refl H) _ fun H1 e1 => hd H1 e1 _ fun H2 e2 => hy H2 (e1.trans e2) _ fun ka H3 nk e3 hk => by
    obtain ⟨L, k, h1, h2, h3, h4, h5⟩ := q ka H3 ((e1.trans e2).trans e3) hk
    exact ⟨a, ka, L, k, z, rfl, rfl, rfl, h1, h2, h3, h4, h5⟩
theorem s_keysT {td : TE} {tu : TS} {D : Ends} {j : Nat} {d : Addr} {o : Obj} {kvs : List (List Key × V)} (hd : Ev td σ H (.ref d)) (h : H d = some (.frz o (.dT kvs))) (Pv : Nat → L2.St → Hp → Prop) (h0 : ∀ H1, Ex H H1 → Pv 0 σ H1) (hG : ∀ i σ' H', Pv i σ' H' → H' d = some (.frz o (.dT kvs)))
    (hs : ∀ i k v q σ' H', kvs[i]? = some (k, v) → Pv i σ' H' → H' q = some (.tup (k.map kV)) → tu { D with nx := Pv (i + 1), ct := Pv (i + 1), bk := D.nx } (σ'.set j (some (.ref q))) H') (hdn : ∀ σ' H', Pv kvs.length σ' H' → D.nx σ' H') : tFor (iKeys td) (gName j) tu D σ H := hd H (Ex.refl H) _ fun H1 e1 =>
  ⟨d, o, rfl, .inr ⟨kvs, e1 _ _ h, for_it walk_keysT Pv (h0 H1 e1) (fun i σ' H' _ p => hG i σ' H' p) (fun i x σ' H' H'' hi p y => by
    obtain ⟨rfl, k, v, q, hk, rfl, hq⟩ := y
    exact hs i k v q σ' _ hk p hq) hdn⟩⟩
def spIndexOn (P : Program) (w : World) (CR : Addr) : Sp := fun vs H Q _ => ∃ t sa sp wd c, vs = [.ref t.ra, .ref sa, .int (wd : Nat)] ∧ RelIs H CR t ∧ IdxOk P w H t.ia t.rows c ∧ H sa = some (.tup (intsOf sp)) ∧ (∀ i ∈ sp, i < wd) ∧ sp.length ≤ 1000 ∧ t.rows.Nodup ∧ t.rows.length ≤ 1000 ∧ c ≤ 40000 ∧
  ∀ d H', Fr1 t.ia H H' → IdxOk P w H' t.ia t.rows (c + 1) → GrpAt H' d (sp, wd) t.rows → Q (.ref d) H'
theorem sc_Relation_index_on : FnScope ["self", "spots", "width", "index", "row", "rows"] ["self", "spots", "width"] (defScope sRelation_index_on) := C8.fnScope_by (by decide +kernel)
theorem met_Relation_index_on (F : FnP K "index_on" "Relation.index_on" sRelation_index_on f fd) (me : Meth K CR "index_on" f) (L : Kl K CR CD) (T : Bl mg) (c_picked : C8.Cal P w K mg base 1 "picked" spPicked []) : C8.Met P w K mg base 2 CR "index_on" (spIndexOn P w CR) [] := by
  refine mkMet L.cR me F sc_Relation_index_on (fun _ _ _ _ _ _ us hl => match us, hl with | [_, _, _], _ => rfl) (fun vs H Q E h => ?_) (fun cdv A outer s H vs Q E hr h => ?_)
  · obtain ⟨t, sa, sp, wd, c, rfl, _⟩ := h
    rfl
  · obtain ⟨t, sa, sp, wd, c, rfl, ⟨h1, h2⟩, ⟨Li, hI, hG, hLc⟩, hsa, hsp, hsl, nd, hrl, hc, k⟩ := h
    have hu := hu_of hr
    refine ⟨_, (pss_cons (ps_if (pt_cmpR (op_inot (units70 hr)) (pe_tup (pa_cons (pv 1) (pa_cons (pv 2) pa_nil))) (pe_fld (pv 0) rfl) (by rfl)) (pss_cons (ps_set (i := 3) sc_Relation_index_on.nd rfl (Or.inl rfl) pe_dnewT)
        (pss_cons (ps_lock (ps_for PassesOwn.never rfl (pi_keys (pe_fld (pv 0) rfl)) (pg_name (i := 4) sc_Relation_index_on.nd rfl (Or.inl rfl))
        (pss_one (ps_if (pt_cmpR op_eq (pe_callB call_len (by rfl) T.f_len PySem.boot_len (pa_cons (pv 4) pa_nil)) (pv 2) (nomark _)) (pss_cons (ps_set (i := 5) sc_Relation_index_on.nd rfl (Or.inl rfl) (pe_dsetT hu (pv 3) (C8.pe_c c_picked hr (by decide) rfl (pa_cons (pv 4) (pa_cons (pv 1) pa_nil))) pe_dnewT ⟨rfl, rfl, rfl, rfl⟩))
            (pss_one (ps_dput hu (pv 5) (pv 4) pe_bl rfl)))
          pss_nil))))
        (pss_one (ps_iput (units70 hr) (pe_fld (pv 0) rfl) (pe_tup (pa_cons (pv 1) (pa_cons (pv 2) pa_nil))) (pv 3) rfl))))
      pss_nil)
      (pss_one (ps_ret (pe_iget (units70 hr) (pe_fld (pv 0) rfl) (pe_tup (pa_cons (pv 1) (pa_cons (pv 2) pa_nil))) (fun _ _ => rfl))))), ?_⟩
    have fM : ∀ {σ : L2.St} {H1 : Hp}, σ[0]? = some (some (.ref t.ra)) → H1 t.ra = some (.ins CR t.dx (relF t)) → Ev (tFld K (tVar 0) "members") σ H1 (.ref t.ma) := fun hs h => ev_fld (Evl.ev_var hs) h L.cR L.nM rfl
    have fI : ∀ {σ : L2.St} {H1 : Hp}, σ[0]? = some (some (.ref t.ra)) → H1 t.ra = some (.ins CR t.dx (relF t)) → Ev (tFld K (tVar 0) "indexes") σ H1 (.ref t.ia) := fun hs h => ev_fld (Evl.ev_var hs) h L.cR L.nI rfl
    have two : ∀ {σ : L2.St} {H1 : Hp}, σ[1]? = some (some (.ref sa)) → σ[2]? = some (some (.int (wd : Nat))) → EvU (tTup (tCons (tVar 1) (tCons (tVar 2) tNil))) σ H1 [.ref sa, .int (wd : Nat)] := fun a b => eu_two (Evl.ev_var a) (Evl.ev_var b)
    -- the last statement
    have last : ∀ (o3 o4 o5 : Option V) (H1 : Hp) (L2 : List IEnt) (v : Addr), Fr1 t.ia H H1 → IdxIs P w H1 t.ia L2 → (∀ e ∈ L2, GrpAt H1 e.2.2 e.1 t.rows) → L2.length ≤ c + 1 → iGet L2 (sp, wd) = some v →
        tRet (tIGet P w (tFld K (tVar 0) "indexes") (tTup (tCons (tVar 1) (tCons (tVar 2) tNil)))) { nx := fun _ H' => Q .non H', rt := Q } [some (.ref t.ra), some (.ref sa), some (.int (wd : Nat)), o3, o4, o5] H1 := fun o3 o4 o5 H1 L2 v fr hI1 hG1 hl1 hv => by
      have d3 : t.ra ≠ t.ia := ne_of h1 hI.1 fun z => by cases z
      have hra : H1 t.ra = some (.ins CR t.dx (relF t)) := fr _ _ h1 d3
      have hs1 : H1 sa = some (.tup (intsOf sp)) := fr _ _ hsa (ne_of hsa hI.1 fun z => by cases z)
      refine s_retIGet (fI rfl hra) (two rfl rfl) fun ka H3 e13 hka => ?_
      have gm : ∀ e ∈ L2, GrpAt H3 e.2.2 e.1 t.rows := fun e he => (hG1 e he).mono fun a kvs h => e13 _ _ h
      have hI3 : IdxIs P w H3 t.ia L2 := ⟨e13 _ _ hI1.1, fun en hen => (hI1.2 en hen).mono (TX.of_ex e13)⟩
      obtain ⟨ka', hm⟩ := iGet_mem hv
      exact ⟨L2, (sp, wd), v, hI3, ⟨sa, hka, e13 _ _ hs1⟩, hv, k v H3 (fun a o h ha => e13 _ _ (fr a o h ha)) ⟨L2, hI3, gm, hl1⟩ (gm _ hm)⟩
    refine Evl.q_when (b := !(iGet Li (sp, wd)).isSome) (et_inot (k := (sp, wd)) (two rfl rfl) (fI rfl h1) hsa hI) (fun hb H1 e1 => ?_) (fun hb H1 e1 => ?_)
    · have hn : iGet Li (sp, wd) = none := by
        cases q : iGet Li (sp, wd) with
        | none => rfl
        | some v => rw [q] at hb; cases hb
      show ∀ d, H1 d = none → _
      intro d hd
      have e2 : Ex H1 (upd H1 d (.dT [])) := Ex.new hd
      have hd2 : (upd H1 d (.dT [])) d = some (.dT []) := upd_same
      have e12 := e1.trans e2
      generalize upd H1 d (.dT []) = H2 at e2 hd2 e12 ⊢
      have nd0 : H d = none := Evl.fresh_back e1 hd
      have hma2 := e12 _ _ h2
      have grpStep := fun {i : Nat} {r : Row} (hi : t.rows[i]? = some r) => grp_step hi (sp, wd)
      refine ⟨t.ma, .dT (mKV t.rows), hma2, True.intro, fun od => ?_⟩
      have d2 : t.ra ≠ t.ma := ne_of h1 h2 fun z => by cases z
      have d4 : d ≠ t.ma := fun z => by rw [z, h2] at nd0; cases nd0
      have lk : ∀ a o, H a = some o → a ≠ t.ma → (upd H2 t.ma (.frz od (.dT (mKV t.rows)))) a = some o := fun a o h ha => by rw [upd_ne ha]; exact e12 _ _ h
      refine s_keysT (d := t.ma) (o := od) (kvs := mKV t.rows) (fM rfl (lk _ _ h1 d2)) upd_same (fun i σ' H' => ∃ o4 o5 G, σ' = [some (.ref t.ra), some (.ref sa), some (.int (wd : Nat)), some (.ref d), o4, o5] ∧ H' t.ma = some (.frz od (.dT (mKV t.rows))) ∧ (∀ a o, H a = some o → a ≠ t.ma → H' a = some o) ∧ GrpG H' d (sp, wd) (t.rows.take i) G ∧ (∀ key v, valV (gKV G) key = some v → ∃ ra, v = .ref ra ∧ H ra = none) ∧ G.length ≤ i) (fun H3 e3 => ?_) (fun i σ' H' pv => ?_) ?_ ?_
      · refine ⟨_, _, [], rfl, e3 _ _ upd_same, fun a o h ha => e3 _ _ (lk a o h ha), ⟨e3 _ _ (by rw [upd_ne d4]; exact hd2), fun key _ => rfl, fun key v z => (by cases z), fun k1 k2 v z => (by cases z)⟩, fun key v z => (by cases z), Nat.le_refl _⟩
      · obtain ⟨_, _, _, _, e, _⟩ := pv
        exact e
      · rintro i r v q σ' H' hi ⟨o4, o5, G, rfl, hma', keep, g, gf, gl⟩ hq
        have hri : t.rows[i]? = some r := by
          unfold mKV at hi
          rw [List.getElem?_map] at hi
          obtain ⟨r', h3, h4⟩ := Option.map_eq_some_iff.mp hi
          cases h4
          exact h3
        have gs := grpStep hri
        have hq' : H' q = some (.tup ((r.map some).map optV)) := by rw [row_opt]; exact hq
        have tq : TD K H' (.ref q) (.tuple ((r.map some).map optD)) := td_pat hq'
        have hsa' : H' sa = some (.tup (intsOf sp)) := keep _ _ hsa (ne_of hsa h2 fun z => by cases z)
        have il : i < t.rows.length := (List.getElem?_eq_some_iff.mp hri).1
        refine Evl.s_when (b := decide ((r.length : Int) = (wd : Int))) (Evl.et_is (et_eqI (ed_lenT (ed_var rfl tq)) (ed_var rfl (.int _))) (by rw [List.length_map, List.length_map])) (fun hb H3 e3 => ?_) (fun hb H3 e3 => ?_)
        · have hw : r.length = wd := by have := of_decide_eq_true hb; omega
          have hk : grpT (sp, wd) (rowKey r sp) r = true := by
            unfold grpT
            rw [decide_eq_true hw, decide_eq_true (p := rowKey r (sp, wd).1 = rowKey r sp) rfl]
            rfl
          have g3 := g.mono (H' := H3) fun a kvs h => e3 _ _ h
          refine q_asgSetT (d := d) (kvs := gKV G) (key := rowKey r sp) (Evl.ev_var rfl) (eu_picked (os := r.map some) (Evl.ev_var rfl) (Evl.ev_var rfl) (e3 _ _ hq') (e3 _ _ hsa') (fun j hj => ⟨by rw [List.length_map, hw]; exact hsp j hj, row_some (by rw [hw]; exact hsp j hj)⟩) hsl) g3.at_ (by unfold gKV; rw [List.length_map]; omega) (fun v H4 hv e4 => ?_) (fun p H4 hn keep4 np pd hp hd4 => ?_)
          · obtain ⟨ra, rfl, nra, hra⟩ := g3.yes _ _ hv
            have hnr : r ∉ grp (t.rows.take i) (sp, wd) (rowKey r sp) := fun z => not_before nd hri ((List.mem_filter.mp z).1)
            have lg : (grp (t.rows.take i) (sp, wd) (rowKey r sp)).length ≤ i := by
              have h5 := List.length_filter_le (grpT (sp, wd) (rowKey r sp)) (t.rows.take i)
              have h6 : (t.rows.take i).length ≤ i := by rw [List.length_take]; omega
              unfold grp
              omega
            refine s_dputT (d := ra) (b := q) (kvs := mKV (grp (t.rows.take i) (sp, wd) (rowKey r sp))) (k := r) (v := .bl true) Evl.ev_c (Evl.ev_var rfl) (Evl.ev_var rfl) (e4 _ _ hra) (e4 _ _ (e3 _ _ hq)) (by rw [mKV_len]; omega) fun H5 e5 => ?_
            rw [mKV_put, show addRow (grp (t.rows.take i) (sp, wd) (rowKey r sp)) r = grp (t.rows.take i) (sp, wd) (rowKey r sp) ++ [r] by unfold addRow; rw [if_neg hnr]]
            have e35 := (e3.trans e4).trans e5
            obtain ⟨ra', er, fra⟩ := gf _ _ hv
            cases er
            have nm : t.ma ≠ ra := ne_of_none h2 fra
            refine ⟨_, _, G, rfl, by rw [upd_ne nm]; exact e35 _ _ hma', fun a o h ha => by rw [upd_ne (ne_of_none h fra)]; exact e35 _ _ (keep a o h ha), (g.mono fun a kvs h => e35 _ _ h).old hv hk (gs), gf, by omega⟩
          · have g4 : H4 d = some (.dT (gKV (G ++ [(rowKey r sp, p)]))) := by rw [hd4, gput hn]
            have nq : q ≠ d := ne_of hq g.at_ fun z => by cases z
            refine s_dputT (d := p) (b := q) (kvs := []) (k := r) (v := .bl true) Evl.ev_c (Evl.ev_var rfl) (Evl.ev_var rfl) hp (keep4 _ _ nq (e3 _ _ hq)) (by simp) fun H5 e5 => ?_
            have np' : H p = none := by
              cases z : H p with
              | none => rfl
              | some o =>
                by_cases hm : p = t.ma
                · rw [hm, e3 _ _ hma'] at np; cases np
                · rw [e3 _ _ (keep p o z hm)] at np
                  cases np
            have gn := g3.new (H1 := H5) hn hk gs (fun a o ha h => e5 _ _ (keep4 a o ha h)) np pd (e5 _ _ g4)
            have nmd : t.ma ≠ d := d4.symm
            have nmp : t.ma ≠ p := ne_of_none h2 np'
            refine ⟨_, _, G ++ [(rowKey r sp, p)], rfl, by rw [upd_ne nmp]; exact e5 _ _ (keep4 _ _ nmd (e3 _ _ hma')), fun a o h ha => ?_, gn, fun key v hv => ?_, by rw [List.length_append, List.length_cons, List.length_nil]; omega⟩
            · rw [upd_ne (ne_of_none h np')]
              exact e5 _ _ (keep4 a o (ne_of_none h nd0) (e3 _ _ (keep a o h ha)))
            · obtain ⟨q1, q2⟩ := val_put_same (v := .ref p) hn
              rw [gput hn] at q1 q2
              by_cases z : key = rowKey r sp
              · rw [z, q1] at hv
                cases hv
                exact ⟨p, rfl, np'⟩
              · rw [q2 key z] at hv
                exact gf key v hv
        · have hw : ¬ r.length = wd := fun z => by rw [z] at hb; simp at hb
          have gs' : ∀ key, grp (t.rows.take (i + 1)) (sp, wd) key = grp (t.rows.take i) (sp, wd) key := fun key => by
            rw [gs key, show grpT (sp, wd) key r = false by unfold grpT; rw [decide_eq_false (p := r.length = (sp, wd).2) hw, Bool.false_and]]
            simp
          refine ⟨_, _, G, rfl, e3 _ _ hma', fun a o h ha => e3 _ _ (keep a o h ha), ⟨e3 _ _ g.at_, fun key h => by rw [gs']; exact g.no key h, fun key v h => ?_, g.inj⟩, gf, by omega⟩
          obtain ⟨ra, z1, z2, z3⟩ := g.yes key v h
          exact ⟨ra, z1, z2, by rw [gs']; exact e3 _ _ z3⟩
      · rintro σ' H' ⟨o4, o5, G, rfl, hma', keep, g, gf, gl⟩
        rw [mKV_len, List.take_length] at g
        refine ⟨hma', ?_⟩
        -- the lock is off
        have keep2 : ∀ a o, H a = some o → (upd H' t.ma (.dT (mKV t.rows))) a = some o := fun a o h => by
          by_cases z : a = t.ma
          · rw [z] at h ⊢
            rw [upd_same, ← h, h2]
          · rw [upd_ne z]
            exact keep a o h z
        have g2 : GrpG (upd H' t.ma (.dT (mKV t.rows))) d (sp, wd) t.rows G := by
          refine ⟨by rw [upd_ne d4]; exact g.at_, g.no, fun key v h => ?_, g.inj⟩
          obtain ⟨ra, z1, z2, z3⟩ := g.yes key v h
          obtain ⟨ra', z4, z5⟩ := gf key v h
          rw [z1] at z4
          cases z4
          exact ⟨ra, z1, z2, by rw [upd_ne (ne_of_none h2 z5).symm]; exact z3⟩
        generalize upd H' t.ma (.dT (mKV t.rows)) = H4 at keep2 g2 ⊢
        -- self.indexes[spots, width] = index
        have d3 : t.ra ≠ t.ia := ne_of h1 hI.1 fun z => by cases z
        refine s_iput (a := t.ia) (z := d) (Evl.ev_var rfl) (fI rfl (keep2 _ _ h1)) (two rfl rfl) fun ka H5 e5 hka => ?_
        have keep5 : ∀ a o, H a = some o → H5 a = some o := fun a o h => e5 _ _ (keep2 a o h)
        refine ⟨Li, (sp, wd), ⟨keep5 _ _ hI.1, fun en hen => (hI.2 en hen).mono fun a xs h => keep5 _ _ h⟩, ⟨sa, hka, keep5 _ _ hsa⟩, hn, by omega, ?_⟩
        have g5 : GrpAt H5 d (sp, wd) t.rows := let g := g2.mono (H' := H5) fun a kvs h => e5 _ _ h; ⟨G, g.at_, g.no, g.yes, g.inj⟩
        have kd : ∀ a kvs, H5 a = some (.dT kvs) → (upd H5 t.ia (IdxO P w t.ia (Li ++ [((sp, wd), ka, d)]))) a = some (.dT kvs) := fun a kvs h => by
          rw [upd_ne (ne_of h (keep5 _ _ hI.1) fun z => by cases z)]
          exact h
        have tx : TX H5 (upd H5 t.ia (IdxO P w t.ia (Li ++ [((sp, wd), ka, d)]))) := TX.mut (keep5 _ _ hI.1) fun xs z => by cases z
        refine last _ _ _ _ (Li ++ [((sp, wd), ka, d)]) d (fun a o h ha => by rw [upd_ne ha]; exact keep5 a o h) ⟨upd_same, fun en hen => ?_⟩ (fun en hen => ?_) (by rw [List.length_append, List.length_cons, List.length_nil]; omega) (iGet_app hn)
        · rcases List.mem_append.mp hen with hen | hen
          · exact (hI.2 en hen).mono fun a xs h => tx _ _ (keep5 _ _ h)
          · have : en = ((sp, wd), ka, d) := by simpa using hen
            rw [this]
            exact (show KeyAt H5 ka (sp, wd) from ⟨sa, hka, keep5 _ _ hsa⟩).mono tx
        · rcases List.mem_append.mp hen with hen | hen
          · exact (hG en hen).mono fun a kvs h => kd _ _ (keep5 _ _ h)
          · have : en = ((sp, wd), ka, d) := by simpa using hen
            rw [this]
            exact g5.mono kd
    · have hv : ∃ v, iGet Li (sp, wd) = some v := by
        cases q : iGet Li (sp, wd) with
        | none => rw [q] at hb; cases hb
        | some v => exact ⟨v, rfl⟩
      obtain ⟨v, hv⟩ := hv
      exact last none none none H1 Li v (fun a o h _ => e1 _ _ h) ⟨e1 _ _ hI.1, fun en hen => (hI.2 en hen).mono (TX.of_ex e1)⟩ (fun e he => (hG e he).mono fun a kvs h => e1 _ _ h) (by omega) hv
end
end K86
end
section
set_option maxRecDepth 100000
set_option maxHeartbeats 4000000
namespace K86
open PySem PySem.Spec PyProof.Rows L2 HF
open Evl (Ex Ev EvT EvL EvU EvA)
def matchO (os : List (Option Key)) (r : Row) : Prop := r.length = os.length ∧ ∀ (i : Nat) (k : Key), os[i]? = some (some k) → r[i]? = some k
theorem spots_lt {os : List (Option Key)} : ∀ i ∈ spotsOf os, i < os.length ∧ (os.getD i none).isSome = true := fun i hi => by
  unfold spotsOf at hi
  rw [List.mem_filter, List.mem_range] at hi
  exact hi
theorem grpT_match {os : List (Option Key)} {r : Row} : grpT (spotsOf os, os.length) (keyOf os (spotsOf os)) r = true ↔ matchO os r := by
  unfold grpT
  rw [Bool.and_eq_true, decide_eq_true_iff, decide_eq_true_iff]
  constructor
  · rintro ⟨h1, h2⟩
    have h1 : r.length = os.length := h1
    refine ⟨h1, fun i k hk => ?_⟩
    have il : i < os.length := (List.getElem?_eq_some_iff.mp hk).1
    have im : i ∈ spotsOf os := by
      unfold spotsOf
      rw [List.mem_filter, List.mem_range]
      exact ⟨il, by rw [List.getD_eq_getElem?_getD, hk]; rfl⟩
    have e := (List.map_inj_left.mp (show (spotsOf os).map _ = (spotsOf os).map _ from h2)) i im
    rw [List.getD_eq_getElem?_getD, List.getD_eq_getElem?_getD, hk, List.getElem?_map, List.getElem?_eq_getElem (by omega : i < r.length)] at e
    rw [List.getElem?_eq_getElem (by omega : i < r.length)]
    exact congrArg some e
  · rintro ⟨h1, h2⟩
    refine ⟨h1, List.map_congr_left fun i hi => ?_⟩
    obtain ⟨il, is_⟩ := spots_lt i hi
    rw [List.getD_eq_getElem?_getD, List.getElem?_eq_getElem il] at is_
    obtain ⟨k, hk⟩ := Option.isSome_iff_exists.mp is_
    have hk' : os[i] = some k := hk
    have hr := h2 i k (by rw [List.getElem?_eq_getElem il, hk'])
    rw [List.getD_eq_getElem?_getD, List.getD_eq_getElem?_getD, List.getElem?_map, hr, List.getElem?_eq_getElem il, hk']
    rfl
def rowOf (os : List (Option Key)) : Row := os.map fun o => o.getD (.inl 0)
theorem all_row {os : List (Option Key)} (h : (spotsOf os).length = os.length) : os = (rowOf os).map some := by
  unfold spotsOf at h
  have h2 : ((List.range os.length).filter fun i => (os.getD i none).isSome).length = (List.range os.length).length := by rw [h, List.length_range]
  have h3 := List.length_filter_eq_length_iff.mp h2
  refine List.ext_getElem (by unfold rowOf; simp) fun i h4 h5 => ?_
  have := h3 i (List.mem_range.mpr h4)
  rw [List.getD_eq_getElem?_getD, List.getElem?_eq_getElem h4] at this
  obtain ⟨k, hk⟩ := Option.isSome_iff_exists.mp this
  have hk' : os[i] = some k := hk
  unfold rowOf
  simp [hk']
theorem match_row {r0 r : Row} : matchO (r0.map some) r ↔ r = r0 := by
  constructor
  · rintro ⟨h1, h2⟩
    rw [List.length_map] at h1
    refine List.ext_getElem h1 fun i h3 h4 => ?_
    have := h2 i r0[i] (by rw [List.getElem?_map, List.getElem?_eq_getElem h4] <;> rfl)
    rw [List.getElem?_eq_getElem h3] at this
    exact Option.some.inj this
  · rintro rfl
    refine ⟨by rw [List.length_map], fun i k h => ?_⟩
    rw [List.getElem?_map] at h
    obtain ⟨k', h3, h4⟩ := Option.map_eq_some_iff.mp h
    cases h4
    exact h3
/-- a list of rows -/
def RowL (H : Hp) (p : Addr) (L : List (Addr × Row)) : Prop := H p = some (.lst (L.map fun e => V.ref e.1)) ∧ ∀ e ∈ L, H e.1 = some (.tup (e.2.map kV))
section
variable {P : Program} {w : World} {K : PySem.W.Frag} {mg : Str → Option Value} {base : Heap} {f : Addr} {fd : FuncData} {σ : L2.St} {H : Hp} {anyA CR CD : Addr}
theorem keys_rows {H : Hp} : ∀ {rows : List Row} {bs : List Addr}, IsKeys H (mKV rows) bs → ∃ L : List (Addr × Row), bs.map V.ref = L.map (fun e => V.ref e.1) ∧ L.map (·.2) = rows ∧ ∀ e ∈ L, H e.1 = some (.tup (e.2.map kV))
  | [], _, h => by
    cases h
    exact ⟨[], rfl, rfl, fun _ z => by cases z⟩
  | r :: rows, _, h => by
    cases h with
    | @cons _ b _ bs h hs =>
      obtain ⟨L, h1, h2, h3⟩ := keys_rows (rows := rows) hs
      refine ⟨(b, r) :: L, by rw [List.map_cons, List.map_cons, h1], by rw [List.map_cons, h2], fun e he => ?_⟩
      rcases List.mem_cons.mp he with rfl | he
      · exact h
      · exact h3 e he
def spRelMatch (P : Program) (w : World) (CR : Addr) : Sp := fun vs H Q _ => ∃ t pa os c, vs = [.ref t.ra, .ref pa] ∧ RelIs H CR t ∧ IdxOk P w H t.ia t.rows c ∧ H pa = some (.tup (List.map optV os)) ∧ os.length ≤ 1000 ∧ t.rows.Nodup ∧ t.rows.length ≤ 1000 ∧ c ≤ 40000 ∧
  ∀ p H' L, Fr1 t.ia H H' → IdxOk P w H' t.ia t.rows (c + 1) → H p = none → RowL H' p L → (∀ r, r ∈ L.map (·.2) ↔ r ∈ t.rows ∧ matchO os r) → L.length ≤ t.rows.length → Q (.ref p) H'
theorem sc_Relation_match : FnScope ["self", "pattern", "spots", "row"] ["self", "pattern"] (defScope sRelation_match) := C8.fnScope_by (by decide +kernel)
theorem idxOk_ex {H H' : Hp} (e : Ex H H') {ia : Addr} {rows : List Row} {c c' : Nat} (hc : c ≤ c') (h : IdxOk P w H ia rows c) : IdxOk P w H' ia rows c' := by
  obtain ⟨L, h1, h2, h3⟩ := h
  exact ⟨L, ⟨e _ _ h1.1, fun en hen => (h1.2 en hen).mono (TX.of_ex e)⟩, fun en hen => (h2 en hen).mono fun a kvs h => e _ _ h, by omega⟩
theorem met_Relation_match (F : FnP K "match" "Relation.match" sRelation_match f fd) (me : Meth K CR "match" f) (L : Kl K CR CD) (T : Bl mg) (c_spots_of : C8.Cal P w K mg base 1 "spots_of" spSpotsOf []) (c_picked : C8.Cal P w K mg base 1 "picked" spPicked []) (m_index_on : C8.Met P w K mg base 2 CR "index_on" (spIndexOn P w CR) []) : C8.Met P w K mg base 3 CR "match" (spRelMatch P w CR) [] := by
  refine mkMet L.cR me F sc_Relation_match (fun _ _ _ _ _ _ us hl => match us, hl with | [_, _], _ => rfl) (fun vs H Q E h => ?_) (fun cdv A outer s H vs Q E hr h => ?_)
  · obtain ⟨t, pa, os, c, rfl, _⟩ := h
    rfl
  · obtain ⟨t, pa, os, c, rfl, hrel, hI, hpa, hl, nd, hrl, hc, k⟩ := h
    obtain ⟨h1, h2⟩ := id hrel
    have hu := hu_of hr
    refine ⟨_, (pss_cons (ps_set (i := 2) sc_Relation_match.nd rfl (Or.inl rfl) (C8.pe_c c_spots_of hr (by decide) rfl (pa_cons (pv 1) pa_nil)))
      (pss_cons (ps_if (pt_cmpR op_eq (pe_callB call_len (by rfl) T.f_len PySem.boot_len (pa_cons (pv 2) pa_nil)) (pe_callB call_len (by rfl) T.f_len PySem.boot_len (pa_cons (pv 1) pa_nil)) (nomark _)) (pss_one (ps_ret (pe_lc (own := [("row", 3)]) (g := gName 3) rfl sc_Relation_match.nd (pi_list (pe_lst (pa_cons (pv 1) pa_nil))) (blkOk_by (own := [("row", 3)]) (N := ["self", "pattern", "spots", "row"]) (sc := defScope sRelation_match) (by decide +kernel)) (fun _ _ _ _ _ => (pg_name (i := 3) sc_Relation_match.nd rfl (Or.inl rfl))) (fun _ _ _ _ _ => (pts_one (pt_cmp (t := tDIn (tVar 3) (tFld K (tVar 0) "members")) (pc_din (ty := tVar 3) (td := tFld K (tVar 0) "members") hu (pv 3) (pe_fld (ta := tVar 0) (pv 0) rfl))))) (fun _ _ _ _ _ => (pv 3)))))
      pss_nil)
      (pss_one (ps_ret (pe_callTy (callR_or (call_list_dT rfl) call_list_of) (by rfl) T.f_list (by decide +kernel) (pa_cons (pe_dget2 hu (C8.pe_mt m_index_on hr (by decide) (pv 0) (pa_cons (pv 2) (pa_cons (pe_callB call_len (by rfl) T.f_len PySem.boot_len (pa_cons (pv 1) pa_nil)) pa_nil))) (C8.pe_c c_picked hr (by decide) rfl (pa_cons (pv 1) (pa_cons (pv 2) pa_nil))) (pe_tup pa_nil) ⟨rfl, rfl, rfl, rfl⟩) pa_nil)))))), ?_⟩
    have fM : ∀ {σ : L2.St} {H1 : Hp}, σ[0]? = some (some (.ref t.ra)) → H1 t.ra = some (.ins CR t.dx (relF t)) → Ev (tFld K (tVar 0) "members") σ H1 (.ref t.ma) := fun hs h => ev_fld (Evl.ev_var hs) h L.cR L.nM rfl
    refine ⟨_, rfl, pa, os, rfl, hpa, hl, fun sa H1 e1 nsa hsa => ?_⟩
    have tp : ∀ {H2 : Hp}, Ex H H2 → TD K H2 (.ref pa) (.tuple (os.map optD)) := fun e => td_pat (e _ _ hpa)
    have lenP : ∀ {H2 : Hp}, Ex H H2 → EvD K (tCB (rLenV K) (tCons (tVar 1) tNil)) ([some (.ref t.ra), some (.ref pa), some (.ref sa), none] : L2.St) H2 (.int (os.length : Int)) := fun {H2} e => by
      have := ed_lenT (K := K) (te := tVar 1) (σ := [some (.ref t.ra), some (.ref pa), some (.ref sa), none]) (H := H2) (ed_var rfl (tp e))
      rw [List.length_map] at this
      exact this
    have lenS : EvD K (tCB (rLenV K) (tCons (tVar 2) tNil)) ([some (.ref t.ra), some (.ref pa), some (.ref sa), none] : L2.St) H1 (.int ((spotsOf os).length : Int)) := by
      have := ed_lenT (K := K) (te := tVar 2) (σ := [some (.ref t.ra), some (.ref pa), some (.ref sa), none]) (H := H1) (ed_var rfl (td_ints hsa))
      rw [List.length_map] at this
      exact this
    refine Evl.q_when (b := decide (((spotsOf os).length : Int) = (os.length : Int))) (et_eqI lenS (lenP e1)) (fun hb H2 e2 => ?_) (fun hb H2 e2 => ?_)
    · have hall : (spotsOf os).length = os.length := by have := of_decide_eq_true hb; omega
      have hos := all_row hall
      have e12 := e1.trans e2
      have hpr : H2 pa = some (.tup ((rowOf os).map kV)) := by
        rw [e12 _ _ hpa]
        conv => lhs; rw [hos]
        rw [row_opt]
      have fr : ∀ {H3 : Hp}, Ex H2 H3 → Fr1 t.ia H H3 := fun e a o h _ => (e12.trans e) _ _ h
      by_cases hm : rowOf os ∈ t.rows
      · refine Evl.s_retL (xs := [.ref pa]) (Evl.el_lcNL (K := K) (xs := [.ref pa]) (fun _ => true) (fun _ => .ref pa) (Evl.el_lst (Evl.ea_cons (Evl.ev_var rfl) Evl.ea_nil) (by simp)) (by simp) wipe1 (fun i x H3 e hx => ?_) (fun i x H3 e hx _ => ?_)) fun p H3 np e3 hp => ?_
        · have : x = .ref pa := by
            cases i with
            | zero => simpa using hx.symm
            | succ i => simp at hx
          subst this
          refine Evl.et_is (et_dinT (kvs := mKV t.rows) (k := rowOf os) (Evl.ev_var rfl) (fM rfl (e _ _ (e12 _ _ h1))) (e _ _ hpr) (e _ _ (e12 _ _ h2))) ?_
          rw [mKV_val, if_pos hm]
          rfl
        · have : x = .ref pa := by
            cases i with
            | zero => simpa using hx.symm
            | succ i => simp at hx
          subst this
          exact Evl.ev_var rfl
        · have hpos := List.length_pos_of_mem hm
          refine k p H3 [(pa, rowOf os)] (fr e3) (idxOk_ex (e12.trans e3) (by omega) hI) (Evl.fresh_back e12 np) ⟨hp, fun e he => ?_⟩ (fun r => ?_) (by simp only [List.length_cons, List.length_nil]; omega)
          · have : e = (pa, rowOf os) := by simpa using he
            rw [this]
            exact e3 _ _ hpr
          · conv => rhs; rw [hos, match_row]
            constructor
            · intro hr
              have : r = rowOf os := by simpa using hr
              rw [this]
              exact ⟨hm, rfl⟩
            · rintro ⟨_, rfl⟩
              simp
      · refine Evl.s_retL (xs := []) (Evl.el_lcNL (K := K) (xs := [.ref pa]) (fun _ => false) (fun _ => .ref pa) (Evl.el_lst (Evl.ea_cons (Evl.ev_var rfl) Evl.ea_nil) (by simp)) (by simp) wipe1 (fun i x H3 e hx => ?_) (fun i x H3 e hx z => by cases z)) fun p H3 np e3 hp => ?_
        · have : x = .ref pa := by
            cases i with
            | zero => simpa using hx.symm
            | succ i => simp at hx
          subst this
          refine Evl.et_is (et_dinT (kvs := mKV t.rows) (k := rowOf os) (Evl.ev_var rfl) (fM rfl (e _ _ (e12 _ _ h1))) (e _ _ hpr) (e _ _ (e12 _ _ h2))) ?_
          rw [mKV_val, if_neg hm]
          rfl
        · refine k p H3 [] (fr e3) (idxOk_ex (e12.trans e3) (by omega) hI) (Evl.fresh_back e12 np) ⟨hp, fun e he => by cases he⟩ (fun r => ?_) (by simp)
          conv => rhs; rw [hos, match_row]
          constructor
          · intro hr
            cases hr
          · rintro ⟨hr, rfl⟩
            exact absurd hr hm
    · have e12 := e1.trans e2
      have hI2 := idxOk_ex (P := P) (w := w) e12 (Nat.le_refl c) hI
      -- self.index_on(..)
      refine ⟨_, rfl, t.ra, t.dx, relF t, rfl, e12 _ _ h1, rfl, _, rfl, ?_⟩
      refine (lenP e12) H2 (Ex.refl H2) _ fun n1 H3 e3 tn => ?_
      rw [tn.int_inv]
      have e13 := e12.trans e3
      refine ⟨t, sa, spotsOf os, os.length, c, rfl, ⟨e13 _ _ h1, e13 _ _ h2⟩, idxOk_ex e3 (Nat.le_refl c) hI2, (e2.trans e3) _ _ hsa, fun i hi => (spots_lt i hi).1, ?_, nd, hrl, hc, fun d H4 fr4 hI4 g4 => ?_⟩
      · have h5 := List.length_filter_le (fun i => (os.getD i none).isSome) (List.range os.length)
        rw [List.length_range] at h5
        unfold spotsOf
        omega
      obtain ⟨G, g1, g2, g3, g5⟩ := g4
      have hia3 : ∃ φ, H3 t.ia = some (.ext φ) := by
        obtain ⟨L1, hL1, _⟩ := hI
        exact ⟨_, e13 _ _ hL1.1⟩
      obtain ⟨φ, hφ⟩ := hia3
      have kp : ∀ {a : Addr} {xs : List V}, H3 a = some (.tup xs) → H4 a = some (.tup xs) := fun {a xs} h => fr4 _ _ h (ne_of h hφ fun z => by cases z)
      refine ⟨d, rfl, .inr ⟨_, .inl g1⟩, ?_⟩
      refine (eu_picked (σ := [some (.ref t.ra), some (.ref pa), some (.ref sa), none]) (H := H4) (ta := tVar 1) (tb := tVar 2) (os := os) (sp := spotsOf os) (Evl.ev_var rfl) (Evl.ev_var rfl) (kp (e13 _ _ hpa)) (kp ((e2.trans e3) _ _ hsa)) spots_lt ?_) H4 (Ex.refl H4) _ fun b H5 nb e5 hb => ?_
      · have h5 := List.length_filter_le (fun i => (os.getD i none).isSome) (List.range os.length)
        rw [List.length_range] at h5
        unfold spotsOf
        omega
      refine ⟨by decide, fun em hem => ?_⟩
      have e6 : Ex H5 (upd H5 em (.tup [])) := Ex.new hem
      have hem2 : (upd H5 em (.tup [])) em = some (.tup []) := upd_same
      generalize upd H5 em (.tup []) = H6 at e6 hem2 ⊢
      have e46 := e5.trans e6
      refine ⟨_, DGet.t (k := keyOf os (spotsOf os)) (e46 _ _ g1) (e6 _ _ hb), ?_⟩
      have frL : ∀ {p : Addr} {xs : List V}, H6 p = none → Fr1 t.ia H (upd H6 p (.lst xs)) := fun {p xs} np a o h ha => (Ex.new np) _ _ (e46 _ _ (fr4 _ _ (e13 _ _ h) ha))
      have idL : ∀ {p : Addr} {xs : List V}, H6 p = none → IdxOk P w (upd H6 p (.lst xs)) t.ia t.rows (c + 1) := fun {p xs} np => idxOk_ex (e46.trans (Ex.new np)) (Nat.le_refl _) hI4
      have npH : ∀ {p : Addr}, H6 p = none → H p = none := fun {p} np => by
        cases z : H p with
        | none => rfl
        | some o =>
          by_cases hp : p = t.ia
          · obtain ⟨L1, hL1, _⟩ := hI4
            rw [hp, e46 _ _ hL1.1] at np
            cases np
          · rw [e46 _ _ (fr4 _ _ (e13 _ _ z) hp)] at np
            cases np
      cases hv : valV (gKV G) (keyOf os (spotsOf os)) with
      | none =>
        have ge := g2 _ hv
        refine .inr ⟨em, [], rfl, .inr (show TupA K H6 em [] from .inl hem2).sq, fun p np => ?_⟩
        refine k p _ [] (frL np) (idL np) (npH np) ⟨upd_same, fun e he => by cases he⟩ (fun r => ?_) (by simp)
        constructor
        · intro hr
          cases hr
        · rintro ⟨hr, hm⟩
          have : r ∈ grp t.rows (spotsOf os, os.length) (keyOf os (spotsOf os)) := List.mem_filter.mpr ⟨hr, grpT_match.mpr hm⟩
          rw [ge] at this
          cases this
      | some v =>
        obtain ⟨ra, rfl, _, hra⟩ := g3 _ _ hv
        refine .inl ⟨ra, mKV (grp t.rows (spotsOf os, os.length) (keyOf os (spotsOf os))), rfl, .inl (e46 _ _ hra), fun p bs np hk => ?_⟩
        obtain ⟨Lr, l1, l2, l3⟩ := keys_rows hk
        rw [l1]
        refine k p _ Lr (frL np) (idL np) (npH np) ⟨upd_same, fun e he => (Ex.new np) _ _ (l3 e he)⟩ (fun r => ?_) ?_
        · rw [l2]
          unfold grp
          rw [List.mem_filter, grpT_match]
        · have h5 : Lr.length = (grp t.rows (spotsOf os, os.length) (keyOf os (spotsOf os))).length := by rw [← l2, List.length_map]
          rw [h5]
          exact List.length_filter_le _ _
end
end K86
end
section
set_option maxRecDepth 100000
set_option maxHeartbeats 4000000
namespace K86
open PySem PySem.Spec PyProof.Rows L2 HF
open Evl (Ex Ev EvT EvL EvU EvA)
abbrev Tabs := List (Str × RelRec)
def tKV (T : Tabs) : List (Key × V) := T.map fun t => (Sum.inr t.1, .ref t.2.ra)
def tFind (T : Tabs) (x : Str) : Option RelRec := (T.find? fun t => decide (t.1 = x)).map (·.2)
def rowsOf (T : Tabs) (x : Str) : List Row := match tFind T x with
  | none => []
  | some t => t.rows
theorem tFind_cons (p : Str × RelRec) (T : Tabs) (x : Str) : tFind (p :: T) x = if p.1 = x then some p.2 else tFind T x := by
  unfold tFind
  by_cases e : p.1 = x <;> simp [e]
theorem tKV_val (x : Str) : ∀ T : Tabs, valV (tKV T) (.inr x) = (tFind T x).map fun t => V.ref t.ra
  | [] => rfl
  | p :: T => by
    rw [tFind_cons]
    by_cases e : p.1 = x
    · rw [show tKV (p :: T) = (Sum.inr p.1, V.ref p.2.ra) :: tKV T from rfl, valV_pos (by rw [e]), if_pos e]
      rfl
    · rw [show tKV (p :: T) = (Sum.inr p.1, V.ref p.2.ra) :: tKV T from rfl, valV_neg (fun z => e (Sum.inr.inj z)), if_neg e, tKV_val x T]
theorem tFind_mem {T : Tabs} {x : Str} {t : RelRec} (h : tFind T x = some t) : (x, t) ∈ T := by
  induction T with
  | nil => cases h
  | cons p T ih =>
    rw [tFind_cons] at h
    by_cases e : p.1 = x
    · rw [if_pos e] at h
      exact List.mem_cons.mpr (.inl (by rw [← e, ← Option.some.inj h]))
    · rw [if_neg e] at h
      exact List.mem_cons_of_mem _ (ih h)
theorem tFind_none {T : Tabs} {x : Str} (h : tFind T x = none) : ∀ p ∈ T, p.1 ≠ x := by
  induction T with
  | nil => exact fun _ z => by cases z
  | cons p T ih =>
    rw [tFind_cons] at h
    by_cases e : p.1 = x
    · rw [if_pos e] at h; cases h
    · rw [if_neg e] at h
      intro q hq
      rcases List.mem_cons.mp hq with rfl | hq
      · exact e
      · exact ih h q hq
theorem tFind_app {T : Tabs} {x : Str} {t : RelRec} (y : Str) : tFind (T ++ [(x, t)]) y = match tFind T y with
  | some u => some u
  | none => if x = y then some t else none := by
  induction T with
  | nil =>
    show tFind [(x, t)] y = _
    rw [tFind_cons]
    rfl
  | cons p T ih =>
    show tFind (p :: (T ++ [(x, t)])) y = _
    rw [tFind_cons, tFind_cons]
    by_cases e : p.1 = y
    · rw [if_pos e, if_pos e]
    · rw [if_neg e, if_neg e, ih]
def Rf (H H' : Hp) : Prop := ∀ a o, H a = some o → (∀ φ, o ≠ .ext φ) → H' a = some o
theorem Rf.of_ex {H H' : Hp} (e : Ex H H') : Rf H H' := fun a o h _ => e a o h
theorem Rf.refl (H : Hp) : Rf H H := fun _ _ h _ => h
theorem Rf.trans {H H1 H2 : Hp} (a : Rf H H1) (b : Rf H1 H2) : Rf H H2 := fun x o h n => b x o (a x o h n) n
theorem Rf.tx {H H' : Hp} (r : Rf H H') : TX H H' := fun a xs h => r a _ h fun φ z => by cases z
section
variable (P : Program) (w : World)
/-- a database, frozen: its relations' indexes may come -/
structure DbIs (H : Hp) (CD CR db : Addr) (T : Tabs) (c : Nat) : Prop where
  at_ : ∃ dx ta, H db = some (.ins CD dx [("tables", .ref ta)]) ∧ H ta = some (.dK (tKV T))
  tabs : ∀ t ∈ T, RelIs H CR t.2 ∧ IdxOk P w H t.2.ia t.2.rows c ∧ t.2.rows.Nodup ∧ t.2.rows.length ≤ 1000
  apart : ∀ s ∈ T, ∀ t ∈ T, s.2.ia = t.2.ia → s = t
/-- a database that is being made -/
structure DbNew (H0 H : Hp) (CD CR db : Addr) (T : Tabs) (n : Nat) : Prop where
  ex : Ex H0 H
  at_ : ∃ dx ta, H db = some (.ins CD dx [("tables", .ref ta)]) ∧ H ta = some (.dK (tKV T)) ∧ H0 ta = none
  tabs : ∀ t ∈ T, RelIs H CR t.2 ∧ H t.2.ia = some (IdxO P w t.2.ia []) ∧ t.2.rows.Nodup ∧ t.2.rows.length ≤ n ∧ H0 t.2.ma = none
  apart : ∀ s ∈ T, ∀ t ∈ T, s.2.ia = t.2.ia ∨ s.2.ma = t.2.ma ∨ s.1 = t.1 → s = t
  len : T.length ≤ n
end
def FrD (H H' : Hp) : Prop := ∀ a o, H a = some o → (∀ k, o ≠ .dK k) → (∀ k, o ≠ .dT k) → H' a = some o
theorem FrD.of_ex {H H' : Hp} (e : Ex H H') : FrD H H' := fun a o h _ _ => e a o h
theorem FrD.trans {H H1 H2 : Hp} (a : FrD H H1) (b : FrD H1 H2) : FrD H H2 := fun x o h n m => b x o (a x o h n m) n m
theorem addRow_nodup {rows : List Row} {r : Row} (nd : rows.Nodup) : (addRow rows r).Nodup := by
  unfold addRow
  split
  · exact nd
  · rename_i h
    rw [List.nodup_append]
    refine ⟨nd, by simp, fun a ha b hb e => ?_⟩
    have : b = r := by simpa using hb
    exact h (by rw [← this, ← e]; exact ha)
theorem addRow_len {rows : List Row} {r : Row} : (addRow rows r).length ≤ rows.length + 1 := by
  unfold addRow
  split
  · omega
  · simp
section
variable {P : Program} {w : World} {K : PySem.W.Frag} {mg : Str → Option Value} {base : Heap} {f : Addr} {fd : FuncData} {σ : L2.St} {H : Hp} {anyA CR CD : Addr}
theorem DbIs.ex {H H' : Hp} {db : Addr} {T : Tabs} {c c' : Nat} (d : DbIs P w H CD CR db T c) (e : Ex H H') (hc : c ≤ c') : DbIs P w H' CD CR db T c' := by
  refine ⟨?_, fun t ht => ?_, d.apart⟩
  · obtain ⟨dx, ta, h1, h2⟩ := d.at_
    exact ⟨dx, ta, e _ _ h1, e _ _ h2⟩
  · obtain ⟨h1, h2, h3, h4⟩ := d.tabs t ht
    exact ⟨⟨e _ _ h1.1, e _ _ h1.2⟩, idxOk_ex e hc h2, h3, h4⟩
/-! ### Database.match -/
def spDbMatch (P : Program) (w : World) (CD CR : Addr) : Sp := fun vs H Q _ => ∃ db x pa T os c, vs = [.ref db, .str x, .ref pa] ∧ DbIs P w H CD CR db T c ∧ H pa = some (.tup (List.map optV os)) ∧ os.length ≤ 1000 ∧ c ≤ 40000 ∧
  ∀ p H' L, Rf H H' → DbIs P w H' CD CR db T (c + 1) → H p = none → RowL H' p L → (∀ r, r ∈ L.map (·.2) ↔ r ∈ rowsOf T x ∧ matchO os r) → L.length ≤ (rowsOf T x).length → Q (.ref p) H'
theorem sc_Database_match : FnScope ["self", "name", "pattern"] ["self", "name", "pattern"] (defScope sDatabase_match) := C8.fnScope_by (by decide +kernel)
theorem s_retDMeth {td ty : TE} {D : Ends} {E : XK} {C : Addr} {m : Str} {sp : Sp} {tt : TA} {d : Addr} {k : Key} {a dx : Addr} {fs : List (Str × V)} {kvs : List (Key × V)} (hd : Ev td σ H (.ref d)) (hy : Ev ty σ H (kV k)) (h : H d = some (.dK kvs)) (hv : valV kvs k = some (.ref a)) (ha : H a = some (.ins C dx fs)) (hm : fs.lookup m = none)
    (q : ∀ H1, Ex H H1 → tt σ H1 fun vs H2 => sp (.ref a :: (vs ++ [])) H2 D.rt E) : tRet (tMeth C m sp [] E (tDGet td ty) tt) D σ H := hd H (Ex.refl H) _ fun H1 e1 => hy H1 e1 _ fun H2 e2 =>
  have e := e1.trans e2
  ⟨d, _, rfl, by
    have := DGet.k (k := k) (e _ _ h)
    rw [hv] at this
    exact this, a, dx, fs, rfl, e _ _ ha, hm, q H2 e⟩
theorem met_Database_match (F : FnP K "match" "Database.match" sDatabase_match f fd) (me : Meth K CD "match" f) (L : Kl K CR CD) (m_match : C8.Met P w K mg base 3 CR "match" (spRelMatch P w CR) []) : C8.Met P w K mg base 4 CD "match" (spDbMatch P w CD CR) [] := by
  refine mkMet L.cD me F sc_Database_match (fun _ _ _ _ _ _ us hl => match us, hl with | [_, _, _], _ => rfl) (fun vs H Q E h => ?_) (fun cdv A outer s H vs Q E hr h => ?_)
  · obtain ⟨db, x, pa, T, os, c, rfl, _⟩ := h
    rfl
  · obtain ⟨db, x, pa, T, os, c, rfl, hd, hpa, hl, hc, k⟩ := h
    have hu := hu_of hr
    obtain ⟨dx, ta, h1, h2⟩ := hd.at_
    refine ⟨_, (pss_cons (ps_if (pt_cmp (pc_dnotin hu (pv 1) (pe_fld (pv 0) rfl))) (pss_one (ps_ret (pe_lst pa_nil)))
      pss_nil)
      (pss_one (ps_ret (C8.pe_mt m_match hr (by decide) (pe_dget hu (pe_fld (pv 0) rfl) (pv 1) (fun _ _ => rfl)) (pa_cons (pv 2) pa_nil))))), ?_⟩
    have fT : ∀ {σ : L2.St} {H1 : Hp}, σ[0]? = some (some (.ref db)) → H1 db = some (.ins CD dx [("tables", .ref ta)]) → Ev (tFld K (tVar 0) "tables") σ H1 (.ref ta) := fun hs h => ev_fld (Evl.ev_var hs) h L.cD L.nT rfl
    refine Evl.q_when (b := !(valV (tKV T) (.inr x)).isSome) (et_dninK (k := Sum.inr x) (Evl.ev_var rfl) (fT rfl h1) h2) (fun hb H1 e1 => ?_) (fun hb H1 e1 => ?_)
    · have hn : tFind T x = none := by
        rw [tKV_val, Option.isSome_map] at hb
        cases q : tFind T x with
        | none => rfl
        | some t => rw [q] at hb; cases hb
      refine Evl.s_retL (xs := []) (Evl.el_lst Evl.ea_nil (by decide)) fun p H2 np e2 hp => ?_
      refine k p H2 [] (Rf.of_ex (e1.trans e2)) (hd.ex (e1.trans e2) (by omega)) (Evl.fresh_back e1 np) ⟨hp, fun e he => by cases he⟩ (fun r => ?_) (by simp)
      unfold rowsOf
      rw [hn]
      simp
    · have hy : ∃ t, tFind T x = some t := by
        rw [tKV_val, Option.isSome_map] at hb
        cases q : tFind T x with
        | none => rw [q] at hb; cases hb
        | some t => exact ⟨t, rfl⟩
      obtain ⟨t, ht⟩ := hy
      have tm := tFind_mem ht
      obtain ⟨hrel, hI, nd, hrl⟩ := hd.tabs _ tm
      refine s_retDMeth (d := ta) (k := Sum.inr x) (a := t.ra) (kvs := tKV T) (fT rfl (e1 _ _ h1)) (Evl.ev_var rfl) (e1 _ _ h2) (by rw [tKV_val, ht]; rfl) (e1 _ _ hrel.1) rfl fun H2 e2 => ?_
      have e12 := e1.trans e2
      refine ⟨_, rfl, t, pa, os, c, rfl, ⟨e12 _ _ hrel.1, e12 _ _ hrel.2⟩, idxOk_ex e12 (Nat.le_refl c) hI, e12 _ _ hpa, hl, nd, hrl, hc, fun p H3 Lr fr hI3 np hL hmem hlen => ?_⟩
      have hr0 : rowsOf T x = t.rows := by unfold rowsOf; rw [ht]
      have hia : ∃ φ, H2 t.ia = some (.ext φ) := by
        obtain ⟨L1, hL1, _⟩ := hI
        exact ⟨_, e12 _ _ hL1.1⟩
      obtain ⟨φ, hφ⟩ := hia
      have rf : Rf H2 H3 := fun a o h n => fr a o h (fun z => by rw [z, hφ] at h; cases h; exact n _ rfl)
      refine k p H3 Lr ((Rf.of_ex e12).trans rf) ⟨⟨dx, ta, rf _ _ (e12 _ _ h1) fun φ z => (by cases z), rf _ _ (e12 _ _ h2) fun φ z => (by cases z)⟩, fun s hs => ?_, hd.apart⟩ (Evl.fresh_back e12 np) hL (by rw [hr0]; exact hmem) (by rw [hr0]; exact hlen)
      obtain ⟨g1, g2, g3, g4⟩ := hd.tabs s hs
      refine ⟨⟨rf _ _ (e12 _ _ g1.1) fun φ z => (by cases z), rf _ _ (e12 _ _ g1.2) fun φ z => (by cases z)⟩, ?_, g3, g4⟩
      by_cases e : s = (x, t)
      · rw [e]
        exact hI3
      · have ne : s.2.ia ≠ t.ia := fun z => e (hd.apart s hs (x, t) tm z)
        obtain ⟨L1, i1, i2, i3⟩ := g2
        exact ⟨L1, ⟨fr _ _ (e12 _ _ i1.1) ne, fun en hen => ((i1.2 en hen).mono (TX.of_ex e12)).mono rf.tx⟩, fun en hen => (i2 en hen).mono fun a kvs h => rf _ _ (e12 _ _ h) fun φ z => (by cases z), by omega⟩
/-! ### Database() -/
def spDbInit (CD : Addr) : Sp := fun vs H Q _ => ∃ x dx, vs = [.ref x] ∧ H x = some (.ins CD dx []) ∧ ∀ ta H', (∀ a o, a ≠ x → H a = some o → H' a = some o) → H ta = none → H' x = some (.ins CD dx [("tables", .ref ta)]) → H' ta = some (.dK []) → Q .non H'
theorem sc_Database___init__ : FnScope ["self"] ["self"] (defScope sDatabase___init__) := C8.fnScope_by (by decide +kernel)
theorem mak_Database (F : FunD K "__init__" "Database.__init__" (defArgs sDatabase___init__) (defBody sDatabase___init__) (defScope sDatabase___init__) [] [] f fd) (M : Mk K CD f) (hm : mg "Database" = some (.ref CD)) (L : Kl K CR CD) : C8.Mak P w K mg base 1 "Database" CD (spDbInit CD) [] := by
  refine ⟨f, fd, ["self"], [], M, F.ok sc_Database___init__ (fun vs H Q E h => ?_) fun cdv A outer s H vs Q E hr h => ?_, hm, F.bindsN (fun _ _ _ _ _ _ us hl => match us, hl with | [_], _ => rfl), .nil⟩
  · obtain ⟨x, dx, rfl, _⟩ := h
    rfl
  · obtain ⟨x, dx, rfl, hx, k⟩ := h
    have main : ∃ t, PSs (cxOf CX0 P w K mg base ["self"] "Database.__init__" (defScope sDatabase___init__) f cdv A outer s H E).nox (defBody sDatabase___init__) t ∧ t { nx := fun _ H' => Q .non H', rt := Q } (start ["self"] [.ref x]) H := by
      refine ⟨_, (pss_one (ps_fld (pv 0) pe_dnewK rfl)), ?_⟩
      show ∀ ta, _ = none → _
      intro ta hta
      have xt : x ≠ ta := ne_of_none hx hta
      refine ⟨_, rfl, x, CD, dx, [], rfl, by rw [upd_ne xt]; exact hx, L.cD, L.nT, by decide, ?_⟩
      exact k ta _ (fun a o ha h => by rw [upd_ne ha, upd_ne (ne_of_none h hta)]; exact h) hta (by rw [upd_same]; rfl) (by rw [upd_ne xt.symm, upd_same])
    obtain ⟨t, h1, h2⟩ := main
    exact ⟨t, h1.nox, h2⟩
end
end K86
end
section
set_option maxRecDepth 100000
set_option maxHeartbeats 4000000
namespace K86
open PySem PySem.Spec PyProof.Rows L2 HF
open Evl (Ex Ev EvT EvL EvU EvA)
theorem tKV_put {T : Tabs} {x : Str} {t : RelRec} (h : tFind T x = none) : putK (tKV T) (Sum.inr x) (.ref t.ra) = tKV (T ++ [(x, t)]) := by
  have no : ((tKV T).any fun kv => decide (kv.1 = Sum.inr x)) = false := by
    rw [valV_any, tKV_val, h]
    rfl
  unfold putK
  rw [if_neg (by rw [no]; decide)]
  unfold tKV
  rw [List.map_append] <;> rfl
/-- the table of one relation is told anew -/
def setRows (T : Tabs) (x : Str) (rows : List Row) : Tabs := T.map fun t => if t.1 = x then (t.1, { t.2 with rows := rows }) else t
theorem setRows_kv (T : Tabs) (x : Str) (rows : List Row) : tKV (setRows T x rows) = tKV T := by
  unfold tKV setRows
  rw [List.map_map]
  refine List.map_congr_left fun t _ => ?_
  by_cases e : t.1 = x <;> simp [e]
theorem setRows_find {T : Tabs} {x : Str} {rows : List Row} (y : Str) : rowsOf (setRows T x rows) y = if y = x ∧ (tFind T x).isSome then rows else rowsOf T y := by
  have key : tFind (setRows T x rows) y = (tFind T y).map fun t => if y = x then { t with rows := rows } else t := by
    induction T with
    | nil => rfl
    | cons p T ih =>
      show tFind ((if p.1 = x then (p.1, { p.2 with rows := rows }) else p) :: setRows T x rows) y = _
      rw [tFind_cons, tFind_cons, ih]
      by_cases e2 : p.1 = x
      · rw [if_pos e2]
        by_cases e : p.1 = y
        · rw [if_pos e, if_pos e, Option.map_some, if_pos (e.symm.trans e2)]
        · rw [if_neg e, if_neg e]
      · rw [if_neg e2]
        by_cases e : p.1 = y
        · rw [if_pos e, if_pos e, Option.map_some, if_neg fun z => e2 (e.trans z)]
        · rw [if_neg e, if_neg e]
  unfold rowsOf
  rw [key]
  by_cases e : y = x
  · subst e
    cases q : tFind T y with
    | none => simp
    | some t => simp
  · cases q : tFind T y with
    | none => simp [e]
    | some t => simp [e]
section
variable {P : Program} {w : World} {K : PySem.W.Frag} {mg : Str → Option Value} {base : Heap} {f : Addr} {fd : FuncData} {σ : L2.St} {H : Hp} {anyA CR CD : Addr}
theorem DbNew.exd {H0 H H' : Hp} {db : Addr} {T : Tabs} {n n' : Nat} (d : DbNew P w H0 H CD CR db T n) (e : Ex H H') (hn : n ≤ n') : DbNew P w H0 H' CD CR db T n' := by
  refine ⟨d.ex.trans e, ?_, fun t ht => ?_, d.apart, Nat.le_trans d.len hn⟩
  · obtain ⟨dx, ta, h1, h2, h3⟩ := d.at_
    exact ⟨dx, ta, e _ _ h1, e _ _ h2, h3⟩
  · obtain ⟨h1, h2, h3, h4, h5⟩ := d.tabs t ht
    exact ⟨⟨e _ _ h1.1, e _ _ h1.2⟩, e _ _ h2, h3, by omega, h5⟩
def spDbRelation (P : Program) (w : World) (CD CR : Addr) : Sp := fun vs H Q _ => ∃ H0 db x T n, vs = [.ref db, .str x] ∧ DbNew P w H0 H CD CR db T n ∧ n ≤ 1000 ∧
  ∀ H' T' t, DbNew P w H0 H' CD CR db T' (n + 1) → tFind T' x = some t → (∀ y, rowsOf T' y = rowsOf T y) → FrD H H' → Q (.ref t.ra) H'
theorem sc_Database_relation : FnScope ["self", "name"] ["self", "name"] (defScope sDatabase_relation) := C8.fnScope_by (by decide +kernel)
theorem s_retDget {td ty : TE} {D : Ends} {d : Addr} {k : Key} {v : V} {kvs : List (Key × V)} (hd : Ev td σ H (.ref d)) (hy : Ev ty σ H (kV k)) (h : H d = some (.dK kvs)) (hv : valV kvs k = some v) (q : ∀ H1, Ex H H1 → D.rt v H1) : tRet (tDGet td ty) D σ H := hd H (Ex.refl H) _ fun H1 e1 => hy H1 e1 _ fun H2 e2 =>
  have e := e1.trans e2
  ⟨d, _, rfl, by
    have := DGet.k (k := k) (e _ _ h)
    rw [hv] at this
    exact this, q H2 e⟩
theorem met_Database_relation {rT : Addr} (F : FnP K "relation" "Database.relation" sDatabase_relation f fd) (me : Meth K CD "relation" f) (L : Kl K CR CD) (c_Relation : C8.Mak P w K mg base 1 "Relation" CR (spRelInit P w CR rT) [.ref rT]) : C8.Met P w K mg base 3 CD "relation" (spDbRelation P w CD CR) [] := by
  refine mkMet L.cD me F sc_Database_relation (fun _ _ _ _ _ _ us hl => match us, hl with | [_, _], _ => rfl) (fun vs H Q E h => ?_) (fun cdv A outer s H vs Q E hr h => ?_)
  · obtain ⟨H0, db, x, T, n, rfl, _⟩ := h
    rfl
  · obtain ⟨H0, db, x, T, n, rfl, hd, hn1, k⟩ := h
    have hu := hu_of hr
    obtain ⟨dx, ta, h1, h2, h3⟩ := hd.at_
    refine ⟨_, (pss_cons (ps_if (pt_cmp (pc_dnotin hu (pv 1) (pe_fld (pv 0) rfl))) (pss_one (ps_dput hu (pe_fld (pv 0) rfl) (pv 1) (pe_mk0 c_Relation hr (by decide) rfl) rfl))
      pss_nil)
      (pss_one (ps_ret (pe_dget hu (pe_fld (pv 0) rfl) (pv 1) (fun _ _ => rfl))))), ?_⟩
    have fT : ∀ {σ : L2.St} {H1 : Hp}, σ[0]? = some (some (.ref db)) → H1 db = some (.ins CD dx [("tables", .ref ta)]) → Ev (tFld K (tVar 0) "tables") σ H1 (.ref ta) := fun hs h => ev_fld (Evl.ev_var hs) h L.cD L.nT rfl
    refine Evl.q_when (b := !(valV (tKV T) (.inr x)).isSome) (et_dninK (k := Sum.inr x) (Evl.ev_var rfl) (fT rfl h1) h2) (fun hb H1 e1 => ?_) (fun hb H1 e1 => ?_)
    · have hn : tFind T x = none := by
        rw [tKV_val, Option.isSome_map] at hb
        cases q : tFind T x with
        | none => rfl
        | some t => rw [q] at hb; cases hb
      show ∀ a dy, H1 a = none → H1 dy = none → dy ≠ a → _
      intro a dy na ndy nda
      have e2 : Ex H1 (upd (upd H1 dy (.own a)) a (.ins CR dy [])) := (Ex.new ndy).trans (Ex.new (by rw [upd_ne nda.symm]; exact na))
      have ha2 : (upd (upd H1 dy (.own a)) a (.ins CR dy [])) a = some (.ins CR dy []) := upd_same
      generalize upd (upd H1 dy (.own a)) a (.ins CR dy []) = H2 at e2 ha2 ⊢
      have na0 : H a = none := Evl.fresh_back e1 na
      refine ⟨a, dy, rfl, ha2, fun ma ia H3 keep nma nia mi hx hma hia => ⟨rfl, ?_⟩⟩
      have e12 := e1.trans e2
      have ke : ∀ b o, H b = some o → H3 b = some o := fun b o h => keep b o (ne_of_none h na0) (e12 _ _ h)
      have nma0 : H ma = none := Evl.fresh_back e12 nma
      have nia0 : H ia = none := Evl.fresh_back e12 nia
      refine (fT (σ := [some (.ref db), some (.str x)]) rfl (ke _ _ h1)) H3 (Ex.refl H3) _ fun H4 e4 => ?_
      refine ⟨_, rfl, ta, _, rfl, DPut.k (k := Sum.inr x) (e4 _ _ (ke _ _ h2)) ?_, ?_⟩
      · have zz : sizeLine = 16777216 := sizeLine_eq
        have ln := hd.len
        unfold tKV
        rw [List.length_map]
        omega
      have pk := tKV_put (T := T) (x := x) (t := ⟨a, dy, ma, ia, []⟩) hn
      rw [pk]
      have ta_ne : ∀ {b : Addr} {o : HO}, H3 b = some o → (∀ kv, o ≠ .dK kv) → (upd H4 ta (.dK (tKV (T ++ [(x, ⟨a, dy, ma, ia, []⟩)])))) b = some o := fun {b o} h n => by
        rw [upd_ne (ne_of h (ke _ _ h2) (n _))]
        exact e4 _ _ h
      have new : DbNew P w H0 (upd H4 ta (.dK (tKV (T ++ [(x, ⟨a, dy, ma, ia, []⟩)])))) CD CR db (T ++ [(x, ⟨a, dy, ma, ia, []⟩)]) (n + 1) := by
        refine ⟨?_, ⟨dx, ta, ta_ne (ke _ _ h1) fun kv z => (by cases z), upd_same, h3⟩, fun t ht => ?_, fun s hs t ht z => ?_, by rw [List.length_append, List.length_cons, List.length_nil]; have := hd.len; omega⟩
        · exact Ex.mut (hd.ex.trans fun b o h => e4 _ _ (ke b o h)) h3
        · rcases List.mem_append.mp ht with ht | ht
          · obtain ⟨g1, g2, g3, g4, g5⟩ := hd.tabs t ht
            exact ⟨⟨ta_ne (ke _ _ g1.1) fun kv z => (by cases z), ta_ne (ke _ _ g1.2) fun kv z => (by cases z)⟩, ta_ne (ke _ _ g2) fun kv z => (by cases z), g3, by omega, g5⟩
          · have : t = (x, ⟨a, dy, ma, ia, []⟩) := by simpa using ht
            rw [this]
            exact ⟨⟨ta_ne hx fun kv z => (by cases z), ta_ne hma fun kv z => (by cases z)⟩, ta_ne hia fun kv z => (by cases z), List.nodup_nil, Nat.zero_le _, Evl.fresh_back hd.ex nma0⟩
        · have old : ∀ u ∈ T, u.2.ia ≠ ia ∧ u.2.ma ≠ ma ∧ u.1 ≠ x := fun u hu => by
            obtain ⟨g1, g2, _⟩ := hd.tabs u hu
            exact ⟨ne_of_none g2 nia0, ne_of_none g1.2 nma0, tFind_none hn u hu⟩
          rcases List.mem_append.mp hs with hs | hs
          · rcases List.mem_append.mp ht with ht | ht
            · exact hd.apart s hs t ht z
            · have : t = (x, ⟨a, dy, ma, ia, []⟩) := by simpa using ht
              rw [this] at z
              obtain ⟨o1, o2, o3⟩ := old s hs
              rcases z with z | z | z
              · exact absurd z o1
              · exact absurd z o2
              · exact absurd z o3
          · have es : s = (x, ⟨a, dy, ma, ia, []⟩) := by simpa using hs
            rcases List.mem_append.mp ht with ht | ht
            · rw [es] at z
              obtain ⟨o1, o2, o3⟩ := old t ht
              rcases z with z | z | z
              · exact absurd z.symm o1
              · exact absurd z.symm o2
              · exact absurd z.symm o3
            · have et : t = (x, ⟨a, dy, ma, ia, []⟩) := by simpa using ht
              rw [es, et]
      have fr : FrD H (upd H4 ta (.dK (tKV (T ++ [(x, ⟨a, dy, ma, ia, []⟩)])))) := fun b o h n m => ta_ne (ke _ _ h) n
      refine s_retDget (d := ta) (k := Sum.inr x) (v := .ref a) (kvs := tKV (T ++ [(x, ⟨a, dy, ma, ia, []⟩)])) (fT rfl (ta_ne (ke _ _ h1) fun kv z => by cases z)) (Evl.ev_var rfl) upd_same (by rw [tKV_val, tFind_app, hn]; simp) fun H5 e5 => ?_
      refine k H5 _ ⟨a, dy, ma, ia, []⟩ (new.exd e5 (Nat.le_refl _)) (by rw [tFind_app, hn]; simp) (fun y => ?_) (fr.trans (FrD.of_ex e5))
      unfold rowsOf
      rw [tFind_app]
      cases q : tFind T y with
      | some u => rfl
      | none =>
        by_cases e : x = y
        · simp [e]
        · simp [e]
    · have hy : ∃ t, tFind T x = some t := by
        rw [tKV_val, Option.isSome_map] at hb
        cases q : tFind T x with
        | none => rw [q] at hb; cases hb
        | some t => exact ⟨t, rfl⟩
      obtain ⟨t, ht⟩ := hy
      exact s_retDget (d := ta) (k := Sum.inr x) (v := .ref t.ra) (kvs := tKV T) (fT rfl (e1 _ _ h1)) (Evl.ev_var rfl) (e1 _ _ h2) (by rw [tKV_val, ht]; rfl) fun H2 e2 => k H2 T t (hd.exd (e1.trans e2) (Nat.le_succ n)) ht (fun _ => rfl) (FrD.of_ex (e1.trans e2))
end
end K86
end
section
set_option maxRecDepth 100000
set_option maxHeartbeats 4000000
namespace K86
open PySem PySem.Spec PyProof.Rows L2 HF
open Evl (Ex Ev EvT EvL EvU EvA)
def setR (x : Str) (rows : List Row) (t : Str × RelRec) : Str × RelRec := if t.1 = x then (t.1, { t.2 with rows := rows }) else t
theorem setR_eq (T : Tabs) (x : Str) (rows : List Row) : setRows T x rows = T.map (setR x rows) := rfl
theorem setR_same (x : Str) (rows : List Row) (t : Str × RelRec) : (setR x rows t).1 = t.1 ∧ (setR x rows t).2.ra = t.2.ra ∧ (setR x rows t).2.dx = t.2.dx ∧ (setR x rows t).2.ma = t.2.ma ∧ (setR x rows t).2.ia = t.2.ia := by
  unfold setR
  by_cases e : t.1 = x <;> simp [e]
section
variable {P : Program} {w : World} {K : PySem.W.Frag} {mg : Str → Option Value} {base : Heap} {f : Addr} {fd : FuncData} {σ : L2.St} {H : Hp} {anyA CR CD : Addr}
theorem DbNew.added {H0 H1 H2 : Hp} {db : Addr} {T : Tabs} {n : Nat} {x : Str} {t : RelRec} {rows : List Row} (d : DbNew P w H0 H1 CD CR db T n) (ht : tFind T x = some t) (nd : rows.Nodup) (hl : rows.length ≤ n + 1) (keep : ∀ a o, a ≠ t.ma → H1 a = some o → H2 a = some o) (hma : H2 t.ma = some (.dT (mKV rows))) :
    DbNew P w H0 H2 CD CR db (setRows T x rows) (n + 1) := by
  have tm := tFind_mem ht
  obtain ⟨r1, i1, _, _, n1⟩ := d.tabs _ tm
  refine ⟨fun a o h => keep a o (ne_of_none h n1) (d.ex a o h), ?_, fun u hu => ?_, fun s hs u hu z => ?_, by unfold setRows; rw [List.length_map]; have := d.len; omega⟩
  · obtain ⟨dx, ta, h1, h2, h3⟩ := d.at_
    exact ⟨dx, ta, keep _ _ (ne_of h1 r1.2 fun z => by cases z) h1, by rw [setRows_kv]; exact keep _ _ (ne_of h2 r1.2 fun z => by cases z) h2, h3⟩
  · rw [setR_eq] at hu
    obtain ⟨v, hv, rfl⟩ := List.mem_map.mp hu
    obtain ⟨r2, i2, nd2, l2, n2⟩ := d.tabs v hv
    obtain ⟨s1, s2, s3, s4, s5⟩ := setR_same x rows v
    by_cases e : v.1 = x
    · have ev : v = (x, t) := d.apart v hv (x, t) tm (.inr (.inr e))
      subst ev
      have es : setR x rows (x, t) = (x, { t with rows := rows }) := by unfold setR; rw [if_pos rfl]
      rw [es]
      exact ⟨⟨keep _ _ (ne_of r1.1 r1.2 fun z => by cases z) r1.1, hma⟩, keep _ _ (ne_of i1 r1.2 fun z => by cases z) i1, nd, hl, n1⟩
    · have es : setR x rows v = v := by unfold setR; rw [if_neg e]
      rw [es]
      have nm : v.2.ma ≠ t.ma := fun z => e (congrArg (·.1) (d.apart v hv (x, t) tm (.inr (.inl z))))
      exact ⟨⟨keep _ _ (ne_of r2.1 r1.2 fun z => by cases z) r2.1, keep _ _ nm r2.2⟩, keep _ _ (ne_of i2 r1.2 fun z => by cases z) i2, nd2, by omega, n2⟩
  · rw [setR_eq] at hs hu
    obtain ⟨s0, hs0, rfl⟩ := List.mem_map.mp hs
    obtain ⟨u0, hu0, rfl⟩ := List.mem_map.mp hu
    obtain ⟨a1, a2, a3, a4, a5⟩ := setR_same x rows s0
    obtain ⟨b1, b2, b3, b4, b5⟩ := setR_same x rows u0
    rw [a1, a4, a5, b1, b4, b5] at z
    rw [d.apart s0 hs0 u0 hu0 z]
theorem DbNew.froze {H0 H : Hp} {db : Addr} {T : Tabs} {n : Nat} (d : DbNew P w H0 H CD CR db T n) (hn : n ≤ 1000) : DbIs P w H CD CR db T 0 := by
  refine ⟨let ⟨dx, ta, h1, h2, _⟩ := d.at_; ⟨dx, ta, h1, h2⟩, fun t ht => ?_, fun s hs t ht z => d.apart s hs t ht (.inl z)⟩
  obtain ⟨h1, h2, h3, h4, _⟩ := d.tabs t ht
  exact ⟨h1, ⟨[], ⟨h2, fun _ z => by cases z⟩, fun _ z => (by cases z), Nat.le_refl _⟩, h3, by omega⟩
def spDbAdd (P : Program) (w : World) (CD CR : Addr) : Sp := fun vs H Q _ => ∃ H0 db x b T n r, vs = [.ref db, .str x, .ref b] ∧ DbNew P w H0 H CD CR db T n ∧ n ≤ 900 ∧ H b = some (.tup (List.map kV r)) ∧
  ∀ v H' T', DbNew P w H0 H' CD CR db T' (n + 2) → (∀ y, rowsOf T' y = if y = x then addRow (rowsOf T x) r else rowsOf T y) → FrD H H' → Q v H'
theorem sc_Database_add : FnScope ["self", "name", "row"] ["self", "name", "row"] (defScope sDatabase_add) := C8.fnScope_by (by decide +kernel)
theorem met_Database_add (F : FnP K "add" "Database.add" sDatabase_add f fd) (me : Meth K CD "add" f) (L : Kl K CR CD) (m_relation : C8.Met P w K mg base 3 CD "relation" (spDbRelation P w CD CR) []) (m_add : C8.Met P w K mg base 1 CR "add" (spRelAdd P w CR) []) : C8.Met P w K mg base 4 CD "add" (spDbAdd P w CD CR) [] := by
  refine mkMet L.cD me F sc_Database_add (fun _ _ _ _ _ _ us hl => match us, hl with | [_, _, _], _ => rfl) (fun vs H Q E h => ?_) (fun cdv A outer s H vs Q E hr h => ?_)
  · obtain ⟨H0, db, x, b, T, n, r, rfl, _⟩ := h
    rfl
  · obtain ⟨H0, db, x, b, T, n, r, rfl, hd, hn, hb, k⟩ := h
    obtain ⟨dx, ta, h1, h2, h3⟩ := hd.at_
    refine ⟨_, (pss_one (ps_ret (C8.pe_mt m_add hr (by decide) (C8.pe_mt m_relation hr (by decide) (pv 0) (pa_cons (pv 1) pa_nil)) (pa_cons (pv 2) pa_nil)))), ?_⟩
    refine ⟨_, rfl, db, dx, _, rfl, h1, rfl, _, rfl, ?_⟩
    refine ⟨H0, db, x, T, n, rfl, hd, by omega, fun H1 T1 t d1 ht hrows fr => ?_⟩
    obtain ⟨r1, i1, nd1, l1, n1⟩ := d1.tabs _ (tFind_mem ht)
    have l1 : t.rows.length ≤ n + 1 := l1
    refine ⟨t.ra, t.dx, relF t, rfl, r1.1, rfl, _, rfl, ?_⟩
    have hb1 : H1 b = some (.tup (r.map kV)) := fr _ _ hb (fun _ z => by cases z) fun _ z => by cases z
    refine ⟨t, b, r, rfl, r1, i1, hb1, by omega, fun v H2 keep hma => ?_⟩
    have ht0 : rowsOf T1 x = t.rows := by unfold rowsOf; rw [ht]
    refine k v H2 (setRows T1 x (addRow t.rows r)) ((d1.added ht (addRow_nodup nd1) (by have := addRow_len (rows := t.rows) (r := r); omega) keep hma)) (fun y => ?_) (fr.trans fun a o h n m => keep a o (fun z => by rw [z, r1.2] at h; cases h; exact m _ rfl) h)
    rw [setRows_find, ht]
    by_cases e : y = x
    · subst e
      rw [if_pos ⟨rfl, rfl⟩, if_pos rfl, ← hrows, ht0]
    · rw [if_neg (fun z => e z.1), if_neg e, hrows]
end
end K86
end
section
set_option maxRecDepth 100000
set_option maxHeartbeats 4000000
namespace K86
open PySem PySem.Spec PyProof.Rows L2 HF
open Evl (Ex Ev EvT EvL EvU EvA)
/-! ### what matched finds -/
def ev (θ : Str → Key) : Tm → Key
  | .val k => k
  | .var x => θ x
def Agr (θ : Str → Key) (b : Bd) : Prop := ∀ x k, bGet b x = some k → θ x = k
def bLe (b b' : Bd) : Prop := ∀ x k, bGet b x = some k → bGet b' x = some k
theorem bGet_app (b : Bd) (x : Str) (u : Key) (y : Str) : bGet (b ++ [(x, u)]) y = match bGet b y with
  | some t => some t
  | none => if x = y then some u else none := by
  induction b with
  | nil =>
    show bGet [(x, u)] y = _
    rw [bGet_cons]
    rfl
  | cons p b ih =>
    show bGet (p :: (b ++ [(x, u)])) y = _
    rw [bGet_cons, bGet_cons]
    by_cases e : p.1 = y
    · rw [if_pos e, if_pos e]
    · rw [if_neg e, if_neg e, ih]
theorem mStep_sound {t : Tm} {k : Key} {b b' : Bd} (h : mStep t k b = some b') : bLe b b' ∧ res t b' = some k := by
  unfold mStep at h
  cases t with
  | val c =>
    simp only at h
    by_cases e : c = k
    · rw [if_pos e] at h
      cases h
      exact ⟨fun _ _ z => z, congrArg some e⟩
    · rw [if_neg e] at h
      cases h
  | var x =>
    simp only at h
    cases e : bGet b x with
    | none =>
      rw [e] at h
      cases h
      refine ⟨fun y k' hy => ?_, ?_⟩
      · rw [bGet_app, hy]
      · show bGet _ x = some k
        rw [bGet_app, e]
        simp
    | some k' =>
      rw [e] at h
      simp only at h
      by_cases q : k' = k
      · rw [if_pos q] at h
        cases h
        exact ⟨fun _ _ z => z, by show bGet b x = some k; rw [e, q]⟩
      · rw [if_neg q] at h
        cases h
theorem res_le {t : Tm} {b b' : Bd} {k : Key} (h : bLe b b') (e : res t b = some k) : res t b' = some k := by
  cases t with
  | val c => exact e
  | var x => exact h x k e
theorem mStepZ_sound : ∀ {ts : List Tm} {r : Row} {b b' : Bd}, ts.length = r.length → mStepZ (ts.zip r) (some b) = some b' → bLe b b' ∧ ts.map (fun t => res t b') = r.map some
  | [], [], b, b', _, h => by
    cases h
    exact ⟨fun _ _ z => z, rfl⟩
  | [], _ :: _, _, _, h, _ => by cases h
  | _ :: _, [], _, _, h, _ => by cases h
  | t :: ts, k :: r, b, b', hl, h => by
    have h : mStepZ (ts.zip r) (mStep t k b) = some b' := h
    cases e : mStep t k b with
    | none => rw [e, mStepZ_none] at h; cases h
    | some b1 =>
      rw [e] at h
      obtain ⟨h1, h2⟩ := mStepZ_sound (ts := ts) (r := r) (Nat.succ.inj hl) h
      obtain ⟨h3, h4⟩ := mStep_sound e
      exact ⟨fun x k' z => h1 x k' (h3 x k' z), by rw [List.map_cons, List.map_cons, h2, res_le h1 h4]⟩
theorem mStep_full {θ : Str → Key} {t : Tm} {b : Bd} (h : Agr θ b) : ∃ b', mStep t (ev θ t) b = some b' ∧ Agr θ b' := by
  cases t with
  | val c => exact ⟨b, if_pos (show c = ev θ (Tm.val c) from rfl), h⟩
  | var x =>
    unfold mStep
    simp only
    cases e : bGet b x with
    | none =>
      refine ⟨_, rfl, fun y k hy => ?_⟩
      rw [bGet_app] at hy
      cases q : bGet b y with
      | some k' =>
        rw [q] at hy
        cases hy
        exact h y _ q
      | none =>
        rw [q] at hy
        simp only at hy
        by_cases z : x = y
        · rw [if_pos z] at hy
          rw [← z]
          exact Option.some.inj hy
        · rw [if_neg z] at hy
          cases hy
    | some k' =>
      have := h x k' e
      exact ⟨b, if_pos (show k' = ev θ (Tm.var x) from this.symm), h⟩
theorem mStepZ_full {θ : Str → Key} : ∀ {ts : List Tm} {b : Bd}, Agr θ b → ∃ b', mStepZ (ts.zip (ts.map (ev θ))) (some b) = some b' ∧ Agr θ b'
  | [], b, h => ⟨b, rfl, h⟩
  | t :: ts, b, h => by
    obtain ⟨b1, h1, h2⟩ := mStep_full (t := t) h
    obtain ⟨b2, h3, h4⟩ := mStepZ_full (ts := ts) h2
    exact ⟨b2, by show mStepZ _ (mStep t (ev θ t) b) = _; rw [h1]; exact h3, h4⟩
theorem agr_match {θ : Str → Key} {ts : List Tm} {b : Bd} (h : Agr θ b) : matchO (ts.map fun t => res t b) (ts.map (ev θ)) := by
  refine ⟨by rw [List.length_map, List.length_map], fun i k hk => ?_⟩
  rw [List.getElem?_map] at hk ⊢
  obtain ⟨t, ht, hr⟩ := Option.map_eq_some_iff.mp hk
  rw [ht]
  show some (ev θ t) = some k
  cases t with
  | val c => exact hr
  | var x => exact congrArg some (h x k hr)
/-- a list of bindings -/
def BdL (H : Hp) (n : Nat) (L : List (Addr × Bd)) : Prop := ∀ p ∈ L, H p.1 = some (.dK (bdKV p.2)) ∧ BdOk p.2 ∧ p.2.length ≤ n
abbrev refsB (L : List (Addr × Bd)) : List V := L.map fun p => V.ref p.1
theorem BdL.rf {H H' : Hp} {n n' : Nat} (r : Rf H H') (hn : n ≤ n') {L : List (Addr × Bd)} (h : BdL H n L) : BdL H' n' L := fun p hp => let ⟨h1, h2, h3⟩ := h p hp; ⟨r _ _ h1 fun φ z => (by cases z), h2, by omega⟩
def InDb (T : Tabs) (a : At) (b : Bd) : Prop := ∃ r ∈ rowsOf T a.1, a.2.map (fun t => res t b) = r.map some
def InTh (T : Tabs) (a : At) (θ : Str → Key) : Prop := a.2.map (ev θ) ∈ rowsOf T a.1
theorem InDb.le {T : Tabs} {a : At} {b b' : Bd} (h : bLe b b') (i : InDb T a b) : InDb T a b' := by
  obtain ⟨r, hr, e⟩ := i
  refine ⟨r, hr, ?_⟩
  rw [← e]
  refine List.map_congr_left fun t ht => ?_
  have hs : ∃ k, res t b = some k := by
    have : res t b ∈ a.2.map (fun t => res t b) := List.mem_map.mpr ⟨t, ht, rfl⟩
    rw [e] at this
    obtain ⟨k, _, hk⟩ := List.mem_map.mp this
    exact ⟨k, hk.symm⟩
  obtain ⟨k, hk⟩ := hs
  rw [hk, res_le h hk]
section
variable {P : Program} {w : World} {K : PySem.W.Frag} {mg : Str → Option Value} {base : Heap} {f : Addr} {fd : FuncData} {σ : L2.St} {H : Hp} {anyA CR CD : Addr}
def FrL (H H' : Hp) : Prop := ∀ a o, H a = some o → (∀ xs, o ≠ .lst xs) → H' a = some o
theorem FrL.mut {H : Hp} {p : Addr} {xs ys : List V} (h : H p = some (.lst xs)) : FrL H (upd H p (.lst ys)) := fun a o e n => by
  rw [upd_ne (fun z => by rw [z, h] at e; cases e; exact n _ rfl)]
  exact e
theorem Rf.mut {H H' : Hp} {p : Addr} {o : HO} (r : Rf H H') (h : H p = none) : Rf H (upd H' p o) := fun a u e n => by
  rw [upd_ne (ne_of_none e h)]
  exact r a u e n
theorem DbIs.frl {H H' : Hp} {db : Addr} {T : Tabs} {c c' : Nat} (d : DbIs P w H CD CR db T c) (e : FrL H H') (hc : c ≤ c') : DbIs P w H' CD CR db T c' := by
  have tx : TX H H' := fun a xs h => e a _ h fun _ z => by cases z
  refine ⟨?_, fun t ht => ?_, d.apart⟩
  · obtain ⟨dx, ta, h1, h2⟩ := d.at_
    exact ⟨dx, ta, e _ _ h1 fun _ z => (by cases z), e _ _ h2 fun _ z => by cases z⟩
  · obtain ⟨h1, h2, h3, h4⟩ := d.tabs t ht
    obtain ⟨L, i1, i2, i3⟩ := h2
    exact ⟨⟨e _ _ h1.1 fun _ z => (by cases z), e _ _ h1.2 fun _ z => by cases z⟩, ⟨L, ⟨e _ _ i1.1 fun _ z => (by cases z), fun en hen => (i1.2 en hen).mono tx⟩, fun en hen => (i2 en hen).mono fun a kvs h => e _ _ h fun _ z => (by cases z), by omega⟩, h3, h4⟩
theorem BdL.frl {H H' : Hp} {n n' : Nat} (r : FrL H H') (hn : n ≤ n') {L : List (Addr × Bd)} (h : BdL H n L) : BdL H' n' L := fun p hp => let ⟨h1, h2, h3⟩ := h p hp; ⟨r _ _ h1 fun φ z => (by cases z), h2, by omega⟩
theorem rowsOf_len {H : Hp} {db : Addr} {T : Tabs} {c : Nat} (d : DbIs P w H CD CR db T c) (x : Str) : (rowsOf T x).length ≤ 1000 := by
  unfold rowsOf
  cases q : tFind T x with
  | none => simp
  | some t =>
    obtain ⟨_, _, _, h⟩ := d.tabs _ (tFind_mem q)
    exact h
/-- with_rows, behind: of an atom's or a literal's data -/
def spRows (P : Program) (w : World) (K : PySem.W.Frag) (CD CR : Addr) (enc : At → PyData) : Sp := fun vs H Q _ => ∃ v db p a T c b, vs = [v, .ref db, .ref p] ∧ TD K H v (enc a) ∧ DbIs P w H CD CR db T c ∧ c ≤ 40000 ∧ H p = some (.dK (bdKV b)) ∧ BdOk b ∧ b.length ≤ 800 ∧ a.2.length ≤ 20 ∧
  ∀ q H' L, Rf H H' → DbIs P w H' CD CR db T (c + 1) → H q = none → H' q = some (.lst (refsB L)) → BdL H' (b.length + 20) L → (∀ b' ∈ L.map (·.2), bLe b b' ∧ InDb T a b') → (∀ θ, Agr θ b → InTh T a θ → ∃ b' ∈ L.map (·.2), Agr θ b') → L.length ≤ (rowsOf T a.1).length → Q (.ref q) H'
theorem sc_with_rows : FnScope ["atom", "database", "bound", "found", "row", "further"] ["atom", "database", "bound"] (defScope swith_rows) := C8.fnScope_by (by decide +kernel)
theorem cal_with_rows (F : FnP K "with_rows" "with_rows" swith_rows f fd) (gm : mg "with_rows" = some (.ref f)) (T0 : Bl mg) (c_pattern_of : C8.Cal P w K mg base 2 "pattern_of" (spPatternOf K) []) (c_matched : C8.Cal P w K mg base 1 "matched" (spMatched K) []) (m_match : C8.Met P w K mg base 4 CD "match" (spDbMatch P w CD CR) []) : C8.Cal P w K mg base 5 "with_rows" (spRows P w K CD CR atD) [] := by
  refine mkCal F gm sc_with_rows (fun _ _ _ _ _ _ us hl => match us, hl with | [_, _, _], _ => rfl) (fun vs H Q E h => ?_) (fun cdv A outer s H vs Q E hr h => ?_)
  · obtain ⟨v, db, p, a, T, c, b, rfl, _⟩ := h
    rfl
  · obtain ⟨v, db, p, a, T, c, b, rfl, tv, hd, hc, hp, hbo, hbl, hal, k⟩ := h
    refine ⟨_, (pss_cons (ps_set (i := 3) sc_with_rows.nd rfl (Or.inl rfl) (pe_lst pa_nil))
      (pss_cons (ps_for PassesOwn.never rfl (pi_list (C8.pe_mt m_match hr (by decide) (pv 1) (pa_cons (pe_ix ix_tup (pv 0) pe_int (fun _ _ => rfl)) (pa_cons (C8.pe_c c_pattern_of hr (by decide) rfl (pa_cons (pv 0) (pa_cons (pv 2) pa_nil))) pa_nil)))) (pg_name (i := 4) sc_with_rows.nd rfl (Or.inl rfl))
      (pss_cons (ps_set (i := 5) sc_with_rows.nd rfl (Or.inl rfl) (C8.pe_c c_matched hr (by decide) rfl (pa_cons (pv 0) (pa_cons (pv 4) (pa_cons (pv 2) pa_nil)))))
        (pss_one (ps_if (pt_cmpR op_notN (pv 5) pe_non (nomark _)) (pss_one (ps_expr (pe_bm PySem.F.plainAttrs_list PySem.F.slot_list_append PySem.F.type_list_append mt_append (pv 3) (pa_cons (pv 5) pa_nil))))
        pss_nil))))
      (pss_one (ps_ret (pv 3))))), ?_⟩
    refine Evl.q_asgL (xs := []) (Evl.el_lst Evl.ea_nil (by decide)) fun pf H1 npf e1 hpf => ?_
    obtain ⟨dxd, tad, hdb, htab⟩ := hd.at_
    -- database.match(atom[0], pattern_of(atom, bound))
    refine ⟨_, rfl, db, dxd, _, rfl, e1 _ _ hdb, rfl, ?_⟩
    refine (ed_ix (K := K) (ta := tVar 0) (tb := tC (.int 0)) (σ := [some v, some (.ref db), some (.ref p), some (.ref pf), none, none]) (H := H1) (d := .str a.1) (ed_var rfl (tv.mono_ex e1)) ed_int at0) H1 (Ex.refl H1) _ fun x H2 e2 tx => ?_
    rw [tx.str_inv]
    refine ⟨_, rfl, _, rfl, v, a, p, b, rfl, tv.mono_ex (e1.trans e2), by omega, (e1.trans e2) _ _ hp, fun pa H3 e3 npa hpa => ?_⟩
    have e13 := (e1.trans e2).trans e3
    refine ⟨db, a.1, pa, T, a.2.map (fun t => res t b), c, rfl, hd.ex e13 (Nat.le_refl c), hpa, by rw [List.length_map]; omega, hc, fun pm H4 Lm rf hd4 npm hrl hmem hlen => ?_⟩
    obtain ⟨hpm, hrows⟩ := hrl
    refine ⟨pm, rfl, ⟨_, SqL.of hpm⟩, ?_⟩
    have rf4 : Rf H H4 := (Rf.of_ex e13).trans rf
    have hpf4 : H4 pf = some (.lst []) := rf _ _ ((e2.trans e3) _ _ hpf) fun φ z => by cases z
    have dpf : pm ≠ pf := fun z => by rw [z, (e2.trans e3) _ _ hpf] at npm; cases npm
    refine for_list (xs := Lm.map fun e => V.ref e.1) (fun i σ' H' => ∃ o4 o5 M, σ' = [some v, some (.ref db), some (.ref p), some (.ref pf), o4, o5] ∧ Rf H H' ∧ DbIs P w H' CD CR db T (c + 1) ∧ H' pm = some (.lst (Lm.map fun e => V.ref e.1)) ∧ (∀ e ∈ Lm, H' e.1 = some (.tup (e.2.map kV))) ∧ H' pf = some (.lst (refsB M)) ∧ BdL H' (b.length + 20) M ∧ (∀ b' ∈ M.map (·.2), bLe b b' ∧ InDb T a b') ∧
      (∀ (j : Nat) e b', j < i → Lm[j]? = some e → mStepZ (a.2.zip e.2) (some b) = some b' → b' ∈ M.map (·.2)) ∧ M.length ≤ i) ⟨_, _, [], rfl, rf4, hd4, hpm, hrows, hpf4, fun _ z => (by cases z), fun _ z => (by cases z), fun j _ _ z => absurd z (Nat.not_lt_zero j), Nat.le_refl _⟩ (fun i σ' H' _ pv => ?_) (fun i y σ' H' hy pv => ?_) ?_
    · obtain ⟨_, _, _, _, _, _, h, _⟩ := pv
      exact SqL.of h
    · obtain ⟨o4, o5, M, rfl, rf', hd', hpm', hrows', hpf', hM, hS, hC, hlM⟩ := pv
      rw [List.getElem?_map] at hy
      obtain ⟨e, he, rfl⟩ := Option.map_eq_some_iff.mp hy
      have em : e ∈ Lm := List.mem_of_getElem? he
      obtain ⟨hrm, hmo⟩ := (hmem e.2).mp (List.mem_map.mpr ⟨e, em, rfl⟩)
      have hel : e.2.length = a.2.length := by rw [hmo.1, List.length_map]
      have ilt : i < Lm.length := (List.getElem?_eq_some_iff.mp he).1
      have tv' : TD K H' v (atD a) := tv.mono rf'.tx
      refine ⟨_, rfl, _, rfl, _, rfl, v, e.1, p, a, e.2, b, rfl, tv', hrows' e em, hel, by omega, rf' _ _ hp fun φ z => (by cases z), hbo, by omega, fun x H5 e5 o => ?_⟩
      have rf5 := rf'.trans (Rf.of_ex e5)
      have nC : ∀ {M' : List (Addr × Bd)}, (∀ b' ∈ M.map (·.2), b' ∈ M'.map (·.2)) → (∀ b', mStepZ (a.2.zip e.2) (some b) = some b' → b' ∈ M'.map (·.2)) → ∀ (j : Nat) e' b', j < i + 1 → Lm[j]? = some e' → mStepZ (a.2.zip e'.2) (some b) = some b' → b' ∈ M'.map (·.2) := fun h1 h2 j e' b' hj he' hs => by
        by_cases q : j = i
        · subst q
          rw [he] at he'
          cases he'
          exact h2 b' hs
        · exact h1 b' (hC j e' b' (by omega) he' hs)
      cases ho : mStepZ (a.2.zip e.2) (some b) with
      | none =>
        rw [ho] at o
        have : x = .non := o
        subst this
        refine Evl.s_when (b := false) (Evl.et_is (et_notN (v := .non) (Evl.ev_var rfl)) rfl) (fun hb => absurd hb (by decide)) (fun _ H6 e6 => ?_)
        have e56 := e5.trans e6
        exact ⟨_, _, M, rfl, rf'.trans (Rf.of_ex e56), hd'.ex e56 (Nat.le_refl _), e56 _ _ hpm', fun e he => e56 _ _ (hrows' e he), e56 _ _ hpf', hM.rf (Rf.of_ex e56) (Nat.le_refl _), hS, nC (fun _ h => h) (fun b' h => by rw [ho] at h; cases h), by omega⟩
      | some b' =>
        rw [ho] at o
        obtain ⟨q, rfl, hq, hbo'⟩ := o
        have hlb : b'.length ≤ b.length + 20 := by
          have h1 := mStepZ_len _ ho
          have h2 : (a.2.zip e.2).length ≤ a.2.length := by rw [List.length_zip]; omega
          omega
        refine Evl.s_when (b := true) (Evl.et_is (et_notN (v := .ref q) (Evl.ev_var rfl)) rfl) (fun _ H6 e6 => ?_) (fun hb => absurd hb (by decide))
        have e56 := e5.trans e6
        refine Evl.s_app (l := pf) (xs := refsB M) (v := .ref q) (e56 _ _ hpf') (Evl.ev_var rfl) (Evl.ev_var rfl) (by rw [List.length_map]; have := rowsOf_len hd a.1; omega) fun H7 e7 => ?_
        have e57 := e56.trans e7
        have hpf7 := e57 _ _ hpf'
        have fl : FrL H7 (upd H7 pf (.lst (refsB M ++ [.ref q]))) := FrL.mut hpf7
        refine ⟨_, _, M ++ [(q, b')], rfl, (rf'.trans (Rf.of_ex e57)).mut npf, (hd'.ex e57 (Nat.le_refl _)).frl fl (Nat.le_refl _), by rw [upd_ne dpf]; exact e57 _ _ hpm', fun e he => fl _ _ (e57 _ _ (hrows' e he)) fun _ z => (by cases z), by rw [upd_same]; show _ = some (HO.lst (List.map _ (M ++ _))); rw [List.map_append] <;> rfl, fun p2 hp2 => ?_, fun b2 hb2 => ?_, nC (fun b2 h => by rw [List.map_append]; exact List.mem_append_left _ h) (fun b2 h => ?_), by rw [List.length_append, List.length_cons, List.length_nil]; omega⟩
        · rcases List.mem_append.mp hp2 with hp2 | hp2
          · exact (hM.rf (Rf.of_ex e57) (Nat.le_refl _)).frl fl (Nat.le_refl _) p2 hp2
          · have : p2 = (q, b') := by simpa using hp2
            rw [this]
            exact ⟨fl _ _ ((e6.trans e7) _ _ hq) fun _ z => (by cases z), hbo', hlb⟩
        · rw [List.map_append] at hb2
          rcases List.mem_append.mp hb2 with hb2 | hb2
          · exact hS b2 hb2
          · have : b2 = b' := by simpa using hb2
            rw [this]
            obtain ⟨s1, s2⟩ := mStepZ_sound hel.symm ho
            exact ⟨s1, e.2, hrm, s2⟩
        · rw [ho] at h
          cases h
          rw [List.map_append]
          exact List.mem_append_right _ (by simp)
    · rintro σ' H' ⟨o4, o5, M, rfl, rf', hd', hpm', hrows', hpf', hM, hS, hC, hlM⟩
      rw [List.length_map] at hC hlM
      refine Evl.s_ret (Evl.ev_var rfl) fun H5 e5 => ?_
      refine k pf H5 M (rf'.trans (Rf.of_ex e5)) (hd'.ex e5 (Nat.le_refl _)) npf (e5 _ _ hpf') (hM.rf (Rf.of_ex e5) (Nat.le_refl _)) hS (fun θ ha hi => ?_) (by omega)
      obtain ⟨b', h1, h2⟩ := mStepZ_full (ts := a.2) ha
      have hin : a.2.map (ev θ) ∈ Lm.map (·.2) := (hmem _).mpr ⟨hi, agr_match ha⟩
      obtain ⟨e, he, hee⟩ := List.mem_map.mp hin
      obtain ⟨j, hj⟩ := List.getElem?_of_mem he
      exact ⟨b', hC j e b' (List.getElem?_eq_some_iff.mp hj).1 hj (by rw [hee]; exact h1), h2⟩
end
end K86
end
section
set_option maxRecDepth 100000
set_option maxHeartbeats 4000000
namespace K86
open PySem PySem.Spec PyProof.Rows L2 HF
open Evl (Ex Ev EvT EvL EvU EvA)
section
variable {P : Program} {w : World} {K : PySem.W.Frag} {mg : Str → Option Value} {base : Heap} {f : Addr} {fd : FuncData} {σ : L2.St} {H : Hp} {anyA CR CD : Addr}
theorem sc_behind : FnScope ["literal", "database", "bound", "good"] ["literal", "database", "bound"] (defScope sbehind) := C8.fnScope_by (by decide +kernel)
theorem cal_behind (F : FnP K "behind" "behind" sbehind f fd) (gm : mg "behind" = some (.ref f)) (c_with_rows : C8.Cal P w K mg base 5 "with_rows" (spRows P w K CD CR atD) []) : C8.Cal P w K mg base 6 "behind" (spRows P w K CD CR litD) [] := by
  refine mkCal F gm sc_behind (fun _ _ _ _ _ _ us hl => match us, hl with | [_, _, _], _ => rfl) (fun vs H Q E h => ?_) (fun cdv A outer s H vs Q E hr h => ?_)
  · obtain ⟨v, db, p, a, T, c, b, rfl, _⟩ := h
    rfl
  · obtain ⟨v, db, p, a, T, c, b, rfl, tv, hd, hc, hp, hbo, hbl, hal, k⟩ := h
    refine ⟨_, (pss_cons (ps_if (pt_cmpR op_eq (pe_ix ix_tup (pv 0) pe_int (fun _ _ => rfl)) pe_str (nomark _)) (pss_one (ps_ret (C8.pe_c c_with_rows hr (by decide) rfl (pa_cons (pe_ix ix_tup (pv 0) pe_int (fun _ _ => rfl)) (pa_cons (pv 1) (pa_cons (pv 2) pa_nil))))))
      pss_nil)
      pss_never), ?_⟩
    refine Evl.q_if (b := true) (Evl.et_is (et_eqS (ed_tag (ed_var rfl tv)) ed_str) (by decide +kernel)) (fun _ H1 e1 => ?_) (fun hb => absurd hb (by decide))
    refine (ed_at (K := K) (te := tVar 0) (σ := [some v, some (.ref db), some (.ref p), none]) (H := H1) (ed_var rfl (tv.mono_ex e1))) H1 (Ex.refl H1) _ fun v1 H2 e2 t1 => ?_
    have e12 := e1.trans e2
    exact ⟨_, rfl, _, rfl, v1, db, p, a, T, c, b, rfl, t1, hd.ex e12 (Nat.le_refl c), hc, e12 _ _ hp, hbo, hbl, hal, fun q H' L rf hd' nq => k q H' L ((Rf.of_ex e12).trans rf) hd' (Evl.fresh_back e12 nq)⟩
/-! ### solutions -/
def GoodTh (T : Tabs) (bd : List At) (θ : Str → Key) : Prop := ∀ a ∈ bd, InTh T a θ
def spSolve (P : Program) (w : World) (K : PySem.W.Frag) (CD CR : Addr) : Sp := fun vs H Q _ => ∃ v pd p0 db bd T m, vs = [v, .ref pd, .ref p0] ∧ TD K H v (.tuple (List.map litD bd)) ∧ bd.length ≤ 20 ∧ (∀ a ∈ bd, a.2.length ≤ 20) ∧ H pd = some (.lst (List.replicate bd.length (.ref db))) ∧ DbIs P w H CD CR db T 0 ∧ H p0 = some (.dK []) ∧ 1 ≤ m ∧ (∀ x, (rowsOf T x).length ≤ m) ∧ m ^ bd.length ≤ 300 ∧
  ∀ q H' L, Rf H H' → H' q = some (.lst (refsB L)) → BdL H' 800 L → (∀ b ∈ L.map (·.2), ∀ a ∈ bd, InDb T a b) → (∀ θ, GoodTh T bd θ → ∃ b ∈ L.map (·.2), Agr θ b) → L.length ≤ 300 → Q (.ref q) H'
theorem sc_solutions : FnScope ["body", "databases", "bound", "found", "number", "further", "one"] ["body", "databases", "bound"] (defScope ssolutions) := C8.fnScope_by (by decide +kernel)
theorem cal_solutions (F : FnP K "solutions" "solutions" ssolutions f fd) (gm : mg "solutions" = some (.ref f)) (T0 : Bl mg) (c_order_of : C8.Cal P w K mg base 4 "order_of" (spOrder K) []) (c_behind : C8.Cal P w K mg base 6 "behind" (spRows P w K CD CR litD) []) : C8.Cal P w K mg base 7 "solutions" (spSolve P w K CD CR) [] := by
  refine mkCal F gm sc_solutions (fun _ _ _ _ _ _ us hl => match us, hl with | [_, _, _], _ => rfl) (fun vs H Q E h => ?_) (fun cdv A outer s H vs Q E hr h => ?_)
  · obtain ⟨v, pd, p0, db, bd, T, m, rfl, _⟩ := h
    rfl
  · obtain ⟨v, pd, p0, db, bd, T, m, rfl, tv, hl, hal, hpd, hd, hp0, hm1, hm, hpow, k⟩ := h
    refine ⟨_, (pss_cons (ps_set (i := 3) sc_solutions.nd rfl (Or.inl rfl) (pe_lst (pa_cons (pv 2) pa_nil)))
      (pss_cons (ps_for PassesOwn.never rfl (pi_list (C8.pe_c c_order_of hr (by decide) rfl (pa_cons (pv 0) (pa_cons (pe_callTy (call_listD rfl) (by rfl) T0.f_list (by decide +kernel) (pa_cons (pv 2) pa_nil)) pa_nil)))) (pg_name (i := 4) sc_solutions.nd rfl (Or.inl rfl))
      (pss_cons (ps_set (i := 5) sc_solutions.nd rfl (Or.inl rfl) (pe_lst pa_nil))
        (pss_cons (ps_for PassesOwn.never rfl (pi_list (pv 3)) (pg_name (i := 6) sc_solutions.nd rfl (Or.inl rfl))
        (pss_one (ps_expr (pe_bm PySem.F.plainAttrs_list PySem.F.slot_list_extend PySem.F.type_list_extend mt_extend (pv 5) (pa_cons (C8.pe_c c_behind hr (by decide) rfl (pa_cons (pe_ix ix_tup (pv 0) (pv 4) (fun _ _ => rfl)) (pa_cons (pe_ix ix_list (pv 1) (pv 4) (fun _ _ => rfl)) (pa_cons (pv 6) pa_nil)))) pa_nil)))))
        (pss_one (ps_set (i := 3) sc_solutions.nd rfl (Or.inl rfl) (pv 5))))))
      (pss_one (ps_ret (pv 3))))), ?_⟩
    have fin : ∀ {i : Nat}, i ≤ bd.length → m ^ i ≤ 300 := fun {i} hi => Nat.le_trans (Nat.pow_le_pow_right hm1 hi) hpow
    refine Evl.q_asgL (xs := [.ref p0]) (Evl.el_lst (Evl.ea_cons (Evl.ev_var rfl) Evl.ea_nil) (by simp)) fun pf H1 npf e1 hpf => ?_
    -- order_of(body, list(bound))
    refine ⟨_, rfl, _, rfl, p0, [], rfl, .inl (e1 _ _ hp0), fun pl npl => ?_⟩
    have e2 : Ex H1 (upd H1 pl (.lst [])) := Ex.new npl
    have e12 := e1.trans e2
    refine ⟨v, pl, bd, [], rfl, tv.mono_ex e12, hl, hal, upd_same, by simp, fun po H3 order e3 npo hpo hperm => ?_⟩
    have e13 := e12.trans e3
    have olen : order.length = bd.length := by
      have := hperm.length_eq
      rwa [List.length_range] at this
    have olt : ∀ n ∈ order, n < bd.length := fun n hn => List.mem_range.mp (hperm.mem_iff.mp hn)
    refine ⟨po, rfl, ⟨_, SqL.of hpo⟩, ?_⟩
    have dpo : pf ≠ po := fun z => by
      have q : (upd H1 pl (.lst [])) pf = none := by rw [z]; exact npo
      rw [e2 _ _ hpf] at q
      cases q
    -- what is held behind i literals
    let S : Nat → Bd → Prop := fun i b => ∀ n ∈ order.take i, ∀ a, bd[n]? = some a → InDb T a b
    refine for_list (xs := intsV order) (fun i σ' H' => ∃ pf o4 o5 o6 L c, σ' = [some v, some (.ref pd), some (.ref p0), some (.ref pf), o4, o5, o6] ∧ Rf H H' ∧ DbIs P w H' CD CR db T c ∧ c ≤ i * 300 ∧ H' po = some (.lst (intsV order)) ∧ pf ≠ po ∧ H' pf = some (.lst (refsB L)) ∧ BdL H' (i * 20) L ∧ (∀ b ∈ L.map (·.2), S i b) ∧ (∀ θ, GoodTh T bd θ → ∃ b ∈ L.map (·.2), Agr θ b) ∧ L.length ≤ m ^ i)
      ⟨pf, _, _, _, [(p0, [])], 0, rfl, Rf.of_ex e13, hd.ex e13 (Nat.le_refl 0), by omega, hpo, dpo, (e2.trans e3) _ _ hpf, fun p hp => ?_, fun b hb n hn => ?_, fun θ _ => ⟨[], by simp, fun x k z => by cases z⟩, by simp⟩ (fun i σ' H' _ pv => ?_) (fun i y σ' H' hy pv => ?_) ?_
    · have : p = (p0, []) := by simpa using hp
      rw [this]
      exact ⟨e13 _ _ hp0, List.nodup_nil, Nat.zero_le _⟩
    · rw [List.take_zero] at hn
      cases hn
    · obtain ⟨_, _, _, _, _, _, _, _, _, _, h, _⟩ := pv
      exact SqL.of h
    · obtain ⟨pf, o4, o5, o6, L, c, rfl, rf, hd', hc, hpo', dpo, hpf', hL, hS, hC, hlL⟩ := pv
      unfold intsV at hy
      rw [List.getElem?_map] at hy
      obtain ⟨n, hn, rfl⟩ := Option.map_eq_some_iff.mp hy
      have nlt : n < bd.length := olt n (List.mem_of_getElem? hn)
      have ilt : i < bd.length := by
        have := (List.getElem?_eq_some_iff.mp hn).1
        omega
      obtain ⟨a, ha⟩ : ∃ a, bd[n]? = some a := ⟨_, List.getElem?_eq_getElem nlt⟩
      have am : a ∈ bd := List.mem_of_getElem? ha
      have hda : (bd.map litD)[n]? = some (litD a) := by rw [List.getElem?_map, ha]; rfl
      have tk : order.take (i + 1) = order.take i ++ [n] := by rw [List.take_add_one, hn, Option.toList_some]
      refine Evl.q_asgL (xs := []) (Evl.el_lst Evl.ea_nil (by decide)) fun pu H4 npu e4 hpu => ?_
      have dpu : pf ≠ pu := ne_of_none hpf' npu
      have dpo2 : po ≠ pu := ne_of_none hpo' npu
      have hlm : (m ^ i) * m ≤ 300 := by
        have := fin (i := i + 1) ilt
        rwa [Nat.pow_succ] at this
      refine Evl.q_forLn (a := pf) (xs := refsB L) (Evl.ev_var rfl) (SqL.of (e4 _ _ hpf')) (fun j σ2 H2 => ∃ o6 M, σ2 = [some v, some (.ref pd), some (.ref p0), some (.ref pf), some (.int (n : Int)), some (.ref pu), o6] ∧ Rf H' H2 ∧ DbIs P w H2 CD CR db T (c + j) ∧ H2 pu = some (.lst (refsB M)) ∧ BdL H2 ((i + 1) * 20) M ∧ (∀ b ∈ M.map (·.2), S (i + 1) b) ∧
        (∀ (j' : Nat) e, j' < j → L[j']? = some e → ∀ θ, GoodTh T bd θ → Agr θ e.2 → ∃ b ∈ M.map (·.2), Agr θ b) ∧ M.length ≤ j * m) (fun H5 e5 => ?_) (fun j σ2 H2 _ pv => ?_) ?_ ?_
      · exact ⟨_, [], rfl, Rf.of_ex (e4.trans e5), hd'.ex (e4.trans e5) (Nat.le_refl _), e5 _ _ hpu, fun _ z => (by cases z), fun _ z => (by cases z), fun j' _ z => absurd z (Nat.not_lt_zero j'), by simp⟩
      · obtain ⟨_, _, _, r, _⟩ := pv
        exact SqL.of (r _ _ hpf' fun φ z => by cases z)
      · rintro j y σ2 H2 hy ⟨o6, M, rfl, rf2, hd2, hpu2, hM, hMS, hMC, hMl⟩
        rw [List.getElem?_map] at hy
        obtain ⟨e, he, rfl⟩ := Option.map_eq_some_iff.mp hy
        have em : e ∈ L := List.mem_of_getElem? he
        have jlt : j < L.length := (List.getElem?_eq_some_iff.mp he).1
        have jm : (j + 1) * m ≤ 300 := Nat.le_trans (Nat.mul_le_mul_right m (Nat.le_trans jlt hlL)) hlm
        rw [Nat.succ_mul] at jm
        obtain ⟨hb1, hb2, hb3⟩ := hL e em
        have L300 := fin (i := i) (Nat.le_of_lt ilt)
        have rfH2 : Rf H H2 := rf.trans rf2
        have tv2 : TD K H2 v (.tuple (bd.map litD)) := tv.mono rfH2.tx
        have hpd2 : H2 pd = some (.lst (List.replicate bd.length (.ref db))) := rfH2 _ _ hpd fun φ z => by cases z
        refine ⟨_, rfl, .inl ⟨rfl, _, .inl (.inl hpu2)⟩, ?_⟩
        refine (ed_item (K := K) (ta := tVar 0) (tb := tVar 4) (σ := [some v, some (.ref pd), some (.ref p0), some (.ref pf), some (.int (n : Int)), some (.ref pu), some (.ref e.1)]) (H := H2) (ed_var rfl tv2) (ed_var rfl (.int _)) hda) H2 (Ex.refl H2) _ fun v1 H5 e5 t1 => ?_
        refine ⟨_, rfl, _, rfl, pd, List.replicate bd.length (.ref db), (n : Int), .ref db, rfl, rfl, SqL.of (e5 _ _ hpd2), atI_nat (by rw [List.getElem?_replicate, if_pos nlt]), ?_⟩
        refine ⟨_, rfl, ?_⟩
        refine ⟨v1, db, e.1, a, T, c + j, e.2, rfl, t1, hd2.ex e5 (Nat.le_refl _), ?_, e5 _ _ (rf2 _ _ hb1 fun φ z => by cases z), hb2, by omega, hal a am, fun q H6 M2 rf6 hd6 nq hq hM2 hS2 hC2 hl2 => ?_⟩
        · have h5 : i ≤ 20 := by omega
          have h6 : i * 300 ≤ 20 * 300 := Nat.mul_le_mul_right _ h5
          omega
        have hpu6 : H6 pu = some (.lst (refsB M)) := rf6 _ _ (e5 _ _ hpu2) fun φ z => by cases z
        have qu : q ≠ pu := fun z => by rw [z, e5 _ _ hpu2] at nq; cases nq
        have zz : sizeLine = 16777216 := sizeLine_eq
        have M2m : M2.length ≤ m := Nat.le_trans hl2 (hm a.1)
        refine ⟨pu, q, refsB M, refsB M2, rfl, rfl, hpu6, hq, by rw [List.length_map, List.length_map]; omega, ?_⟩
        have fl : FrL H6 (upd H6 pu (.lst (refsB M ++ refsB M2))) := FrL.mut hpu6
        have rf26 : Rf H' H6 := (rf2.trans (Rf.of_ex e5)).trans rf6
        refine ⟨_, M ++ M2, rfl, fun b o h nn => ?_, hd6.frl fl (by omega), by rw [upd_same]; show _ = some (HO.lst (List.map _ (M ++ M2))); rw [List.map_append], fun p2 hp2 => ?_, fun b hb => ?_, fun j' e' hj he' θ hg ha' => ?_, by rw [List.length_append, Nat.succ_mul]; omega⟩
        · rw [upd_ne (ne_of_none h npu)]
          exact rf26 _ _ h nn
        · rcases List.mem_append.mp hp2 with hp2 | hp2
          · exact ((hM.rf (Rf.of_ex e5) (Nat.le_refl _)).rf rf6 (Nat.le_refl _)).frl fl (Nat.le_refl _) p2 hp2
          · exact hM2.frl fl (by have : (i + 1) * 20 = i * 20 + 20 := Nat.succ_mul i 20; omega) p2 hp2
        · rw [List.map_append] at hb
          rcases List.mem_append.mp hb with hb | hb
          · exact hMS b hb
          · obtain ⟨le, ind⟩ := hS2 b hb
            have Se := hS e.2 (List.mem_map.mpr ⟨e, em, rfl⟩)
            intro n' hn' a' ha'
            rw [tk] at hn'
            rcases List.mem_append.mp hn' with hn' | hn'
            · exact (Se n' hn' a' ha').le le
            · have : n' = n := by simpa using hn'
              rw [this, ha] at ha'
              cases ha'
              exact ind
        · rw [List.map_append]
          by_cases z : j' = j
          · subst z
            rw [he] at he'
            cases he'
            obtain ⟨b, hb, hb2⟩ := hC2 θ ha' (hg a am)
            exact ⟨b, List.mem_append_right _ hb, hb2⟩
          · obtain ⟨b, hb, hb2⟩ := hMC j' e' (by omega) he' θ hg ha'
            exact ⟨b, List.mem_append_left _ hb, hb2⟩
      · rintro σ2 H2 ⟨o6, M, rfl, rf2, hd2, hpu2, hM, hMS, hMC, hMl⟩
        rw [List.length_map] at hd2 hMC hMl
        refine Evl.s_asg (Evl.ev_var rfl) fun H5 e5 => ?_
        have L300 := fin (i := i) (Nat.le_of_lt ilt)
        refine ⟨pu, _, _, _, M, c + L.length, rfl, (rf.trans rf2).trans (Rf.of_ex e5), hd2.ex e5 (Nat.le_refl _), by rw [Nat.succ_mul]; omega, e5 _ _ (rf2 _ _ hpo' fun φ z => by cases z), dpo2.symm, e5 _ _ hpu2, hM.rf (Rf.of_ex e5) (Nat.le_refl _), hMS, fun θ hg => ?_, by rw [Nat.pow_succ]; exact Nat.le_trans hMl (Nat.mul_le_mul_right m hlL)⟩
        obtain ⟨b, hb, ha⟩ := hC θ hg
        obtain ⟨e, he, rfl⟩ := List.mem_map.mp hb
        obtain ⟨j, hj⟩ := List.getElem?_of_mem he
        exact hMC j e (List.getElem?_eq_some_iff.mp hj).1 hj θ hg ha
    · rintro σ' H' ⟨pf, o4, o5, o6, L, c, rfl, rf, hd', hc, hpo', dpo, hpf', hL, hS, hC, hlL⟩
      have ol : (intsV order).length = bd.length := by unfold intsV; rw [List.length_map, olen]
      rw [ol] at hS hlL hL
      refine Evl.s_ret (Evl.ev_var rfl) fun H5 e5 => ?_
      refine k pf H5 L (rf.trans (Rf.of_ex e5)) (e5 _ _ hpf') (hL.rf (Rf.of_ex e5) (by omega)) (fun b hb a ha => ?_) hC (by have := fin (Nat.le_refl bd.length); omega)
      obtain ⟨n, hn⟩ := List.getElem?_of_mem ha
      have nlt := (List.getElem?_eq_some_iff.mp hn).1
      refine hS b hb n ?_ a hn
      rw [← olen, List.take_length]
      exact hperm.mem_iff.mpr (List.mem_range.mpr nlt)
end
end K86
end
section
set_option maxRecDepth 100000
set_option maxHeartbeats 4000000
namespace K86
open PySem PySem.Spec PyProof.Rows L2 HF
open Evl (Ex Ev EvT EvL EvU EvA)
theorem some_row {os : List (Option Key)} (h : ∀ o ∈ os, o.isSome = true) : os = (rowOf os).map some := by
  unfold rowOf
  rw [List.map_map]
  conv => lhs; rw [← List.map_id os]
  refine List.map_congr_left fun o ho => ?_
  obtain ⟨k, hk⟩ := Option.isSome_iff_exists.mp (h o ho)
  rw [hk]
  rfl
theorem some_inj : ∀ {a b : Row}, a.map some = b.map some → a = b
  | [], [], _ => rfl
  | [], _ :: _, h => by cases h
  | _ :: _, [], h => by cases h
  | x :: a, y :: b, h => by
    rw [List.map_cons, List.map_cons] at h
    injection h with h1 h2
    rw [some_inj h2, Option.some.inj h1]
theorem mem_addRow {rows : List Row} {r x : Row} : x ∈ addRow rows r ↔ x ∈ rows ∨ x = r := by
  unfold addRow
  by_cases h : r ∈ rows
  · rw [if_pos h]
    exact ⟨.inl, fun z => z.elim id fun q => by rw [q]; exact h⟩
  · rw [if_neg h, List.mem_append]
    simp
section
variable {P : Program} {w : World} {K : PySem.W.Frag} {mg : Str → Option Value} {base : Heap} {f : Addr} {fd : FuncData} {σ : L2.St} {H : Hp} {anyA CR CD : Addr}
theorem consL {te : TE} {ta : TA} {xs : List V} {Q : List V → Hp → Prop} (h : EvL te σ H xs) (q : ∀ p H1, H p = none → Ex H H1 → H1 p = some (.lst xs) → ta σ H1 fun vs H2 => Q (.ref p :: vs) H2) : tCons te ta σ H Q := h H (Ex.refl H) _ q
theorem consD {te : TE} {ta : TA} {d : PyData} {Q : List V → Hp → Prop} (h : EvD K te σ H d) (q : ∀ v H1, Ex H H1 → TD K H1 v d → ta σ H1 fun vs H2 => Q (v :: vs) H2) : tCons te ta σ H Q := h H (Ex.refl H) _ q
theorem consNewK {ta : TA} {Q : List V → Hp → Prop} (q : ∀ p H1, H p = none → Ex H H1 → H1 p = some (.dK []) → ta σ H1 fun vs H2 => Q (.ref p :: vs) H2) : tCons tDNewK ta σ H Q := fun p hp => q p _ hp (Ex.new hp) upd_same
theorem el_rep {te tn : TE} {x : V} {n : Nat} (h : EvL te σ H [x]) (hn : EvD K tn σ H (.int (n : Int))) (hl : n ≤ 10000) : EvL (tOp rRep te tn) σ H (List.replicate n x) := fun H0 e Q q =>
  h H0 e _ fun p H1 np e1 hp => hn H1 (e.trans e1) _ fun v H2 e2 tn => by
    rw [tn.int_inv]
    have zz : sizeLine = 16777216 := sizeLine_eq
    refine ⟨p, _, [x], rfl, rfl, e2 _ _ hp, by omega, by omega, by simp; omega, fun pd npd => ?_⟩
    have fl : (List.replicate ((n : Int)).toNat [x]).flatten = List.replicate n x := by
      rw [show ((n : Int)).toNat = n by omega]
      induction n with
      | zero => rfl
      | succ n ih => simp
    rw [fl]
    exact q pd _ (Evl.fresh_back (e1.trans e2) npd) ((e1.trans e2).trans (Ex.new npd)) upd_same
/-! ### answers -/
def spAnswers (P : Program) (w : World) (K : PySem.W.Frag) (CD CR : Addr) : Sp := fun vs H Q _ => ∃ v db bd T m, vs = [v, .ref db] ∧ TD K H v (.tuple (List.map litD bd)) ∧ bd.length ≤ 20 ∧ (∀ a ∈ bd, a.2.length ≤ 20) ∧ DbIs P w H CD CR db T 0 ∧ 1 ≤ m ∧ (∀ x, (rowsOf T x).length ≤ m) ∧ m ^ bd.length ≤ 300 ∧
  ∀ q H' L, Rf H H' → H' q = some (.lst (refsB L)) → BdL H' 800 L → (∀ b ∈ L.map (·.2), ∀ a ∈ bd, InDb T a b) → (∀ θ, GoodTh T bd θ → ∃ b ∈ L.map (·.2), Agr θ b) → L.length ≤ 300 → Q (.ref q) H'
theorem sc_answers : FnScope ["body", "database"] ["body", "database"] (defScope sanswers) := C8.fnScope_by (by decide +kernel)
theorem cal_answers (F : FnP K "answers" "answers" sanswers f fd) (gm : mg "answers" = some (.ref f)) (T0 : Bl mg) (c_solutions : C8.Cal P w K mg base 7 "solutions" (spSolve P w K CD CR) []) : C8.Cal P w K mg base 8 "answers" (spAnswers P w K CD CR) [] := by
  refine mkCal F gm sc_answers (fun _ _ _ _ _ _ us hl => match us, hl with | [_, _], _ => rfl) (fun vs H Q E h => ?_) (fun cdv A outer s H vs Q E hr h => ?_)
  · obtain ⟨v, db, bd, T, m, rfl, _⟩ := h
    rfl
  · obtain ⟨v, db, bd, T, m, rfl, tv, hl, hal, hd, hm1, hm, hpow, k⟩ := h
    refine ⟨_, (pss_one (ps_ret (C8.pe_c c_solutions hr (by decide) rfl (pa_cons (pv 0) (pa_cons (pe_op op_rep (pe_lst (pa_cons (pv 1) pa_nil)) (pe_callB call_len (by rfl) T0.f_len PySem.boot_len (pa_cons (pv 0) pa_nil))) (pa_cons pe_dnewK pa_nil)))))), ?_⟩
    have lenB : EvD K (tCB (rLenV K) (tCons (tVar 0) tNil)) ([some v, some (.ref db)] : L2.St) H (.int (bd.length : Int)) := by
      have := ed_lenT (K := K) (te := tVar 0) (σ := [some v, some (.ref db)]) (H := H) (ed_var rfl tv)
      rw [List.length_map] at this
      exact this
    refine ⟨_, rfl, ?_⟩
    refine consL (el_rep (x := .ref db) (n := bd.length) (Evl.el_lst (Evl.ea_cons (Evl.ev_var rfl) Evl.ea_nil) (by simp)) lenB (by omega)) fun pd H1 npd e1 hpd => ?_
    refine consNewK fun p0 H2 np0 e2 hp0 => ?_
    have e12 := e1.trans e2
    exact ⟨v, pd, p0, db, bd, T, m, rfl, tv.mono_ex e12, hl, hal, e2 _ _ hpd, hd.ex e12 (Nat.le_refl 0), hp0, hm1, hm, hpow, fun q H' L rf => k q H' L ((Rf.of_ex e12).trans rf)⟩
/-! ### rows_made -/
/-- a dict comprehension over a list that stays -/
theorem dcT_list {a : Addr} {xs : List V} {g : TG} {tt : TT} {tk tv : TE} {vs : List Nat} {H1 : Hp} {D : Addr} {Qd : Hp → Prop} (Pv : Nat → Hp → Prop) (h0 : Pv 0 (upd H1 D (.dT []))) (hl : ∀ i H, i ≤ xs.length → Pv i H → SqL K H a xs)
    (hs : ∀ i x H, xs[i]? = some x → Pv i H → g x (wipe σ vs) H fun σ2 H2 => wipe σ2 vs = wipe σ vs ∧ tt σ2 H2 fun b H3 =>
      if b = true then tk σ2 H3 fun y H4 => tv σ2 H4 fun z H5 => ∃ kvs k b, y = .ref b ∧ H5 b = some (.tup (k.map kV)) ∧ H5 D = some (.dT kvs) ∧ kvs.length < 100000 ∧ Pv (i + 1) (upd H5 D (.dT (putK kvs k z))) else Pv (i + 1) H3) (hd : ∀ H, Pv xs.length H → Qd H) :
    ∃ W : Nat → Nat → Hp → Prop, (∃ m, W 0 m (upd H1 D (.dT []))) ∧ ∀ i m H, W i m H →
      ((Itl K a).stop i H ∧ Qd H) ∨ ((Itl K a).go i H ∧ ∃ Nx : Hp → Prop, (∀ H', Nx H' → ∃ m', m' < m ∧ W (i + 1) m' H') ∧ ∀ x H', (Itl K a).yld i H x H' → g x (wipe σ vs) H' fun σ2 H2 => wipe σ2 vs = wipe σ vs ∧ tt σ2 H2 fun b H3 =>
        if b = true then tk σ2 H3 fun y H4 => tv σ2 H4 fun z H5 => ∃ kvs k b, y = .ref b ∧ H5 b = some (.tup (k.map kV)) ∧ H5 D = some (.dT kvs) ∧ kvs.length < 100000 ∧ Nx (upd H5 D (.dT (putK kvs k z))) else Nx H3) := by
  have wl := walk_list (K := K) (a := a) (xs := xs)
  refine ⟨fun i m H => m = xs.length - i ∧ i ≤ xs.length ∧ Pv i H, ⟨xs.length, by simp, Nat.zero_le _, h0⟩, ?_⟩
  rintro i m H ⟨rfl, hi, p⟩
  have q := hl i H hi p
  by_cases lt : i < xs.length
  · refine .inr ⟨wl.goes i H lt q, Pv (i + 1), fun H' p' => ⟨xs.length - (i + 1), by omega, rfl, lt, p'⟩, fun x H' y => ?_⟩
    obtain ⟨rfl, hx⟩ := wl.yields i H x H' lt q y
    exact hs i x _ hx p
  · have e : i = xs.length := by omega
    subst e
    exact .inl ⟨wl.stops H q, hd H p⟩
theorem tt_yes {A B : Hp → Prop} (h : A H) : tYes σ H fun b H3 => if b = true then A H3 else B H3 := by
  show if (true : Bool) = true then A H else B H
  rw [if_pos rfl]
  exact h
def spRowsMade (K : PySem.W.Frag) : Sp := fun vs H Q _ => ∃ v pf r L, vs = [v, .ref pf] ∧ TD K H v (Rl.d r) ∧ r.ht.length ≤ 1000 ∧ H pf = some (.lst (refsB L)) ∧ BdL H 800 L ∧ L.length ≤ 300 ∧ (∀ b ∈ L.map (·.2), ∀ t ∈ r.ht, (res t b).isSome = true) ∧
  ∀ p H' M, Ex H H' → RowL H' p M → (∀ row : Row, row ∈ M.map (·.2) ↔ ∃ b ∈ L.map (·.2), r.ht.map (fun t => res t b) = row.map some) → Q (.ref p) H'
theorem sc_rows_made : FnScope ["rule", "found", "made", "group", "rows", "value", "bound"] ["rule", "found"] (defScope srows_made) := C8.fnScope_by (by decide +kernel)
theorem cal_rows_made (F : FnP K "rows_made" "rows_made" srows_made f fd) (gm : mg "rows_made" = some (.ref f)) (T0 : Bl mg) (c_row_of : C8.Cal P w K mg base 2 "row_of" (spRowOf K) []) : C8.Cal P w K mg base 3 "rows_made" (spRowsMade K) [] := by
  refine mkCal F gm sc_rows_made (fun _ _ _ _ _ _ us hl => match us, hl with | [_, _], _ => rfl) (fun vs H Q E h => ?_) (fun cdv A outer s H vs Q E hr h => ?_)
  · obtain ⟨v, pf, r, L, rfl, _⟩ := h
    rfl
  · obtain ⟨v, pf, r, L, rfl, tv, hht, hpf, hL, hl, hsome, k⟩ := h
    refine ⟨_, (pss_cons (ps_if (pt_cmpR op_eq (pe_ix ix_tup (pv 0) pe_int (fun _ _ => rfl)) pe_str (nomark _)) (pss_one (ps_ret (pe_callTy (call_list_dT rfl) (by rfl) T0.f_list (by decide +kernel) (pa_cons (pe_dcT (own := [("bound", 6)]) (g := gName 6) (units70 hr) rfl sc_rows_made.nd (pi_list (pv 1)) (blkOk_by (own := [("bound", 6)]) (N := ["rule", "found", "made", "group", "rows", "value", "bound"]) (sc := defScope srows_made) (by decide +kernel)) (fun _ _ _ _ _ => (pg_name (i := 6) sc_rows_made.nd rfl (Or.inl rfl))) (fun _ _ _ _ _ => pts_nil) (fun _ _ _ _ _ => (C8.pe_c c_row_of hr (by decide) rfl (pa_cons (pe_ix (r := rIxT K) ix_tup (pe_ix (r := rIxT K) ix_tup (pv 0) pe_int (fun _ _ => rfl)) pe_int (fun _ _ => rfl)) (pa_cons (pv 6) pa_nil)))) (fun _ _ _ _ _ => pe_bl)) pa_nil))))
      pss_nil)
      pss_never), ?_⟩
    refine Evl.q_if (b := true) (Evl.et_is (et_eqS (ed_rTag (ed_var rfl tv)) ed_str) (by decide +kernel)) (fun _ H1 e1 => ?_) (fun hb => absurd hb (by decide))
    -- the comprehension
    refine ⟨_, rfl, pf, rfl, ⟨_, SqL.of (e1 _ _ hpf)⟩, fun D hD => ?_⟩
    refine dcT_list (xs := refsB L) (fun i H' => ∃ rows, H' D = some (.dT (mKV rows)) ∧ Ex H1 H' ∧ (∀ row : Row, row ∈ rows ↔ ∃ b ∈ (L.take i).map (·.2), r.ht.map (fun t => res t b) = row.map some) ∧ rows.length ≤ i) ⟨[], upd_same, Ex.new hD, fun row => by simp, Nat.zero_le _⟩ (fun i H' _ p => ?_) (fun i x H' hx p => ?_) (fun H' p => ?_)
    · obtain ⟨_, _, e, _⟩ := p
      exact SqL.of (e _ _ (e1 _ _ hpf))
    · obtain ⟨rows, hD', e', hrows, hlen⟩ := p
      rw [List.getElem?_map] at hx
      obtain ⟨b, hb, rfl⟩ := Option.map_eq_some_iff.mp hx
      have bm : b ∈ L := List.mem_of_getElem? hb
      have ilt : i < L.length := (List.getElem?_eq_some_iff.mp hb).1
      refine ⟨wipe1 _, ?_⟩
      refine tt_yes ?_
      have e2 := e1.trans e'
      obtain ⟨hb1, hb2, hb3⟩ := hL b bm
      refine consD (ed_rHt (K := K) (ed_var rfl (tv.mono_ex e2))) fun v1 H2 e3 t1 => ?_
      refine ⟨_, rfl, v1, r.ht, b.1, b.2, rfl, t1, hht, (e2.trans e3) _ _ hb1, fun q H3 e4 nq hq => ?_⟩
      have hos := some_row (os := r.ht.map fun t => res t b.2) fun o ho => by
        obtain ⟨t, ht, rfl⟩ := List.mem_map.mp ho
        exact hsome b.2 (List.mem_map.mpr ⟨b, bm, rfl⟩) t ht
      have hq' : H3 q = some (.tup ((rowOf (r.ht.map fun t => res t b.2)).map kV)) := by
        rw [hq]
        conv => lhs; rw [hos]
        rw [row_opt]
      have e34 := e3.trans e4
      refine ⟨mKV rows, rowOf (r.ht.map fun t => res t b.2), q, rfl, hq', e34 _ _ hD', by rw [mKV_len]; omega, ?_⟩
      refine ⟨addRow rows (rowOf (r.ht.map fun t => res t b.2)), by rw [upd_same, mKV_put], Ex.mut (e'.trans e34) hD, fun row => ?_, by have := addRow_len (rows := rows) (r := rowOf (r.ht.map fun t => res t b.2)); omega⟩
      rw [mem_addRow, hrows, List.take_add_one, hb, Option.toList_some, List.map_append]
      constructor
      · rintro (⟨b', h1, h2⟩ | rfl)
        · exact ⟨b', List.mem_append_left _ h1, h2⟩
        · exact ⟨b.2, List.mem_append_right _ (by simp), hos⟩
      · rintro ⟨b', h1, h2⟩
        rcases List.mem_append.mp h1 with h1 | h1
        · exact .inl ⟨b', h1, h2⟩
        · have : b' = b.2 := by simpa using h1
          rw [this, hos] at h2
          exact .inr (some_inj h2).symm
    · obtain ⟨rows, hD', e', hrows, hlen⟩ := p
      rw [List.length_map, List.take_length] at hrows
      refine ⟨D, mKV rows, rfl, .inl hD', fun pl bs npl hk => ?_⟩
      obtain ⟨M, m1, m2, m3⟩ := keys_rows hk
      rw [m1]
      exact k pl _ M ((e1.trans e').trans (Ex.new npl)) ⟨upd_same, fun e he => (Ex.new npl) _ _ (m3 e he)⟩ (fun row => by rw [m2]; exact hrows row)
end
end K86
end
section
set_option maxRecDepth 100000
set_option maxHeartbeats 4000000
/-! dict(zip(xs, ys)); l.extend(a tuple); str(i) by i -/
namespace HF
open PySem PySem.Spec PyProof.Rows L2
open AutoSeq1 (wpAny_loadPart')
open MeetsSeq MeetsSeq2 MeetsSeq3 SeqRoads2
section
theorem ext_tup (l : Addr) (items : Array Value) (n : Nat) (b : Addr) (items2 : Array Value) (n2 : Nat) (dd : Option Addr) (sl : Array (Option Value)) (hs0 : ¬(!items.isEmpty && Builtin.List.listTooLong (items.size + items2.size)) = true) (hs1 : items.size ≤ sizeLine) (hs2 : items.size + items2.size ≤ sizeLine + 1) :
    Meets (Builtin.«list.extend» ⟨[.ref l, .ref b], []⟩) (fun _ R s => s.heap.get? l = some { cls := .type "list", dict := none, data := .seq items n, slots := #[] } ∧ s.heap.get? b = some { cls := .type "tuple", dict := dd, data := .seq items2 n2, slots := sl } ∧ R (.ok (.ret Value.none)) { s with heap := s.heap.update l (Obj.mapSeq fun x => x ++ items2), toks := s.toks }) :=
  .of_wp fun prog w A R s h => by
    obtain ⟨hp, g, d, tk, os⟩ := s
    obtain ⟨hl, hb, h⟩ := h
    have f1 := AutoSeq1.idx_int
    have f2 := AutoSeq1.sub_tuple_tuple
    have f3 := AutoSeq1.sub_list_list
    have f4 := AutoSeq1.sub_tuple_list
    have f5 := AutoSeq1.sub_list_tuple
    have hz' : (items ++ items2).size ≤ sizeLine + 1 := by rw [Array.size_append]; exact hs2
    wp_walk using (wpAny_updateSeq hl rfl (hz := hs1) (_hz' := hz')), wpAny_loadPart' hl, wpAny_loadPart' hb
    exact ⟨_, rfl, h⟩
end
section
variable {X : Cx}
def rExtendT (K : PySem.W.Frag) : V → List V → Hp → VK → Prop := fun x vs H Q => ∃ l b xs zs, x = .ref l ∧ vs = [.ref b] ∧ H l = some (.lst xs) ∧ SqT K H b zs ∧ xs.length + zs.length ≤ 100000 ∧ Q .non (upd H l (.lst (xs ++ zs)))
theorem mt_extendT : MtM X "list.extend" (rExtendT X.K) := by
  intro pins s σ H x vs v us Q I rx rv h
  obtain ⟨l, b, xs, zs, rfl, rfl, hH, hB, hz, q⟩ := h
  cases rx
  obtain ⟨u, rfl, ru⟩ := rv.one
  cases ru
  obtain ⟨z, its, n, r, hl, e⟩ := I.lstM hH
  obtain ⟨its2, r2, ⟨⟨oc, od, dt, sl⟩, e2, ec, n2, ed⟩, hz2⟩ := I.tuple hB
  simp only at ec ed
  subst ec ed
  have zz : sizeLine = 16777216 := sizeLine_eq
  have q1 := r.length
  have q2 := r2.length
  have hsz : its.toArray.size + its2.toArray.size ≤ sizeLine := by rw [List.size_toArray, List.size_toArray]; omega
  have hlong : ¬ (!its.toArray.isEmpty && Builtin.List.listTooLong (its.toArray.size + its2.toArray.size)) = true := by
    rw [notLongL hsz, Bool.and_false]
    exact Bool.false_ne_true
  refine call_meets F.slot_list_extend ⟨_, e, rfl⟩ F.entry_list_extend (F.args_list_extend_2 _ _) (ext_tup l its.toArray n b its2.toArray n2 od sl hlong (by rw [List.size_toArray]; omega) (by omega)) ⟨e, e2, ?_⟩
  exact ⟨.non, _, I.lset (its' := its ++ its2) hH e (by simp) (r.append r2) (by rw [List.length_append]; omega), rfl, q⟩
theorem merged_nodup {κ : Type} [DecidableEq κ] : ∀ (kvs acc : List (κ × Value)), ((acc ++ kvs).map (·.1)).Nodup → merged acc kvs = acc ++ kvs
  | [], acc, _ => by simp [merged]
  | p :: kvs, acc, h => by
    have ne : (acc.any fun kv => decide (kv.1 = p.1)) = false := by
      rw [List.any_eq_false]
      intro q hq z
      have z := of_decide_eq_true z
      rw [List.map_append, List.nodup_append] at h
      exact h.2.2 q.1 (List.mem_map_of_mem hq) p.1 (by simp) z
    have e : stored acc p.1 p.2 = acc ++ [p] := by
      unfold stored
      rw [if_neg (by rw [ne]; decide)]
    have ih := merged_nodup kvs (acc ++ [p]) (by rw [List.append_assoc]; exact h)
    show merged (stored acc p.1 p.2) kvs = _
    rw [e, ih, List.append_assoc]
    rfl
def tDictZip (K : PySem.W.Frag) (ta : TA) : TE := fun σ H Q => ta σ H fun vs H1 => ∃ (a b : Addr) (ks : List Key) (ys : List V), vs = [.ref a, .ref b] ∧ SqL K H1 a (ks.map kV) ∧ SqL K H1 b ys ∧ ks.Nodup ∧ ks.length = ys.length ∧ ks.length ≤ 100000 ∧ ∀ p, H1 p = none → Q (.ref p) (upd H1 p (.dK (ks.zip ys)))
theorem kv_zip : ∀ {ks : List Key} {ys : List V} {us : List Value}, Vals ys us → KV (ks.zip ys) (ks.zip us)
  | [], _, _, _ => .nil
  | _ :: _, _, _, .nil => .nil
  | k :: ks, _, _, .cons r rs => .cons ⟨rfl, r⟩ (kv_zip rs)
theorem zip_keys : ∀ {ks : List Key} {us : List Value}, ks.length = us.length → (ks.zip us).map (·.1) = ks
  | [], _, _ => rfl
  | _ :: _, [], h => by cases h
  | k :: ks, u :: us, h => by rw [List.zip_cons_cons, List.map_cons, zip_keys (Nat.succ.inj h)]
theorem pe_dictZip {e e2 : Expr} {ta : TA} {p1 p2 pos1 pos2 : Pos} (hg1 : Gl X "dict") (hm1 : X.mg "dict" = none) (hb1 : bootBuiltins "dict" = some (.type "dict")) (hg : Gl X "zip") (hm : X.mg "zip" = none) (hc : X.calm = true) (ha : PA X [e, e2] ta)
    (he : starEach [.Call (.Name "zip" p2) [e, e2] [] pos2] X.env = (false, eval (.Call (.Name "zip" p2) [e, e2] [] pos2) X.env) :: starEach [] X.env := by rfl) (hpl0 : (backTo pos1 (starEach [] X.env)).any (·.1) = false := by rfl)
    (hs : starEach [e, e2] X.env = (false, eval e X.env) :: starEach [e2] X.env := by rfl) (hpl : (backTo pos2 (starEach [e2] X.env)).any (·.1) = false := by rfl) :
    PE X (.Call (.Name "dict" p1) [.Call (.Name "zip" p2) [e, e2] [] pos2] [] pos1) (tDictZip X.K ta) := by
  refine ⟨fun pins s σ H Q I h => ?_⟩
  refine wpAny_Call_Name_kw (ld_blt I hg1 hm1 hb1 ?_ (by decide) (by decide))
  refine PyProof.Rows.callWith_type1 ?_ he hpl0
  rw [he]
  refine Calls.spliced_cons ?_
  refine Call_ (ld_blt I hg hm PyProof.Rows.boot_zip (PyProof.Rows.callWith_type1 (thn (ha.run pos2 pins s σ H _ I h) fun us s1 ⟨vs, H1, I1, r1, q1⟩ => ?_) hs hpl))
  obtain ⟨a, b, ks, ys, ex, ha', hb', nd, hl, hlen, q⟩ := q1
  subst ex
  cases r1 with
  | cons r rr =>
    cases rr with
    | cons r' rr =>
      cases rr
      cases r
      cases r'
      obtain ⟨its, rv, p1', _⟩ := I1.list ha'
      obtain ⟨its2, rv2, p2', _⟩ := I1.list hb'
      refine call_zip_2 p1'.isList p2'.isList fun h' hz hTI hTO h1 h2 hsz hk => ?_
      refine Calls.spliced_nil ?_
      have q1 := rv.length
      have q2 := rv2.length
      rw [List.length_map] at q1
      have zz : sizeLine = 16777216 := sizeLine_eq
      have P := PairArg.zip (prog := X.prog) (w := X.w) (s1.heap.objs.size + 4) (s1.heap.objs.size + 2) (s1.heap.objs.size + 3) s1.heap.objs.size (s1.heap.objs.size + 1) a b (PySem.W.ktu_apart s1.heap.objs.size a b p1'.lt p2'.lt) its.toArray its2.toArray
      refine call_dict_pairs (knd := mixKind X.prog X.w) (kvs := ks.zip its2) P (I.ok.hd hc) ⟨hz, hTI, ⟨_, _, hTO⟩, h1, h2, ?_, ?_⟩ ⟨?_, fun i key v hr => ?_⟩ ?_ fun h'' tk hd hkp => ?_
      · obtain ⟨o, g1, g2⟩ := p1'.isList
        exact ⟨o, hk _ _ g1, g2⟩
      · obtain ⟨o, g1, g2⟩ := p2'.isList
        exact ⟨o, hk _ _ g1, g2⟩
      · rw [List.length_zip, List.size_toArray, List.size_toArray]
        omega
      · obtain ⟨g1, g2⟩ := hr
        have g1 : its[i]? = some key := by simpa using g1
        have g2 : its2[i]? = some v := by simpa using g2
        have il : i < ks.length := by have := (List.getElem?_eq_some_iff.mp g1).1; omega
        have gk : ks[i]? = some ks[i] := List.getElem?_eq_getElem il
        obtain ⟨u, hu, ru⟩ := rv.get (i := i) (x := kV ks[i]) (by rw [List.getElem?_map, gk]; rfl)
        rw [hu] at g1
        cases g1
        exact ⟨ks[i], by rw [List.getElem?_zip_eq_some]; exact ⟨gk, g2⟩, kV_is ru⟩
      · rw [List.size_toArray, List.size_toArray]
        omega
      · have mk : merged [] (ks.zip its2) = ks.zip its2 := merged_nodup _ _ (by rw [List.nil_append, zip_keys (by omega)]; exact nd)
        rw [mk] at hd
        have kept : ∀ b0 u, s1.heap.get? b0 = some u → h''.get? b0 = some u := fun b0 u e => hkp b0 u (fun z => by
          have lt := Heap.lt_size e
          simp only [List.mem_cons, List.not_mem_nil, or_false] at z
          rcases z with z | z | z | z
          · rw [z] at lt; exact absurd lt (by simp)
          · rw [z] at lt; exact absurd lt (by simp)
          · rw [z] at lt; exact absurd lt (by simp)
          · rw [z] at lt; exact absurd lt (by simp)) (hk _ _ e)
        have big := I1.big
        have hsz' : ({ s1 with heap := h' } : Shared).heap.objs.size = s1.heap.objs.size + 5 := hsz
        rw [hsz'] at hd ⊢
        have np : H1 (s1.heap.objs.size + 5) = none := I1.hok.fresh (Nat.le_add_right _ _)
        refine ⟨.ref (s1.heap.objs.size + 5), upd H1 (s1.heap.objs.size + 5) (.dK (ks.zip ys)), I1.laid (t' := tk) kept (Nat.le_add_right _ _) (show ObjOk X.prog X.w _ _ _ (.dK (ks.zip ys)) from ⟨by rw [List.length_zip]; omega, beq_eq_false_iff_ne.mpr (Nat.ne_of_gt (Nat.lt_of_lt_of_le big (Nat.le_add_right _ _))), _, kv_zip rv2, hd⟩), rfl, q _ np⟩
end
end HF
end
section
set_option maxRecDepth 100000
set_option maxHeartbeats 4000000
namespace K86
open PySem PySem.Spec PyProof.Rows L2 HF
open Evl (Ex Ev EvT EvL EvU EvA)
/-! ### names for fresh values -/
def nm (i : Nat) : Str := ("value " : Str) ++ Str.ofString (toString (i : Int))
theorem nat_repr_inj {a b : Nat} (h : Nat.repr a = Nat.repr b) : a = b := by
  have h1 : Nat.toDigits 10 a = Nat.toDigits 10 b := by
    rw [← Nat.toList_repr, ← Nat.toList_repr, h]
  have h2 := Nat.ofDigitChars_toDigits (b := 10) (n := a) (by decide) (by decide)
  have h3 := Nat.ofDigitChars_toDigits (b := 10) (n := b) (by decide) (by decide)
  rw [← h2, h1, h3]
theorem int_str (i : Nat) : toString (i : Int) = Nat.repr i := rfl
theorem map_toNat_inj : ∀ {a b : List Char}, a.map Char.toNat = b.map Char.toNat → a = b
  | [], [], _ => rfl
  | [], _ :: _, h => by cases h
  | _ :: _, [], h => by cases h
  | x :: a, y :: b, h => by
    rw [List.map_cons, List.map_cons] at h
    injection h with h1 h2
    rw [map_toNat_inj h2, Char.toNat_inj.mp h1]
theorem ofString_inj {a b : String} (h : Str.ofString a = Str.ofString b) : a = b := by
  rw [Str.ofString_eq_toList, Str.ofString_eq_toList] at h
  injection h with h
  have h1 : a.toList.map Char.toNat = b.toList.map Char.toNat := by simpa using congrArg Array.toList h
  exact String.toList_inj.mp (map_toNat_inj h1)
theorem str_app_inj {a b c : Str} (h : a ++ b = a ++ c) : b = c := by
  have h1 : (a ++ b).cps = (a ++ c).cps := congrArg Str.cps h
  have h2 : a.cps ++ b.cps = a.cps ++ c.cps := h1
  have h3 : a.cps.toList ++ b.cps.toList = a.cps.toList ++ c.cps.toList := by simpa using congrArg Array.toList h2
  have h4 := List.append_cancel_left h3
  cases b
  cases c
  congr 1
  exact Array.toList_inj.mp h4
theorem nm_inj {i j : Nat} (h : nm i = nm j) : i = j := by
  have := ofString_inj (str_app_inj h)
  rw [int_str, int_str] at this
  exact nat_repr_inj this
theorem ok_ofString (s : String) : PyData.strOk (Str.ofString s) = true := by
  rw [Str.ofString_eq_toList]
  unfold PyData.strOk
  rw [Array.all_eq_true']
  intro x hx
  have : x ∈ s.toList.map Char.toNat := by simpa using hx
  obtain ⟨c, _, rfl⟩ := List.mem_map.mp this
  have h := c.valid
  have : c.toNat < 1114112 := by
    rcases h with h | h
    · exact Nat.lt_trans h (by decide)
    · exact h.2
  exact decide_eq_true this
theorem ok_app {a b : Str} (ha : PyData.strOk a = true) (hb : PyData.strOk b = true) : PyData.strOk (a ++ b) = true := by
  unfold PyData.strOk at ha hb ⊢
  rw [Array.all_eq_true'] at ha hb ⊢
  intro x hx
  have hx : x ∈ a.cps ++ b.cps := hx
  rcases Array.mem_append.mp hx with h | h
  · exact ha x h
  · exact hb x h
theorem nm_ok (i : Nat) : PyData.strOk (nm i) = true := ok_app (ok_ofString "value ") (ok_ofString _)
theorem nm_len {i : Nat} (h : i < 10000) : (Str.ofString (toString (i : Int))).length ≤ 10 := by
  rw [PySem.ofString_length]
  have := int_text_length_le10 (a := (i : Int)) (k := 4) (by decide) (by simpa using h)
  omega
theorem nodup_sub {α : Type} : ∀ {l ks : List α}, l.Nodup → (∀ x ∈ l, x ∈ ks) → l.length ≤ ks.length
  | [], _, _, _ => Nat.zero_le _
  | x :: l, ks, nd, h => by
    rw [List.nodup_cons] at nd
    obtain ⟨s, t, rfl⟩ := List.append_of_mem (h x (List.mem_cons_self ..))
    have ih := nodup_sub (l := l) (ks := s ++ t) nd.2 fun y hy => by
      have := h y (List.mem_cons_of_mem _ hy)
      have ne : y ≠ x := fun z => nd.1 (by rw [← z]; exact hy)
      rw [List.mem_append, List.mem_cons] at this
      rw [List.mem_append]
      rcases this with q | q | q
      · exact .inl q
      · exact absurd q ne
      · exact .inr q
    rw [List.length_append] at ih
    rw [List.length_append, List.length_cons, List.length_cons]
    omega
def freshOf (ks : List Key) (i : Nat) : List Str := ((List.range i).filter fun j => !hasK (.inr (nm j)) ks).map nm
theorem filt_len (p : Nat → Bool) : ∀ i, ((List.range i).filter p).length + ((List.range i).filter fun j => !p j).length = i
  | 0 => rfl
  | i + 1 => by
    have ih := filt_len p i
    rw [List.range_succ, List.filter_append, List.filter_append, List.length_append, List.length_append]
    cases h : p i
    · simp [h]; omega
    · simp [h]; omega
theorem map_nodup {α β : Type} {g : α → β} (hg : ∀ a b, g a = g b → a = b) : ∀ {l : List α}, l.Nodup → (l.map g).Nodup
  | [], _ => List.nodup_nil
  | x :: l, nd => by
    rw [List.nodup_cons] at nd
    rw [List.map_cons, List.nodup_cons]
    refine ⟨fun h => ?_, map_nodup hg nd.2⟩
    obtain ⟨y, hy, e⟩ := List.mem_map.mp h
    exact nd.1 (by rw [← hg _ _ e]; exact hy)
theorem fresh_many (ks : List Key) (i : Nat) : i ≤ (freshOf ks i).length + ks.length := by
  have h1 := filt_len (fun j => hasK (.inr (nm j)) ks) i
  have h2 : (((List.range i).filter fun j => hasK (.inr (nm j)) ks).map fun j => (Sum.inr (nm j) : Key)).length ≤ ks.length := by
    refine nodup_sub (map_nodup (fun a b e => nm_inj (Sum.inr.inj e)) (List.nodup_range.filter _)) fun x hx => ?_
    obtain ⟨j, hj, rfl⟩ := List.mem_map.mp hx
    exact hasK_iff.mp (List.mem_filter.mp hj).2
  rw [List.length_map] at h2
  unfold freshOf
  rw [List.length_map]
  omega
theorem fresh_nodup (ks : List Key) (i : Nat) : (freshOf ks i).Nodup := map_nodup (fun a b e => nm_inj e) (List.nodup_range.filter _)
theorem fresh_not (ks : List Key) (i : Nat) : ∀ x ∈ freshOf ks i, (Sum.inr x : Key) ∉ ks ∧ PyData.strOk x = true := fun x hx => by
  obtain ⟨j, hj, rfl⟩ := List.mem_map.mp hx
  refine ⟨fun z => ?_, nm_ok j⟩
  have := (List.mem_filter.mp hj).2
  rw [hasK_iff.mpr z] at this
  cases this
theorem fresh_succ (ks : List Key) (i : Nat) : freshOf ks (i + 1) = freshOf ks i ++ if hasK (.inr (nm i)) ks then [] else [nm i] := by
  unfold freshOf
  rw [List.range_succ, List.filter_append, List.map_append]
  congr 1
  cases h : hasK (.inr (nm i)) ks <;> simp [h]
end K86
end
section
set_option maxRecDepth 100000
set_option maxHeartbeats 4000000
namespace K86
open PySem PySem.Spec PyProof.Rows L2 HF
open Evl (Ex Ev EvT EvL EvU EvA)
def isVal : Tm → Bool
  | .val _ => true
  | .var _ => false
def valOf : Tm → Key
  | .val k => k
  | .var x => .inr x
def allTms (r : Rl) : List Tm := r.ht ++ r.bd.flatMap (·.2)
def valsIn (r : Rl) : List Key := ((allTms r).filter isVal).map valOf
section
variable {P : Program} {w : World} {K : PySem.W.Frag} {mg : Str → Option Value} {base : Heap} {f : Addr} {fd : FuncData} {σ : L2.St} {H : Hp} {anyA CR CD : Addr}
theorem ed_neSV {ta tb : TE} {a b : Str} (ha : EvD K ta σ H (.str a)) (hb : EvD K tb σ H (.str b)) : EvD K (tOp rNe ta tb) σ H (.bool (!decide (a = b))) := fun H1 e Q q =>
  ha H1 e _ fun v H2 e2 t2 => hb H2 (e.trans e2) _ fun w H3 e3 t3 => by
    rw [t2.str_inv, t3.str_inv]
    refine ⟨rfl, ?_⟩
    have z : decide (V.str a = V.str b) = decide (a = b) := by simp
    rw [z]
    exact q _ H3 (e2.trans e3) (.bl _)
theorem bools_inv : ∀ {bs : List Bool} {xs : List V}, TDs K H xs (bs.map .bool) → xs = bs.map V.bl
  | [], _, h => by cases h; rfl
  | b :: bs, _, h => by
    cases h with
    | cons h hs =>
      cases h
      rw [bools_inv hs, List.map_cons]
theorem ev_anyB {te : TE} {bs : List Bool} (h : EvLD K te σ H (bs.map .bool)) : Ev (tCB (rAny K) (tCons te tNil)) σ H (.bl (bs.any id)) := fun H1 e Q q =>
  h H1 e _ fun p xs H2 np e2 hp ts => ⟨p, bs, rfl, SqL.of (by rw [← bools_inv ts]; exact hp), q H2 e2⟩
/-! ### check_plain -/
def spCheck (K : PySem.W.Frag) : Sp := fun vs H Q _ => ∃ v r, vs = [v] ∧ TD K H v (Rl.d r) ∧ r.bd.length ≤ 1000 ∧ ∀ H', Ex H H' → Q .non H'
theorem sc_check_plain : FnScope ["rule", "literal"] ["rule"] (defScope scheck_plain) := C8.fnScope_by (by decide +kernel)
theorem cal_check_plain (F : FnP K "check_plain" "check_plain" scheck_plain f fd) (gm : mg "check_plain" = some (.ref f)) (T : Bl mg) (c_body_of : C8.Cal P w K mg base 1 "body_of" (spData K rBodyOf) []) : C8.Cal P w K mg base 2 "check_plain" (spCheck K) [] := by
  refine mkCal F gm sc_check_plain (fun _ _ _ _ _ _ us hl => match us, hl with | [_], _ => rfl) (fun vs H Q E h => ?_) (fun cdv A outer s H vs Q E hr h => ?_)
  · obtain ⟨v, r, rfl, _⟩ := h
    rfl
  · obtain ⟨v, r, rfl, tv, hl, k⟩ := h
    refine ⟨_, (pss_one (ps_if (PW.pt (pw_or (pt_cmpR op_ne (pe_ix ix_tup (pv 0) pe_int (fun _ _ => rfl)) pe_str (nomark _)) (pw_or1 (pt_val (pe_callB (cr_any rfl) (by rfl) T.f_any (by decide +kernel) (pa_cons (pe_lc (own := [("literal", 1)]) (g := gName 1) rfl sc_check_plain.nd (pi_tup (C8.pe_c c_body_of hr (by decide) rfl (pa_cons (pv 0) pa_nil))) (blkOk_by (own := [("literal", 1)]) (N := ["rule", "literal"]) (sc := defScope scheck_plain) (by decide +kernel)) (fun _ _ _ _ _ => (pg_name (i := 1) sc_check_plain.nd rfl (Or.inl rfl))) (fun _ _ _ _ _ => pts_nil) (fun _ _ _ _ _ => (pe_cmpR op_ne (pe_ix (r := rIxT K) ix_tup (pv 1) pe_int (fun _ _ => rfl)) pe_str (nomark _)))) pa_nil)))))) pss_never
      pss_nil)), ?_⟩
    have key := eld_lcT (K := K) (σ := start ["rule", "literal"] [v]) (H := H) (ts := r.bd) (enc := litD) (j := 1) (vs := [1]) (tl := tCall (spData K rBodyOf) [] E0 (tCons (tVar 0) tNil)) (tt := tYes) (te := tOp rNe (tOp (rIxT K) (tVar 1) (tC (.int 0))) (tC (.str "is"))) (fun _ => true) (fun _ => .bool (!decide (("is" : Str) = "is"))) (ed_body (ed_var rfl tv)) (by omega) wipe1 (fun _ _ _ _ _ _ => et_yes) fun t x H1 _ e1 tx _ => ed_neSV (ed_tag (ed_var rfl tx)) ed_str
    rw [filter_yes] at key
    have none_ : ((r.bd.map fun _ => !decide (("is" : Str) = "is")).any id) = false := by
      rw [List.any_map, List.any_eq_false]
      intro x _
      simp
    have second := ev_anyB (bs := r.bd.map fun _ => !decide (("is" : Str) = "is")) (by rw [List.map_map]; exact key)
    rw [none_] at second
    exact Evl.s_when (b := false) (Evl.et_is (Evl.et_or (a := false) (b := false) (Evl.et_is (et_neS (ed_rTag (ed_var rfl tv)) ed_str) (by decide +kernel)) fun _ => Evl.et_B second) rfl) (fun hb => absurd hb (by decide)) (fun _ H1 e1 => k H1 e1)
/-! ### values_in -/
theorem eld_list {te : TE} {ds : List PyData} (h : EvD K te σ H (.tuple ds)) : EvLD K (tCB (Evl.rListS K) (tCons te tNil)) σ H ds := fun H0 e Q q => h H0 e _ fun v H1 e1 t => by
  obtain ⟨a, xs, rfl, hx, hs⟩ := t.tup_inv
  exact ⟨a, xs, rfl, .inr hx.sq, fun l hl => q l xs _ (Evl.fresh_back e1 hl) (e1.trans (Ex.new hl)) upd_same (hs.mono (TX.new hl))⟩
theorem q_asgLD {te : TE} {D : Ends} {tz : TS} {i : Nat} {es : List PyData} (h : EvLD K te σ H es) (k : ∀ p xs H1, H p = none → Ex H H1 → H1 p = some (.lst xs) → TDs K H1 xs es → tz D (σ.set i (some (.ref p))) H1) : tSeq (tAsg te (gName i)) tz D σ H := h H (Ex.refl H) _ k
theorem s_retLD {te : TE} {D : Ends} {es : List PyData} (h : EvLD K te σ H es) (k : ∀ p xs H1, H p = none → Ex H H1 → H1 p = some (.lst xs) → TDs K H1 xs es → D.rt (.ref p) H1) : tRet te D σ H := h H (Ex.refl H) _ k
def spValuesIn (K : PySem.W.Frag) : Sp := fun vs H Q _ => ∃ v r, vs = [v] ∧ TD K H v (Rl.d r) ∧ r.ht.length ≤ 20 ∧ r.bd.length ≤ 20 ∧ (∀ a ∈ r.bd, a.2.length ≤ 20) ∧ ∀ q H', Ex H H' → H q = none → H' q = some (.lst ((valsIn r).map kV)) → Q (.ref q) H'
theorem sc_values_in : FnScope ["rule", "terms", "literal", "term"] ["rule"] (defScope svalues_in) := C8.fnScope_by (by decide +kernel)
theorem flat_len (bd : List At) (m : Nat) (h : ∀ a ∈ bd, a.2.length ≤ m) : (bd.flatMap (·.2)).length ≤ bd.length * m := by
  induction bd with
  | nil => simp
  | cons a bd ih =>
    rw [List.flatMap_cons, List.length_append, List.length_cons, Nat.succ_mul]
    have h1 := ih fun b hb => h b (List.mem_cons_of_mem _ hb)
    have h2 := h a (List.mem_cons_self ..)
    omega
theorem cal_values_in (F : FnP K "values_in" "values_in" svalues_in f fd) (gm : mg "values_in" = some (.ref f)) (T : Bl mg) (c_body_of : C8.Cal P w K mg base 1 "body_of" (spData K rBodyOf) []) : C8.Cal P w K mg base 2 "values_in" (spValuesIn K) [] := by
  refine mkCal F gm sc_values_in (fun _ _ _ _ _ _ us hl => match us, hl with | [_], _ => rfl) (fun vs H Q E h => ?_) (fun cdv A outer s H vs Q E hr h => ?_)
  · obtain ⟨v, r, rfl, _⟩ := h
    rfl
  · obtain ⟨v, r, rfl, tv, hl1, hl2, hl3, k⟩ := h
    refine ⟨_, (pss_cons (ps_set (i := 1) sc_values_in.nd rfl (Or.inl rfl) (pe_callTy call_list_of (by rfl) T.f_list (by decide +kernel) (pa_cons (pe_ix ix_tup (pe_ix ix_tup (pv 0) pe_int (fun _ _ => rfl)) pe_int (fun _ _ => rfl)) pa_nil)))
      (pss_cons (ps_for PassesOwn.never rfl (pi_tup (C8.pe_c c_body_of hr (by decide) rfl (pa_cons (pv 0) pa_nil))) (pg_name (i := 2) sc_values_in.nd rfl (Or.inl rfl))
      (pss_one (ps_expr (pe_bm PySem.F.plainAttrs_list PySem.F.slot_list_extend PySem.F.type_list_extend mt_extendT (pv 1) (pa_cons (pe_ix ix_tup (pe_ix ix_tup (pv 2) pe_int (fun _ _ => rfl)) pe_int (fun _ _ => rfl)) pa_nil)))))
      (pss_one (ps_ret (pe_lc (own := [("term", 3)]) (g := gName 3) rfl sc_values_in.nd (pi_list (pv 1)) (blkOk_by (own := [("term", 3)]) (N := ["rule", "terms", "literal", "term"]) (sc := defScope svalues_in) (by decide +kernel)) (fun _ _ _ _ _ => (pg_name (i := 3) sc_values_in.nd rfl (Or.inl rfl))) (fun _ _ _ _ _ => (pts_one (pt_cmpR op_eq (pe_ix (r := rIxT K) ix_tup (pv 3) pe_int (fun _ _ => rfl)) pe_str (nomark _)))) (fun _ _ _ _ _ => (pe_ix (r := rIxT K) ix_tup (pv 3) pe_int (fun _ _ => rfl)))))))), ?_⟩
    refine q_asgLD (eld_list (ed_rHt (ed_var rfl tv))) fun p xs H1 np e1 hp txs => ?_
    refine q_forD (ds := r.bd.map litD) (ed_body (ed_var rfl (tv.mono_ex e1))) (fun G i σ' H' => ∃ o2 o3 ys, σ' = [some v, some (.ref p), o2, o3] ∧ TX G H' ∧ Ex H H' ∧ H' p = some (.lst ys) ∧ TDs K H' ys ((r.ht ++ (r.bd.take i).flatMap (·.2)).map Tm.d)) (fun G e2 => ⟨_, _, xs, rfl, TX.refl _, e1.trans e2, e2 _ _ hp, by rw [List.take_zero, List.flatMap_nil, List.append_nil]; exact txs.mono_ex e2⟩) (fun G i σ' H' pv => let ⟨_, _, _, _, t, _⟩ := pv; t) ?_ ?_
    · rintro G i d x σ' H' hd tx ⟨o2, o3, ys, rfl, tG, eH, hp', tys⟩
      rw [List.getElem?_map] at hd
      obtain ⟨a, ha, rfl⟩ := Option.map_eq_some_iff.mp hd
      have am : a ∈ r.bd := List.mem_of_getElem? ha
      have tk : (r.bd.take (i + 1)).flatMap (·.2) = (r.bd.take i).flatMap (·.2) ++ a.2 := by
        rw [List.take_add_one, ha, Option.toList_some, List.flatMap_append]
        simp
      refine ⟨_, rfl, .inl ⟨rfl, _, .inl (.inl hp')⟩, ?_⟩
      refine consD (ed_atT (K := K) (te := tVar 2) (ed_var rfl tx)) fun v1 H2 e2 t1 => ?_
      obtain ⟨b, zs, rfl, hb, hzs⟩ := t1.tup_inv
      have hp2 := e2 _ _ hp'
      have l1 := tys.length
      have l2 := hzs.length
      rw [List.length_map, List.length_append] at l1
      rw [List.length_map] at l2
      have l3 : ((r.bd.take i).flatMap (·.2)).length ≤ 20 * 20 := by
        have h1 := flat_len (r.bd.take i) 20 fun c hc => hl3 c (List.mem_of_mem_take hc)
        have h2 : (r.bd.take i).length ≤ 20 := by rw [List.length_take]; omega
        have h3 : (r.bd.take i).length * 20 ≤ 20 * 20 := Nat.mul_le_mul_right _ h2
        omega
      have l4 := hl3 a am
      refine ⟨p, b, ys, zs, rfl, rfl, hp2, hb.sq, by omega, ?_⟩
      have tm : TX H2 (upd H2 p (.lst (ys ++ zs))) := TX.lst hp2
      refine ⟨_, _, ys ++ zs, rfl, (tG.trans (TX.of_ex e2)).trans tm, Ex.mut (eH.trans e2) np, upd_same, ?_⟩
      rw [tk, ← List.append_assoc, List.map_append]
      exact ((tys.mono_ex e2).app hzs).mono tm
    · rintro G σ' H' ⟨o2, o3, ys, rfl, tG, eH, hp', tys⟩
      rw [List.length_map, List.take_length] at tys
      have la : (allTms r).length ≤ 1000 := by
        have h1 := flat_len r.bd 20 hl3
        have h3 : r.bd.length * 20 ≤ 20 * 20 := Nat.mul_le_mul_right _ hl2
        unfold allTms
        rw [List.length_append]
        omega
      have key := eld_lcL (K := K) (σ := [some v, some (.ref p), o2, o3]) (H := H') (ts := allTms r) (enc := Tm.d) (j := 3) (vs := [3]) (a := p) (xs := ys) (tl := tVar 1) (tt := tTest (tOp rEq (tOp (rIxT K) (tVar 3) (tC (.int 0))) (tC (.str "value")))) (te := tOp (rIxT K) (tVar 3) (tC (.int 1))) isVal (fun t => kD (valOf t)) (Evl.ev_var rfl) hp' tys (by omega) wipe1 (fun t x H1 _ e1 tx => ?_) fun t x H1 _ e1 tx hv => ?_
      · refine s_retLD key fun q zs H2 nq e2 hq tz => k q H2 (eH.trans e2) (Evl.fresh_back eH nq) ?_
        have : zs = (valsIn r).map kV := TDs.keys_inv (by unfold valsIn; rw [List.map_map]; exact tz)
        rw [← this]
        exact hq
      · cases t with
        | val c => exact Evl.et_is (et_eqS (a := "value") (b := "value") (ed_ix (ed_var rfl tx) ed_int at0) ed_str) (show decide (("value" : Str) = "value") = true by decide +kernel)
        | var y => exact Evl.et_is (et_eqS (a := "var") (b := "value") (ed_ix (ed_var rfl tx) ed_int at0) ed_str) (show decide (("var" : Str) = "value") = false by decide +kernel)
      · cases t with
        | val c => exact ed_ix (ed_var rfl tx) ed_int at1
        | var y => cases hv
/-! ### fresh_values -/
theorem et_inKL {ta tb : TE} {neg : Bool} {a : Key} {ks : List Key} {p : Addr} (ha : EvD K ta σ H (kD a)) (hb : Ev tb σ H (.ref p)) (hp : H p = some (.lst (ks.map kV))) : EvT (tTest (tOp (rIn K neg) ta tb)) σ H (if neg then !hasK a ks else hasK a ks) := fun H1 e Q q =>
  ha H1 e _ fun v H2 e2 t2 => hb H2 (e.trans e2) _ fun H3 e3 => by
    rw [t2.key_inv]
    refine ⟨p, _, rfl, .inl (SqL.of (e3 _ _ (e2 _ _ (e _ _ hp)))), flat_key a, flat_keys ks, _, rfl, ?_⟩
    rw [inV_keys]
    exact q H3 (e2.trans e3)
def spFresh : Sp := fun vs H Q _ => ∃ p ks n, vs = [.ref p, .int (n : Nat)] ∧ H p = some (.lst (List.map kV ks)) ∧ ks.length ≤ 1000 ∧ n ≤ 1000 ∧ ∀ (q : Addr) (H' : Hp) (fs : List Str), Ex H H' → H q = none → H' q = some (.lst (fs.map V.str)) → fs.length = n → fs.Nodup → (∀ x ∈ fs, (Sum.inr x : Key) ∉ ks ∧ PyData.strOk x = true) → Q (.ref q) H'
theorem sc_fresh_values : FnScope ["taken", "count", "found", "number"] ["taken", "count"] (defScope sfresh_values) := C8.fnScope_by (by decide +kernel)
theorem cal_fresh_values (F : FnP K "fresh_values" "fresh_values" sfresh_values f fd) (gm : mg "fresh_values" = some (.ref f)) (T : Bl mg) : C8.Cal P w K mg base 1 "fresh_values" spFresh [] := by
  refine mkCal F gm sc_fresh_values (fun _ _ _ _ _ _ us hl => match us, hl with | [_, _], _ => rfl) (fun vs H Q E h => ?_) (fun cdv A outer s H vs Q E hr h => ?_)
  · obtain ⟨p, ks, n, rfl, _⟩ := h
    rfl
  · obtain ⟨p, ks, n, rfl, hp, hk, hn, k⟩ := h
    refine ⟨_, (pss_cons (ps_set (i := 2) sc_fresh_values.nd rfl (Or.inl rfl) (pe_lst pa_nil))
      (pss_cons (ps_set (i := 3) sc_fresh_values.nd rfl (Or.inl rfl) pe_int)
      (pss_cons (ps_while PassesOwn.never (pt_cmpR op_lt (pe_callB call_len (by rfl) T.f_len PySem.boot_len (pa_cons (pv 2) pa_nil)) (pv 1) (nomark _))
      (pss_cons (ps_if (pt_cmpR op_notIn_seq (pe_op op_add_str pe_str (pe_callTy call_str_int (by rfl) T.f_str (by decide +kernel) (pa_cons (pv 3) pa_nil))) (pv 0) (by rfl)) (pss_one (ps_expr (pe_bm PySem.F.plainAttrs_list PySem.F.slot_list_append PySem.F.type_list_append mt_append (pv 2) (pa_cons (pe_op op_add_str pe_str (pe_callTy call_str_int (by rfl) T.f_str (by decide +kernel) (pa_cons (pv 3) pa_nil))) pa_nil))))
        pss_nil)
        (pss_one (ps_set (i := 3) sc_fresh_values.nd rfl (Or.inl rfl) (pe_op op_add (pv 3) pe_int)))))
      (pss_one (ps_ret (pv 2)))))), ?_⟩
    refine Evl.q_asgL (xs := []) (Evl.el_lst Evl.ea_nil (by decide)) fun q H1 nq e1 hq => ?_
    refine Evl.q_asg (v := .int 0) Evl.ev_c fun H2 e2 => ?_
    have word : ∀ {H3 : Hp} {i : Nat}, i ≤ 3000 → EvD K (tOp (fun x y H Q => ∃ i j, x = .str i ∧ y = .str j ∧ i.length + j.length ≤ sizeLine ∧ Q (.str (i ++ j)) H) (tC (.str "value ")) (tCB (fun xs H Q => ∃ i, xs = [.int i] ∧ i.natAbs.log2 < 1920 ∧ Q (.str (toString i)) H) (tCons (tVar 3) tNil))) ([some (.ref p), some (.int (n : Nat)), some (.ref q), some (.int (i : Nat))] : L2.St) H3 (.str (nm i)) := fun {H3 i} hi => by
      have zz : sizeLine = 16777216 := sizeLine_eq
      have ln := nm_len (i := i) (by omega)
      refine ed_addS (a := "value ") (b := Str.ofString (toString (i : Int))) ed_str (fun H4 e Q q0 => ⟨_, rfl, (i : Int), rfl, ?_, q0 _ H4 (Ex.refl H4) (.str _)⟩) ?_
      · have : ((i : Int)).natAbs = i := by omega
        rw [this]
        by_cases z : i = 0
        · rw [z]; decide
        · exact Nat.lt_trans ((Nat.log2_lt z).mpr (by omega : i < 2 ^ 12)) (by decide)
      · have : ("value " : Str).length = 6 := by decide +kernel
        omega
    refine Evl.q_while (fun m σ' H' => ∃ i : Nat, σ' = [some (.ref p), some (.int (n : Nat)), some (.ref q), some (.int (i : Nat))] ∧ (freshOf ks i).length ≤ n ∧ i ≤ ks.length + n ∧ m = ks.length + n - i ∧ Ex H H' ∧ H' q = some (.lst ((freshOf ks i).map V.str))) (ks.length + n) ⟨0, rfl, Nat.zero_le _, Nat.zero_le _, rfl, e1.trans e2, e2 _ _ hq⟩ ?_
    rintro m σ' H' ⟨i, rfl, hfl, hi, rfl, eH, hq'⟩
    refine ⟨decide (((freshOf ks i).length : Int) < (n : Int)), Evl.et_is (et_lt (ed_lenL (Evl.ev_var rfl) hq') (ed_var rfl (.int _))) (by rw [List.length_map]), fun hb H3 e3 => ?_, fun hb H3 e3 => ?_⟩
    · have lt : (freshOf ks i).length < n := by have := of_decide_eq_true hb; omega
      have many := fresh_many ks i
      refine ⟨_, fun σ2 H2 h => h, ?_⟩
      refine Evl.q_when (b := !hasK (.inr (nm i)) ks) (et_inKL (neg := true) (a := .inr (nm i)) (word (by omega)) (Evl.ev_var rfl) ((eH.trans e3) _ _ hp)) (fun hb2 H4 e4 => ?_) (fun hb2 H4 e4 => ?_)
      · have hk0 : hasK (.inr (nm i)) ks = false := by simpa using hb2
        have e34 := e3.trans e4
        have fs : freshOf ks (i + 1) = freshOf ks i ++ [nm i] := by rw [fresh_succ, hk0]; rfl
        refine Evl.s_app (l := q) (xs := (freshOf ks i).map V.str) (v := .str (nm i)) (e34 _ _ hq') (Evl.ev_var rfl) (word (by omega)).evS (by rw [List.length_map]; omega) fun H5 e5 => ?_
        refine Evl.s_asg (v := .int ((i + 1 : Nat) : Int)) (by have := ed_op (K := K) (g := fun i j => V.int (i + j)) (f := fun i j => i + j) (fun _ _ => rfl) (ta := tVar 3) (tb := tC (.int 1)) (σ := [some (.ref p), some (.int (n : Nat)), some (.ref q), some (.int (i : Nat))]) (H := upd H5 q (.lst ((freshOf ks i).map V.str ++ [.str (nm i)]))) (ed_var rfl (.int _)) ed_int; exact this.evI) fun H6 e6 => ?_
        have em : Ex H (upd H5 q (.lst ((freshOf ks i).map V.str ++ [.str (nm i)]))) := Ex.mut ((eH.trans e34).trans e5) nq
        refine ⟨ks.length + n - (i + 1), by omega, i + 1, rfl, by rw [fs, List.length_append, List.length_cons, List.length_nil]; omega, by omega, rfl, em.trans e6, ?_⟩
        rw [e6 _ _ upd_same, fs, List.map_append]
        rfl
      · have hk0 : hasK (.inr (nm i)) ks = true := by simpa using hb2
        have e34 := e3.trans e4
        have fs : freshOf ks (i + 1) = freshOf ks i := by rw [fresh_succ, hk0]; simp
        refine Evl.s_asg (v := .int ((i + 1 : Nat) : Int)) (by have := ed_op (K := K) (g := fun i j => V.int (i + j)) (f := fun i j => i + j) (fun _ _ => rfl) (ta := tVar 3) (tb := tC (.int 1)) (σ := [some (.ref p), some (.int (n : Nat)), some (.ref q), some (.int (i : Nat))]) (H := H4) (ed_var rfl (.int _)) ed_int; exact this.evI) fun H6 e6 => ?_
        exact ⟨ks.length + n - (i + 1), by omega, i + 1, rfl, by rw [fs]; exact hfl, by omega, rfl, (eH.trans e34).trans e6, by rw [fs]; exact (e34.trans e6) _ _ hq'⟩
    · have ge : (freshOf ks i).length = n := by have := of_decide_eq_false hb; omega
      exact Evl.s_ret (Evl.ev_var rfl) fun H4 e4 => k q H4 (freshOf ks i) ((eH.trans e3).trans e4) nq ((e3.trans e4) _ _ hq') ge (fresh_nodup ks i) (fresh_not ks i)
end
end K86
end
section
set_option maxRecDepth 100000
set_option maxHeartbeats 4000000
namespace K86
open PySem PySem.Spec PyProof.Rows L2 HF
open Evl (Ex Ev EvT EvL EvU EvA)
section
variable {P : Program} {w : World} {K : PySem.W.Frag} {mg : Str → Option Value} {base : Heap} {f : Addr} {fd : FuncData} {σ : L2.St} {H : Hp} {anyA CR CD : Addr}
theorem FrD.tx {H H' : Hp} (r : FrD H H') : TX H H' := fun a xs h => r a _ h (fun _ z => by cases z) fun _ z => by cases z
theorem consU {te : TE} {ta : TA} {xs : List V} {Q : List V → Hp → Prop} (h : EvU te σ H xs) (q : ∀ p H1, H p = none → Ex H H1 → H1 p = some (.tup xs) → ta σ H1 fun vs H2 => Q (.ref p :: vs) H2) : tCons te ta σ H Q := h H (Ex.refl H) _ q
theorem eu_tupleL {te : TE} {p : Addr} {xs : List V} (h : Ev te σ H (.ref p)) (hp : H p = some (.lst xs)) : EvU (tCB (fun xs H Q => ∃ p ys, xs = [.ref p] ∧ ((SqL K H p ys ∧ ∀ l, H l = none → Q (.ref l) (upd H l (.tup ys))) ∨ (SqT K H p ys ∧ Q (.ref p) H))) (tCons te tNil)) σ H xs := fun H0 e Q q => h H0 e _ fun H1 e1 =>
  ⟨p, xs, rfl, .inl ⟨SqL.of (e1 _ _ (e _ _ hp)), fun l hl => q l _ (Evl.fresh_back e1 hl) (e1.trans (Ex.new hl)) upd_same⟩⟩
theorem ev_dgetK {to tk : TE} {p : Addr} {x : Str} {v : V} {kvs : List (Key × V)} (ho : Ev to σ H (.ref p)) (hk : EvD K tk σ H (.str x)) (hp : H p = some (.dK kvs)) (hv : valV kvs (.inr x) = some v) : Ev (tDGet to tk) σ H v := fun H1 e Q q =>
  ho H1 e _ fun H2 e2 => hk H2 (e.trans e2) _ fun y H3 e3 t3 => by
    rw [t3.str_inv]
    have g := DGet.k (k := Sum.inr x) (e3 _ _ (e2 _ _ (e _ _ hp)))
    rw [hv] at g
    exact ⟨p, v, rfl, g, q H3 (e2.trans e3)⟩
def spFrozen (P : Program) (w : World) (K : PySem.W.Frag) (CD CR : Addr) : Sp := fun vs H Q _ => ∃ v pp pw bd pl, vs = [v, .ref pp, .ref pw] ∧ TD K H v (.tuple (List.map litD bd)) ∧ bd.length ≤ 20 ∧ (∀ a ∈ bd, a.2.length ≤ 20) ∧ (∀ a ∈ bd, ∀ t ∈ a.2, Tm.ok t = true) ∧ H pp = some (.dK (bdKV pl)) ∧ (∀ a ∈ bd, ∀ t ∈ a.2, (res t pl).isSome = true) ∧ H pw = some (.lst []) ∧
  ∀ db H' T, Ex H H' → DbIs P w H' CD CR db T 0 → (∀ (y : Str) (r : Row), r ∈ rowsOf T y ↔ ∃ a ∈ bd, a.1 = y ∧ a.2.map (fun t => res t pl) = r.map some) → (∀ y, (rowsOf T y).length ≤ bd.length) → Q (.ref db) H'
theorem sc_frozen_body : FnScope ["body", "places", "wild", "found", "left", "literal", "row", "term"] ["body", "places", "wild"] (defScope sfrozen_body) := C8.fnScope_by (by decide +kernel)
theorem cal_frozen_body (F : FnP K "frozen_body" "frozen_body" sfrozen_body f fd) (gm : mg "frozen_body" = some (.ref f)) (T0 : Bl mg) (G0 : Gv K mg anyA) (c_Database : C8.Mak P w K mg base 1 "Database" CD (spDbInit CD) []) (m_add : C8.Met P w K mg base 4 CD "add" (spDbAdd P w CD CR) []) : C8.Cal P w K mg base 5 "frozen_body" (spFrozen P w K CD CR) [] := by
  refine mkCal F gm sc_frozen_body (fun _ _ _ _ _ _ us hl => match us, hl with | [_, _, _], _ => rfl) (fun vs H Q E h => ?_) (fun cdv A outer s H vs Q E hr h => ?_)
  · obtain ⟨v, pp, pw, bd, pl, rfl, _⟩ := h
    rfl
  · obtain ⟨v, pp, pw, bd, pl, rfl, tv, hl, hal, hok, hpp, hsome, hpw, k⟩ := h
    have hu := hu_of hr
    refine ⟨_, (pss_cons (ps_set (i := 3) sc_frozen_body.nd rfl (Or.inl rfl) (pe_mk0 c_Database hr (by decide) rfl))
      (pss_cons (ps_set (i := 4) sc_frozen_body.nd rfl (Or.inl rfl) (pe_callTy call_list_of (by rfl) T0.f_list (by decide +kernel) (pa_cons (pv 2) pa_nil)))
      (pss_cons (ps_for PassesOwn.never rfl (pi_tup (pv 0)) (pg_name (i := 5) sc_frozen_body.nd rfl (Or.inl rfl))
      (pss_cons (ps_set (i := 6) sc_frozen_body.nd rfl (Or.inl rfl) (pe_lst pa_nil))
        (pss_cons (ps_for PassesOwn.never rfl (pi_tup (pe_ix ix_tup (pe_ix ix_tup (pv 5) pe_int (fun _ _ => rfl)) pe_int (fun _ _ => rfl))) (pg_name (i := 7) sc_frozen_body.nd rfl (Or.inl rfl))
        (pss_one (ps_if (pt_cmpR (op_eqD hr.units) (pv 7) (C8.pe_gc rfl G0.g_ANY) (nomark _)) pss_never
          (pss_one (ps_if (pt_cmpR op_eq (pe_ix ix_tup (pv 7) pe_int (fun _ _ => rfl)) pe_str (nomark _)) (pss_one (ps_expr (pe_bm PySem.F.plainAttrs_list PySem.F.slot_list_append PySem.F.type_list_append mt_append (pv 6) (pa_cons (pe_ix ix_tup (pv 7) pe_int (fun _ _ => rfl)) pa_nil))))
            (pss_one (ps_expr (pe_bm PySem.F.plainAttrs_list PySem.F.slot_list_append PySem.F.type_list_append mt_append (pv 6) (pa_cons (pe_dget hu (pv 1) (pe_ix ix_tup (pv 7) pe_int (fun _ _ => rfl)) (fun _ _ => rfl)) pa_nil)))))))))
        (pss_one (ps_expr (C8.pe_mt m_add hr (by decide) (pv 3) (pa_cons (pe_ix ix_tup (pe_ix ix_tup (pv 5) pe_int (fun _ _ => rfl)) pe_int (fun _ _ => rfl)) (pa_cons (pe_callTy call_tuple_of (by rfl) T0.f_tuple (by decide +kernel) (pa_cons (pv 6) pa_nil)) pa_nil))))))))
      (pss_one (ps_ret (pv 3)))))), ?_⟩
    -- Database()
    show ∀ db dx, H db = none → H dx = none → dx ≠ db → _
    intro db dx ndb ndx nxd
    have e1 : Ex H (upd (upd H dx (.own db)) db (.ins CD dx [])) := (Ex.new ndx).trans (Ex.new (by rw [upd_ne nxd.symm]; exact ndb))
    have hdb1 : (upd (upd H dx (.own db)) db (.ins CD dx [])) db = some (.ins CD dx []) := upd_same
    refine ⟨db, dx, rfl, hdb1, fun ta H1 keep nta hdb hta => ⟨rfl, ?_⟩⟩
    have e2 : Ex H H1 := fun a o h => keep a o (ne_of_none h ndb) (e1 a o h)
    have nta0 : H ta = none := Evl.fresh_back e1 nta
    have new0 : DbNew P w H H1 CD CR db [] 0 := ⟨e2, ⟨dx, ta, hdb, hta, nta0⟩, fun _ z => (by cases z), fun _ z => (by cases z), Nat.le_refl 0⟩
    refine Evl.q_asgL (xs := []) (Evl.el_list (Evl.ev_var rfl) (SqL.of (e2 _ _ hpw))) fun pq H2 npq e3 hpq => ?_
    refine q_forD (ds := bd.map litD) (ed_var rfl (tv.mono_ex (e2.trans e3))) (fun G i σ' H' => ∃ o5 o6 o7 T, σ' = [some v, some (.ref pp), some (.ref pw), some (.ref db), some (.ref pq), o5, o6, o7] ∧ TX G H' ∧ DbNew P w H H' CD CR db T (2 * i) ∧ (∀ (y : Str) (r : Row), r ∈ rowsOf T y ↔ ∃ a ∈ bd.take i, a.1 = y ∧ a.2.map (fun t => res t pl) = r.map some) ∧ ∀ y, (rowsOf T y).length ≤ i)
      (fun G e4 => ⟨_, _, _, [], rfl, TX.refl _, new0.exd (e3.trans e4) (Nat.le_refl 0), fun y r => ?_, fun y => Nat.le_refl 0⟩) (fun G i σ' H' pv => let ⟨_, _, _, _, _, t, _⟩ := pv; t) ?_ ?_
    · rw [List.take_zero]
      constructor
      · intro h
        cases h
      · rintro ⟨a, h, _⟩
        cases h
    · rintro G i d x σ' H' hd tx ⟨o5, o6, o7, T, rfl, tG, hnew, hrows, hrl⟩
      rw [List.getElem?_map] at hd
      obtain ⟨a, ha, rfl⟩ := Option.map_eq_some_iff.mp hd
      have am : a ∈ bd := List.mem_of_getElem? ha
      have ilt : i < bd.length := (List.getElem?_eq_some_iff.mp ha).1
      have tk : bd.take (i + 1) = bd.take i ++ [a] := by rw [List.take_add_one, ha, Option.toList_some]
      refine Evl.q_asgL (xs := []) (Evl.el_lst Evl.ea_nil (by decide)) fun pr H4 npr e4 hpr => ?_
      refine q_forD (ds := a.2.map Tm.d) (ed_atT (ed_var rfl (tx.mono_ex e4))) (fun G2 j σ2 H5 => ∃ o7, σ2 = [some v, some (.ref pp), some (.ref pw), some (.ref db), some (.ref pq), some x, some (.ref pr), o7] ∧ TX G2 H5 ∧ Ex H' H5 ∧ H5 pr = some (.lst ((a.2.take j).map fun t => optV (res t pl)))) (fun G2 e5 => ⟨_, rfl, TX.refl _, e4.trans e5, by rw [List.take_zero]; exact e5 _ _ hpr⟩) (fun G2 j σ2 H5 pv => let ⟨_, _, t, _⟩ := pv; t) ?_ ?_
      · rintro G2 j d z σ2 H5 hj tz ⟨o7, rfl, tG2, e5, hpr5⟩
        rw [List.getElem?_map] at hj
        obtain ⟨t, ht, rfl⟩ := Option.map_eq_some_iff.mp hj
        have tm : t ∈ a.2 := List.mem_of_getElem? ht
        have tkj : (a.2.take (j + 1)).map (fun t => optV (res t pl)) = (a.2.take j).map (fun t => optV (res t pl)) ++ [optV (res t pl)] := by
          rw [List.take_add_one, ht, Option.toList_some, List.map_append] <;> rfl
        have eAny : EvT (tTest (tOp (rEqD K) (tVar 7) (tC (.ref anyA)))) ([some v, some (.ref pp), some (.ref pw), some (.ref db), some (.ref pq), some x, some (.ref pr), some z] : L2.St) H5 false := by
          have := et_eqDp (K := K) (σ := [some v, some (.ref pp), some (.ref pw), some (.ref db), some (.ref pq), some x, some (.ref pr), some z]) (ta := tVar 7) (tb := tC (.ref anyA)) (ed_var rfl tz) (ed_gl (any_td G0 H5)) (shaped_tm (hok a am t tm)) shaped_any
          rw [eqv_any] at this
          exact this
        have fin : ∀ (H6 H7 : Hp), Ex H5 H6 → Ex H6 H7 → ∃ o7, ([some v, some (.ref pp), some (.ref pw), some (.ref db), some (.ref pq), some x, some (.ref pr), some z] : L2.St) = [some v, some (.ref pp), some (.ref pw), some (.ref db), some (.ref pq), some x, some (.ref pr), o7] ∧ TX G2 (upd H7 pr (.lst ((a.2.take j).map (fun t => optV (res t pl)) ++ [optV (res t pl)]))) ∧ Ex H' (upd H7 pr (.lst ((a.2.take j).map (fun t => optV (res t pl)) ++ [optV (res t pl)]))) ∧ (upd H7 pr (.lst ((a.2.take j).map (fun t => optV (res t pl)) ++ [optV (res t pl)]))) pr = some (.lst ((a.2.take (j + 1)).map fun t => optV (res t pl))) := fun H6 H7 e6 e7 =>
          ⟨_, rfl, (tG2.trans (TX.of_ex (e6.trans e7))).trans (TX.lst ((e6.trans e7) _ _ hpr5)), Ex.mut (e5.trans (e6.trans e7)) npr, by rw [upd_same, tkj]⟩
        have al := hal a am
        refine Evl.s_if (b := false) eAny (fun hb => absurd hb (by decide)) (fun _ H6 e6 => ?_)
        have tz6 := tz.mono_ex e6
        cases t with
        | val c =>
          refine Evl.s_if (b := true) (Evl.et_is (et_eqS (a := "value") (b := "value") (ed_ix (ed_var rfl tz6) ed_int at0) ed_str) (by decide +kernel)) (fun _ H7 e7 => ?_) (fun hb => absurd hb (by decide))
          exact Evl.s_app (l := pr) (v := kV c) ((e6.trans e7) _ _ hpr5) (Evl.ev_var rfl) (EvD.evK (ed_ix (ed_var rfl (tz6.mono_ex e7)) ed_int at1)) (by rw [List.length_map, List.length_take]; omega) fun H8 e8 => fin (H7) H8 (e6.trans e7) e8
        | var y =>
          refine Evl.s_if (b := false) (Evl.et_is (et_eqS (a := "var") (b := "value") (ed_ix (ed_var rfl tz6) ed_int at0) ed_str) (by decide +kernel)) (fun hb => absurd hb (by decide)) (fun _ H7 e7 => ?_)
          have e57 := e6.trans e7
          obtain ⟨c, hc⟩ := Option.isSome_iff_exists.mp (hsome a am _ tm)
          have hc' : bGet pl y = some c := hc
          have ov : optV (res (.var y) pl) = kV c := by rw [hc]; rfl
          rw [ov] at fin
          exact Evl.s_app (l := pr) (v := kV c) (e57 _ _ hpr5) (Evl.ev_var rfl) (ev_dgetK (K := K) (x := y) (Evl.ev_var rfl) (ed_ix (ed_var rfl (tz6.mono_ex e7)) ed_int at1) ((hnew.ex.trans (e5.trans e57)) _ _ hpp) (by rw [bGet_val, hc']; rfl)) (by rw [List.length_map, List.length_take]; omega) fun H8 e8 => fin H7 H8 e57 e8
      · rintro G2 σ2 H5 ⟨o7, rfl, tG2, e5, hpr5⟩
        rw [List.length_map, List.take_length] at hpr5
        have hos := some_row (os := a.2.map fun t => res t pl) fun o ho => by
          obtain ⟨t, ht, rfl⟩ := List.mem_map.mp ho
          exact hsome a am t ht
        have hxs : a.2.map (fun t => optV (res t pl)) = (rowOf (a.2.map fun t => res t pl)).map kV := by
          rw [← row_opt, ← hos, List.map_map]
          rfl
        rw [hxs] at hpr5
        have hn5 := hnew.exd e5 (Nat.le_refl _)
        obtain ⟨dx', ta', g1, g2, g3⟩ := hn5.at_
        refine ⟨_, rfl, db, dx', _, rfl, g1, rfl, ?_⟩
        refine consD (ed_atN (K := K) (te := tVar 5) (ed_var rfl (tx.mono_ex e5))) fun x1 H6 e6 tx1 => ?_
        rw [tx1.str_inv]
        refine consU (eu_tupleL (K := K) (Evl.ev_var rfl) (e6 _ _ hpr5)) fun b H7 nb e7 hb => ?_
        refine ⟨H, db, a.1, b, T, 2 * i, rowOf (a.2.map fun t => res t pl), rfl, hn5.exd (e6.trans e7) (Nat.le_refl _), by omega, hb, fun v' H8 T' hn8 hr8 fr8 => ?_⟩
        have e57 := e6.trans e7
        have hn8' : DbNew P w H H8 CD CR db T' (2 * (i + 1)) := by
          rw [show 2 * (i + 1) = 2 * i + 2 by omega]
          exact hn8
        refine ⟨_, _, _, T', rfl, ((tG.trans (TX.of_ex e5)).trans (TX.of_ex e57)).trans fr8.tx, hn8', fun y r => ?_, fun y => ?_⟩
        · rw [hr8, tk]
          by_cases e : y = a.1
          · rw [if_pos e, mem_addRow]
            constructor
            · rintro (h | rfl)
              · obtain ⟨a', h1, h2, h3⟩ := (hrows a.1 r).mp h
                exact ⟨a', List.mem_append_left _ h1, by rw [h2, e], h3⟩
              · exact ⟨a, List.mem_append_right _ (by simp), e.symm, hos⟩
            · rintro ⟨a', h1, h2, h3⟩
              rcases List.mem_append.mp h1 with h1 | h1
              · exact .inl ((hrows a.1 r).mpr ⟨a', h1, by rw [h2, e], h3⟩)
              · have : a' = a := by simpa using h1
                rw [this, hos] at h3
                exact .inr (some_inj h3).symm
          · rw [if_neg e, hrows]
            constructor
            · rintro ⟨a', h1, h2, h3⟩
              exact ⟨a', List.mem_append_left _ h1, h2, h3⟩
            · rintro ⟨a', h1, h2, h3⟩
              rcases List.mem_append.mp h1 with h1 | h1
              · exact ⟨a', h1, h2, h3⟩
              · have : a' = a := by simpa using h1
                exact absurd (by rw [← h2, this]) e
        · rw [hr8]
          by_cases e : y = a.1
          · rw [if_pos e]
            have h1 := addRow_len (rows := rowsOf T a.1) (r := rowOf (a.2.map fun t => res t pl))
            have h2 := hrl a.1
            omega
          · rw [if_neg e]
            have := hrl y
            omega
    · rintro G σ' H' ⟨o5, o6, o7, T, rfl, tG, hnew, hrows, hrl⟩
      rw [List.length_map, List.take_length] at hrows
      rw [List.length_map] at hnew hrl
      exact Evl.s_ret (Evl.ev_var rfl) fun H5 e5 => k db H5 T (hnew.ex.trans e5) ((hnew.froze (by omega)).ex e5 (Nat.le_refl 0)) hrows hrl
end
end K86
end
section
set_option maxRecDepth 100000
set_option maxHeartbeats 4000000
/-! the plain law: what subsumes tells is what makes_all tells -/
namespace K86
open PySem PySem.Spec PyProof.Rows L2 HF
def tres (b : Pl) : Tm → Option Tm
  | .val k => some (.val k)
  | .var x => tGet b x
def tLe (b b' : Pl) : Prop := ∀ x t, tGet b x = some t → tGet b' x = some t
theorem stepT_sound {t u : Tm} {b b' : Pl} (h : stepT t u b = some b') : tLe b b' ∧ tres b' t = some u := by
  unfold stepT at h
  cases t with
  | val c =>
    simp only at h
    by_cases e : u = .val c
    · rw [if_pos e] at h
      cases h
      exact ⟨fun _ _ z => z, congrArg some e.symm⟩
    · rw [if_neg e] at h
      cases h
  | var x =>
    simp only at h
    cases e : tGet b x with
    | none =>
      rw [e] at h
      cases h
      refine ⟨fun y k' hy => ?_, ?_⟩
      · rw [tGet_app, hy]
      · show tGet _ x = some u
        rw [tGet_app, e]
        simp
    | some k' =>
      rw [e] at h
      simp only at h
      by_cases q : k' = u
      · rw [if_pos q] at h
        cases h
        exact ⟨fun _ _ z => z, by show tGet b x = some u; rw [e, q]⟩
      · rw [if_neg q] at h
        cases h
theorem tres_le {t u : Tm} {b b' : Pl} (h : tLe b b') (e : tres b t = some u) : tres b' t = some u := by
  cases t with
  | val c => exact e
  | var x => exact h x u e
theorem stepZ_sound : ∀ {ts us : List Tm} {b b' : Pl}, ts.length = us.length → stepZ (ts.zip us) (some b) = some b' → tLe b b' ∧ ts.map (tres b') = us.map some
  | [], [], b, b', _, h => by
    cases h
    exact ⟨fun _ _ z => z, rfl⟩
  | [], _ :: _, _, _, h, _ => by cases h
  | _ :: _, [], _, _, h, _ => by cases h
  | t :: ts, u :: us, b, b', hl, h => by
    have h : stepZ (ts.zip us) (stepT t u b) = some b' := h
    cases e : stepT t u b with
    | none => rw [e, stepZ_none] at h; cases h
    | some b1 =>
      rw [e] at h
      obtain ⟨h1, h2⟩ := stepZ_sound (ts := ts) (us := us) (Nat.succ.inj hl) h
      obtain ⟨h3, h4⟩ := stepT_sound e
      exact ⟨fun x k' z => h1 x k' (h3 x k' z), by rw [List.map_cons, List.map_cons, h2, tres_le h1 h4]⟩
theorem litStep_sound {a c : At} {b b' : Pl} (hw : a.1 = c.1 → a.2.length = c.2.length) (h : litStep a c b = some b') : a.1 = c.1 ∧ tLe b b' ∧ a.2.map (tres b') = c.2.map some := by
  unfold litStep at h
  by_cases e : a.1 = c.1
  · rw [if_pos e] at h
    exact ⟨e, stepZ_sound (hw e) h⟩
  · rw [if_neg e] at h
    cases h
theorem map_le {ts us : List Tm} {b b' : Pl} (h : tLe b b') (e : ts.map (tres b) = us.map some) : ts.map (tres b') = us.map some := by
  rw [← e]
  refine List.map_congr_left fun t ht => ?_
  have : tres b t ∈ ts.map (tres b) := List.mem_map.mpr ⟨t, ht, rfl⟩
  rw [e] at this
  obtain ⟨u, _, hu⟩ := List.mem_map.mp this
  rw [← hu, tres_le h hu.symm]
theorem extP_sound {bd : List At} : ∀ {as : List At} {b b' : Pl}, (∀ a ∈ as, ∀ c ∈ bd, a.1 = c.1 → a.2.length = c.2.length) → ExtP bd as b b' → tLe b b' ∧ ∀ a ∈ as, ∃ c ∈ bd, a.1 = c.1 ∧ a.2.map (tres b') = c.2.map some
  | [], b, b', _, h => by
    have h : b' = b := h
    subst h
    exact ⟨fun _ _ z => z, fun _ z => by cases z⟩
  | a :: as, b, b', hw, h => by
    obtain ⟨c, hc, b1, h1, h2⟩ := h
    obtain ⟨e1, e2, e3⟩ := litStep_sound (hw a (List.mem_cons_self ..) c hc) h1
    obtain ⟨g1, g2⟩ := extP_sound (as := as) (fun a' h' => hw a' (List.mem_cons_of_mem _ h')) h2
    refine ⟨fun x t z => g1 x t (e2 x t z), fun a' h' => ?_⟩
    rcases List.mem_cons.mp h' with rfl | h'
    · exact ⟨c, hc, e1, map_le g1 e3⟩
    · exact g2 a' h'
def sub (θ : Str → Tm) : Tm → Tm
  | .val k => .val k
  | .var x => θ x
def tAgr (θ : Str → Tm) (b : Pl) : Prop := ∀ x t, tGet b x = some t → θ x = t
theorem stepT_full {θ : Str → Tm} {t : Tm} {b : Pl} (h : tAgr θ b) : ∃ b', stepT t (sub θ t) b = some b' ∧ tAgr θ b' := by
  cases t with
  | val c => exact ⟨b, if_pos (show sub θ (.val c) = .val c from rfl), h⟩
  | var x =>
    unfold stepT
    simp only
    cases e : tGet b x with
    | none =>
      refine ⟨_, rfl, fun y k hy => ?_⟩
      rw [tGet_app] at hy
      cases q : tGet b y with
      | some k' =>
        rw [q] at hy
        cases hy
        exact h y _ q
      | none =>
        rw [q] at hy
        simp only at hy
        by_cases z : x = y
        · rw [if_pos z] at hy
          rw [← z]
          exact Option.some.inj hy
        · rw [if_neg z] at hy
          cases hy
    | some k' =>
      have := h x k' e
      simp only
      exact ⟨b, if_pos (show k' = sub θ (Tm.var x) from this.symm), h⟩
theorem stepZ_full {θ : Str → Tm} : ∀ {ts : List Tm} {b : Pl}, tAgr θ b → ∃ b', stepZ (ts.zip (ts.map (sub θ))) (some b) = some b' ∧ tAgr θ b'
  | [], b, h => ⟨b, rfl, h⟩
  | t :: ts, b, h => by
    obtain ⟨b1, h1, h2⟩ := stepT_full (t := t) h
    obtain ⟨b2, h3, h4⟩ := stepZ_full (ts := ts) h2
    exact ⟨b2, by show stepZ _ (stepT t (sub θ t) b) = _; rw [h1]; exact h3, h4⟩
theorem extP_full {θ : Str → Tm} {bd : List At} : ∀ {as : List At} {b : Pl}, tAgr θ b → (∀ a ∈ as, ∃ c ∈ bd, a.1 = c.1 ∧ a.2.map (sub θ) = c.2) → ∃ b', ExtP bd as b b'
  | [], b, _, _ => ⟨b, rfl⟩
  | a :: as, b, h, hw => by
    obtain ⟨c, hc, e1, e2⟩ := hw a (List.mem_cons_self ..)
    obtain ⟨b1, h1, h2⟩ := stepZ_full (ts := a.2) h
    obtain ⟨b', h3⟩ := extP_full (as := as) h2 fun a' h' => hw a' (List.mem_cons_of_mem _ h')
    refine ⟨b', c, hc, b1, ?_, h3⟩
    unfold litStep
    rw [if_pos e1, ← e2]
    exact h1
/-- the head's variables stand in the body -/
def HeadIn (r : Rl) : Prop := ∀ x, Tm.var x ∈ r.ht → ∃ a ∈ r.bd, Tm.var x ∈ a.2
/-- the frozen values: each variable of r2's body has its own, no value of the rules is one -/
structure Frz (r1 r2 : Rl) (pl : Bd) : Prop where
  all : ∀ a ∈ r2.bd, ∀ t ∈ a.2, (res t pl).isSome = true
  hd : ∀ t ∈ r2.ht, (res t pl).isSome = true
  inj : ∀ x y k, bGet pl x = some k → bGet pl y = some k → x = y
  out1 : ∀ x k, bGet pl x = some k → k ∉ valsIn r1
  out2 : ∀ x k, bGet pl x = some k → k ∉ valsIn r2
theorem val_mem {r : Rl} {k : Key} (h : Tm.val k ∈ r.ht ∨ ∃ a ∈ r.bd, Tm.val k ∈ a.2) : k ∈ valsIn r := by
  unfold valsIn allTms
  refine List.mem_map.mpr ⟨.val k, List.mem_filter.mpr ⟨?_, rfl⟩, rfl⟩
  rcases h with h | ⟨a, ha, h⟩
  · exact List.mem_append_left _ h
  · exact List.mem_append_right _ (List.mem_flatMap.mpr ⟨a, ha, h⟩)
/-- the term behind a value -/
def back (pl : Bd) (k : Key) : Tm := match pl.find? fun p => decide (p.2 = k) with
  | some p => .var p.1
  | none => .val k
theorem back_of {r1 r2 : Rl} {pl : Bd} (f : Frz r1 r2 pl) (nd : BdOk pl) {t : Tm} {k : Key} (ht : t ∈ r2.ht ∨ ∃ a ∈ r2.bd, t ∈ a.2) (h : res t pl = some k) : back pl k = t := by
  have get_of : ∀ p ∈ pl, bGet pl p.1 = some p.2 := by
    have : ∀ (b : Bd), BdOk b → ∀ p ∈ b, bGet b p.1 = some p.2 := fun b => by
      induction b with
      | nil => exact fun _ _ z => by cases z
      | cons q b ih =>
        intro hn p hp
        unfold BdOk at hn
        rw [List.map_cons, List.nodup_cons] at hn
        rw [bGet_cons]
        rcases List.mem_cons.mp hp with rfl | hp
        · rw [if_pos rfl]
        · rw [if_neg (fun z => hn.1 (by rw [z]; exact List.mem_map_of_mem hp)), ih hn.2 p hp]
    exact this pl nd
  unfold back
  cases t with
  | var y =>
    have hy : bGet pl y = some k := h
    cases q : pl.find? fun p => decide (p.2 = k) with
    | none =>
      rw [List.find?_eq_none] at q
      unfold bGet at hy
      obtain ⟨p, hp, e⟩ := Option.map_eq_some_iff.mp hy
      exact absurd (decide_eq_true e) (q p (List.mem_of_find?_eq_some hp))
    | some p =>
      have hp := List.mem_of_find?_eq_some q
      have e : p.2 = k := by simpa using List.find?_some q
      have := get_of p hp
      rw [e] at this
      rw [f.inj y p.1 k hy this]
  | val c =>
    have e : c = k := Option.some.inj h
    subst e
    cases q : pl.find? fun p => decide (p.2 = c) with
    | none => rfl
    | some p =>
      have hp := List.mem_of_find?_eq_some q
      have e : p.2 = c := by simpa using List.find?_some q
      have := get_of p hp
      rw [e] at this
      exact absurd (val_mem ht) (f.out2 p.1 c this)
theorem makes_sub {r1 r2 : Rl} {pl : Bd} {T : Tabs} {L : List Bd} (pr : Pair r1 r2) (h1 : HeadIn r1) (f : Frz r1 r2 pl) (nd : BdOk pl) (hT : ∀ (y : Str) (r : Row), r ∈ rowsOf T y ↔ ∃ a ∈ r2.bd, a.1 = y ∧ a.2.map (fun t => res t pl) = r.map some)
    (sound : ∀ b ∈ L, ∀ a ∈ r1.bd, InDb T a b) (full : ∀ θ, GoodTh T r1.bd θ → ∃ b ∈ L, Agr θ b) :
    (∃ b ∈ L, r1.ht.map (fun t => res t b) = r2.ht.map fun t => res t pl) ↔ ∃ b0 b, stepZ (r1.ht.zip r2.ht) (some []) = some b0 ∧ ExtP r2.bd r1.bd b0 b := by
  constructor
  · rintro ⟨b, hb, hh⟩
    let θ : Str → Tm := fun x => back pl ((bGet b x).getD (.inl 0))
    have each : ∀ {ts us : List Tm}, (∀ t ∈ ts, t ∈ r1.ht ∨ ∃ a ∈ r1.bd, t ∈ a.2) → (∀ t ∈ us, t ∈ r2.ht ∨ ∃ a ∈ r2.bd, t ∈ a.2) → (∀ u ∈ us, (res u pl).isSome = true) → ts.map (fun t => res t b) = us.map (fun t => res t pl) → ts.map (sub θ) = us := by
      intro ts
      induction ts with
      | nil =>
        intro us _ _ _ e
        cases us with
        | nil => rfl
        | cons u us => cases e
      | cons t ts ih =>
        intro us q1 q2 q3 e
        cases us with
        | nil => cases e
        | cons u us =>
          rw [List.map_cons, List.map_cons] at e
          injection e with e1 e2
          rw [List.map_cons, ih (fun t h => q1 t (List.mem_cons_of_mem _ h)) (fun t h => q2 t (List.mem_cons_of_mem _ h)) (fun t h => q3 t (List.mem_cons_of_mem _ h)) e2]
          congr 1
          obtain ⟨k, hk⟩ := Option.isSome_iff_exists.mp (q3 u (List.mem_cons_self ..))
          have bk := back_of f nd (q2 u (List.mem_cons_self ..)) hk
          cases t with
          | var x =>
            have : bGet b x = some k := e1.trans hk
            show back pl ((bGet b x).getD (.inl 0)) = u
            rw [this]
            exact bk
          | val c =>
            have hc : some c = some k := e1.trans hk
            have hc := Option.some.inj hc
            subst hc
            show Tm.val c = u
            cases u with
            | val d => exact congrArg Tm.val (Option.some.inj hk).symm
            | var y => exact absurd (val_mem (q1 _ (List.mem_cons_self ..))) (f.out1 y c hk)
    have hd := each (fun t h => .inl h) (fun t h => .inl h) f.hd hh
    obtain ⟨b0, s1, s2⟩ := stepZ_full (θ := θ) (ts := r1.ht) (b := []) fun x t z => by cases z
    rw [hd] at s1
    obtain ⟨b', s3⟩ := extP_full (bd := r2.bd) (as := r1.bd) s2 fun a ha => by
      obtain ⟨r, hr, e⟩ := sound b hb a ha
      obtain ⟨c, hc, e1, e2⟩ := (hT a.1 r).mp hr
      exact ⟨c, hc, e1.symm, each (fun t h => .inr ⟨a, ha, h⟩) (fun t h => .inr ⟨c, hc, h⟩) (f.all c hc) (e.trans e2.symm)⟩
    exact ⟨b0, b', s1, s3⟩
  · rintro ⟨b0, b, s1, s2⟩
    obtain ⟨_, g1⟩ := stepZ_sound pr.hd s1
    obtain ⟨le, g2⟩ := extP_sound (fun a ha c hc => pr.wid a ha c hc) s2
    have g1 := map_le le g1
    let evp : Tm → Key := fun t => (res t pl).getD (.inl 0)
    let θ : Str → Key := fun x => ((tGet b x).map evp).getD (.inl 0)
    have each : ∀ {ts us : List Tm}, (∀ u ∈ us, (res u pl).isSome = true) → ts.map (tres b) = us.map some → (ts.map (ev θ)).map some = us.map fun t => res t pl := by
      intro ts
      induction ts with
      | nil =>
        intro us _ e
        cases us with
        | nil => rfl
        | cons u us => cases e
      | cons t ts ih =>
        intro us q3 e
        cases us with
        | nil => cases e
        | cons u us =>
          rw [List.map_cons, List.map_cons] at e
          injection e with e1 e2
          rw [List.map_cons, List.map_cons, List.map_cons, ih (fun t h => q3 t (List.mem_cons_of_mem _ h)) e2]
          congr 1
          obtain ⟨k, hk⟩ := Option.isSome_iff_exists.mp (q3 u (List.mem_cons_self ..))
          rw [hk]
          cases t with
          | var x =>
            have : tGet b x = some u := e1
            show some (((tGet b x).map evp).getD (.inl 0)) = some k
            rw [this]
            show some ((res u pl).getD (.inl 0)) = some k
            rw [hk]
            rfl
          | val c =>
            have hu : Tm.val c = u := Option.some.inj e1
            subst hu
            exact hk
    have good : GoodTh T r1.bd θ := fun a ha => by
      obtain ⟨c, hc, e1, e2⟩ := g2 a ha
      exact (hT a.1 _).mpr ⟨c, hc, e1.symm, (each (f.all c hc) e2).symm⟩
    obtain ⟨b', hb', ag⟩ := full θ good
    refine ⟨b', hb', ?_⟩
    rw [← each f.hd g1, List.map_map]
    refine List.map_congr_left fun t ht => ?_
    cases t with
    | val c => rfl
    | var x =>
      obtain ⟨a, ha, hx⟩ := h1 x ht
      obtain ⟨r, _, e⟩ := sound b' hb' a ha
      have : res (.var x) b' ∈ a.2.map (fun t => res t b') := List.mem_map.mpr ⟨_, hx, rfl⟩
      rw [e] at this
      obtain ⟨k, _, hk⟩ := List.mem_map.mp this
      have hk' : bGet b' x = some k := hk.symm
      show bGet b' x = some (θ x)
      rw [hk', ag x k hk']
end K86
end
section
set_option maxRecDepth 100000
set_option maxHeartbeats 4000000
namespace K86
open PySem PySem.Spec PyProof.Rows L2 HF
open Evl (Ex Ev EvT EvL EvU EvA)
/-! ### the names of a body -/
theorem addN_mem {acc : List Str} {x y : Str} : y ∈ addN acc x ↔ y ∈ acc ∨ y = x := by
  unfold addN
  by_cases h : x ∈ acc
  · rw [if_pos h]
    exact ⟨.inl, fun z => z.elim id fun q => by rw [q]; exact h⟩
  · rw [if_neg h, List.mem_append]
    simp
theorem addN_nodup {acc : List Str} {x : Str} (nd : acc.Nodup) : (addN acc x).Nodup := by
  unfold addN
  by_cases h : x ∈ acc
  · rw [if_pos h]; exact nd
  · rw [if_neg h, List.nodup_append]
    refine ⟨nd, by simp, fun a ha b hb e => ?_⟩
    have : b = x := by simpa using hb
    exact h (by rw [← this, ← e]; exact ha)
theorem addNs_mem : ∀ {xs acc : List Str} {y : Str}, y ∈ addNs acc xs ↔ y ∈ acc ∨ y ∈ xs
  | [], acc, y => by simp [addNs]
  | x :: xs, acc, y => by
    show y ∈ addNs (addN acc x) xs ↔ _
    rw [addNs_mem, addN_mem, List.mem_cons]
    constructor
    · rintro ((h | h) | h)
      · exact .inl h
      · exact .inr (.inl h)
      · exact .inr (.inr h)
    · rintro (h | h | h)
      · exact .inl (.inl h)
      · exact .inl (.inr h)
      · exact .inr h
theorem addNs_nodup : ∀ {xs acc : List Str}, acc.Nodup → (addNs acc xs).Nodup
  | [], _, nd => nd
  | x :: xs, acc, nd => addNs_nodup (xs := xs) (addN_nodup nd)
theorem namesOf_mem (ts : List Tm) : ∀ (acc : List Str) (y : Str), y ∈ ts.foldl addName acc ↔ y ∈ acc ∨ Tm.var y ∈ ts := by
  induction ts with
  | nil => intro acc y; simp
  | cons t ts ih =>
    intro acc y
    rw [List.foldl_cons, ih, List.mem_cons]
    cases t with
    | val c => simp [addName]
    | var x =>
      have : y ∈ addName acc (.var x) ↔ y ∈ acc ∨ y = x := addN_mem
      rw [this]
      constructor
      · rintro ((h | h) | h)
        · exact .inl h
        · exact .inr (.inl (by rw [h]))
        · exact .inr (.inr h)
      · rintro (h | h | h)
        · exact .inl (.inl h)
        · exact .inl (.inr (Tm.var.inj h))
        · exact .inr h
theorem namesBody_mem {bd : List At} : ∀ (acc : List Str) (y : Str), y ∈ bd.foldl (fun acc a => addNs acc (namesOf a.2)) acc ↔ y ∈ acc ∨ ∃ a ∈ bd, Tm.var y ∈ a.2 := by
  induction bd with
  | nil => intro acc y; simp
  | cons a bd ih =>
    intro acc y
    rw [List.foldl_cons, ih, addNs_mem]
    have : y ∈ namesOf a.2 ↔ Tm.var y ∈ a.2 := by
      unfold namesOf
      rw [namesOf_mem]
      simp
    rw [this]
    simp only [List.mem_cons, exists_eq_or_imp]
    constructor
    · rintro ((h | h) | h)
      · exact .inl h
      · exact .inr (.inl h)
      · exact .inr (.inr h)
    · rintro (h | h | h)
      · exact .inl (.inl h)
      · exact .inl (.inr h)
      · exact .inr h
theorem namesBody_nodup {bd : List At} : ∀ {acc : List Str}, acc.Nodup → (bd.foldl (fun acc a => addNs acc (namesOf a.2)) acc).Nodup := by
  induction bd with
  | nil => exact fun h => h
  | cons a bd ih => exact fun h => ih (addNs_nodup h)
/-! ### places = dict(zip(names, fresh)) -/
def plOf (nb : List Str) (fs : List Str) : Bd := nb.zip (fs.map Sum.inr)
theorem plOf_kv : ∀ (nb fs : List Str), (nb.map (Sum.inr : Str → Key)).zip (fs.map V.str) = bdKV (plOf nb fs)
  | [], _ => rfl
  | _ :: _, [] => rfl
  | x :: nb, s :: fs => by
    rw [List.map_cons, List.map_cons, List.zip_cons_cons, plOf_kv nb fs]
    rfl
theorem plOf_get {x : Str} {k : Key} : ∀ {nb fs : List Str}, bGet (plOf nb fs) x = some k → ∃ (i : Nat) (s : Str), nb[i]? = some x ∧ fs[i]? = some s ∧ k = .inr s
  | [], _, h => by cases h
  | _ :: _, [], h => by cases h
  | y :: nb, s :: fs, h => by
    have h : bGet ((y, Sum.inr s) :: plOf nb fs) x = some k := h
    rw [bGet_cons] at h
    by_cases e : y = x
    · rw [if_pos e] at h
      exact ⟨0, s, by rw [← e]; rfl, rfl, (Option.some.inj h).symm⟩
    · rw [if_neg e] at h
      obtain ⟨i, s', h1, h2, h3⟩ := plOf_get h
      exact ⟨i + 1, s', h1, h2, h3⟩
theorem plOf_some {x : Str} : ∀ {nb fs : List Str}, nb.length = fs.length → x ∈ nb → (bGet (plOf nb fs) x).isSome = true
  | [], _, _, h => by cases h
  | _ :: _, [], h, _ => by cases h
  | y :: nb, s :: fs, hl, h => by
    show (bGet ((y, Sum.inr s) :: plOf nb fs) x).isSome = true
    rw [bGet_cons]
    by_cases e : y = x
    · rw [if_pos e]; rfl
    · rw [if_neg e]
      exact plOf_some (Nat.succ.inj hl) ((List.mem_cons.mp h).resolve_left fun z => e z.symm)
theorem plOf_fst : ∀ {nb fs : List Str}, nb.length = fs.length → (plOf nb fs).map (·.1) = nb
  | [], _, _ => rfl
  | _ :: _, [], h => by cases h
  | x :: nb, s :: fs, h => by
    show x :: (plOf nb fs).map (·.1) = _
    rw [plOf_fst (Nat.succ.inj h)]
theorem frz_of {r1 r2 : Rl} {fs : List Str} (hl : (namesBody r2.bd).length = fs.length) (nd : fs.Nodup) (out : ∀ x ∈ fs, (Sum.inr x : Key) ∉ valsIn r1 ++ valsIn r2) (hh : HeadIn r2) : Frz r1 r2 (plOf (namesBody r2.bd) fs) := by
  have var_some : ∀ x, (∃ a ∈ r2.bd, Tm.var x ∈ a.2) → (res (.var x) (plOf (namesBody r2.bd) fs)).isSome = true := fun x h => plOf_some hl ((namesBody_mem [] x).mpr (.inr h))
  refine ⟨fun a ha t ht => ?_, fun t ht => ?_, fun x y k hx hy => ?_, fun x k hx hk => ?_, fun x k hx hk => ?_⟩
  · cases t with
    | val c => rfl
    | var x => exact var_some x ⟨a, ha, ht⟩
  · cases t with
    | val c => rfl
    | var x => exact var_some x (hh x ht)
  · obtain ⟨i, s, h1, h2, rfl⟩ := plOf_get hx
    obtain ⟨j, s', h3, h4, e⟩ := plOf_get hy
    cases e
    have : i = j := (List.getElem?_inj (List.getElem?_eq_some_iff.mp h2).1 nd).mp (h2.trans h4.symm)
    subst this
    exact Option.some.inj (h1.symm.trans h3)
  · obtain ⟨i, s, _, h2, rfl⟩ := plOf_get hx
    exact out s (List.mem_of_getElem? h2) (List.mem_append_left _ hk)
  · obtain ⟨i, s, _, h2, rfl⟩ := plOf_get hx
    exact out s (List.mem_of_getElem? h2) (List.mem_append_right _ hk)
/-! ### rows as data -/
def keyOk : Key → Bool
  | .inr x => PyData.strOk x
  | .inl _ => true
def rowD (r : Row) : PyData := .tuple (r.map kD)
theorem eqvAll_keys : ∀ (r q : Row), PyData.eqvAll (r.map kD) (q.map kD) = decide (r = q)
  | [], [] => by simp [PyData.eqvAll]
  | [], _ :: _ => by simp [PyData.eqvAll]
  | _ :: _, [] => by simp [PyData.eqvAll]
  | a :: r, b :: q => by
    rw [List.map_cons, List.map_cons]
    simp only [PyData.eqvAll]
    rw [eqv_key, eqvAll_keys r q]
    by_cases e1 : a = b
    · by_cases e2 : r = q
      · simp [e1, e2]
      · simp [e1, e2]
    · simp [e1]
theorem eqv_row (r q : Row) : PyData.eqv (rowD r) (rowD q) = decide (r = q) := by
  unfold rowD
  simp only [PyData.eqv]
  exact eqvAll_keys r q
theorem lay_row : ∀ {r : Row}, (∀ k ∈ r, keyOk k = true) → PyData.canLayAll0 (r.map kD) = true ∧ PyData.depthAll (r.map kD) = 0
  | [], _ => by simp [PyData.canLayAll0, PyData.depthAll]
  | k :: r, h => by
    obtain ⟨h1, h2⟩ := lay_row (r := r) fun j hj => h j (List.mem_cons_of_mem _ hj)
    have hk := h k (List.mem_cons_self ..)
    cases k with
    | inl i => simp [kD, PyData.canLayAll0, PyData.depthAll, PyData.canLay0, PyData.depth, h1, h2]
    | inr x =>
      have hk : PyData.strOk x = true := hk
      simp [kD, PyData.canLayAll0, PyData.depthAll, PyData.canLay0, PyData.depth, h1, h2, hk]
theorem shaped_row {r : Row} (h : ∀ k ∈ r, keyOk k = true) : SeqAt.shaped (rowD r) = true := by
  obtain ⟨h1, h2⟩ := lay_row h
  simp [SeqAt.shaped, rowD, PyData.canLay0, PyData.depth, h1, h2]
theorem lay_rows : ∀ {rs : List Row}, (∀ r ∈ rs, ∀ k ∈ r, keyOk k = true) → PyData.canLayAll0 (rs.map rowD) = true ∧ PyData.depthAll (rs.map rowD) ≤ 1
  | [], _ => by simp [PyData.canLayAll0, PyData.depthAll]
  | r :: rs, h => by
    obtain ⟨h1, h2⟩ := lay_rows (rs := rs) fun q hq => h q (List.mem_cons_of_mem _ hq)
    obtain ⟨h3, h4⟩ := lay_row (h r (List.mem_cons_self ..))
    constructor
    · simp [rowD, PyData.canLayAll0, PyData.canLay0, h1, h3]
    · simp only [List.map_cons, rowD, PyData.depthAll, PyData.depth, h4] at h2 ⊢
      omega
theorem shaped_rows {rs : List Row} (h : ∀ r ∈ rs, ∀ k ∈ r, keyOk k = true) : SeqAt.shaped (.list (rs.map rowD)) = true := by
  obtain ⟨h1, h2⟩ := lay_rows h
  have : PyData.depth (.list (rs.map rowD)) ≤ 64 := by
    simp only [PyData.depth]
    omega
  unfold SeqAt.shaped
  rw [Bool.and_eq_true]
  exact ⟨by simp only [PyData.canLay0]; exact h1, decide_eq_true this⟩
end K86
end
section
set_option maxRecDepth 100000
set_option maxHeartbeats 4000000
namespace K86
open PySem PySem.Spec PyProof.Rows L2 HF
open Evl (Ex Ev EvT EvL EvU EvA)
section
variable {P : Program} {w : World} {K : PySem.W.Frag} {mg : Str → Option Value} {base : Heap} {f : Addr} {fd : FuncData} {σ : L2.St} {H : Hp} {anyA CR CD : Addr}
theorem units65 {k : Nat} {A : Around} (r : Room k A) : A.units + 65 < cLine := by have := r.un; omega
theorem ints_inv2 : ∀ {ns : List Int} {xs : List V}, TDs K H xs (ns.map .int) → xs = ns.map V.int
  | [], _, h => by cases h; rfl
  | b :: bs, _, h => by
    cases h with
    | cons h hs => rw [h.int_inv, ints_inv2 hs, List.map_cons]
theorem ed_sum {te : TE} {ns : List Int} (h : EvLD K te σ H (ns.map .int)) : EvD K (tCB (rSum K) (tCons te tNil)) σ H (.int ns.sum) := fun H1 e Q q =>
  h H1 e _ fun p xs H2 np e2 hp ts => ⟨p, ns, rfl, SqL.of (by rw [← ints_inv2 ts]; exact hp), q _ H2 e2 (.int _)⟩
theorem ev_check {te : TE} {r : Rl} {E : XK} (h : EvD K te σ H r.d) (hl : r.bd.length ≤ 1000) : Ev (tCall (spCheck K) [] E (tCons te tNil)) σ H .non := fun H1 e Q q => h H1 e _ fun v H2 e2 tv => ⟨v, r, rfl, tv, hl, fun H3 e3 => q H3 (e2.trans e3)⟩
theorem el_names {te : TE} {bd : List At} {E : XK} (h : EvD K te σ H (.tuple (bd.map litD))) (hl : bd.length ≤ 20) (hm : ∀ a ∈ bd, a.2.length ≤ 20) : EvL (tCall (spNamesBody K) [] E (tCons te tNil)) σ H ((namesBody bd).map V.str) := fun H1 e Q q => h H1 e _ fun v H2 e2 tv => ⟨v, bd, rfl, tv, hl, hm, fun p H3 e3 np hp => q p H3 (Evl.fresh_back e2 np) (e2.trans e3) hp⟩
theorem el_vals {te : TE} {r : Rl} {E : XK} (h : EvD K te σ H r.d) (h1 : r.ht.length ≤ 20) (h2 : r.bd.length ≤ 20) (h3 : ∀ a ∈ r.bd, a.2.length ≤ 20) : EvL (tCall (spValuesIn K) [] E (tCons te tNil)) σ H ((valsIn r).map kV) := fun H1 e Q q => h H1 e _ fun v H2 e2 tv => ⟨v, r, rfl, tv, h1, h2, h3, fun p H3 e3 np hp => q p H3 (Evl.fresh_back e2 np) (e2.trans e3) hp⟩
theorem el_cat {ta tb : TE} {xs ys : List V} (ha : EvL ta σ H xs) (hb : EvL tb σ H ys) (hl : xs.length + ys.length ≤ 100000) : EvL (tOp rCat ta tb) σ H (xs ++ ys) := fun H1 e Q q => ha H1 e _ fun p H2 np e2 hp => hb H2 (e.trans e2) _ fun r H3 nr e3 hr =>
  ⟨p, r, xs, ys, rfl, rfl, e3 _ _ hp, hr, by have zz : sizeLine = 16777216 := sizeLine_eq; omega, fun l hl => q l _ (Evl.fresh_back (e2.trans e3) hl) ((e2.trans e3).trans (Ex.new hl)) upd_same⟩
theorem q_asgCall {sp : Sp} {dvs : List V} {E : XK} {ta : TA} {i : Nat} {tz : TS} {D : Ends} (h : ta σ H fun vs H1 => sp (vs ++ dvs) H1 (fun v H2 => tz D (σ.set i (some v)) H2) E) : tSeq (tAsg (tCall sp dvs E ta) (gName i)) tz D σ H := h
theorem q_asgZip {ta : TA} {i : Nat} {tz : TS} {D : Ends} {a b : Addr} {ks : List Key} {ys : List V} (ha : EvA ta σ H [.ref a, .ref b]) (h1 : H a = some (.lst (ks.map kV))) (h2 : H b = some (.lst ys)) (nd : ks.Nodup) (hl : ks.length = ys.length) (hz : ks.length ≤ 100000)
    (q : ∀ p H1, H p = none → Ex H H1 → H1 p = some (.dK (ks.zip ys)) → tz D (σ.set i (some (.ref p))) H1) : tSeq (tAsg (tDictZip K ta) (gName i)) tz D σ H := ha H (Ex.refl H) _ fun H1 e1 => ⟨a, b, ks, ys, rfl, SqL.of (e1 _ _ h1), SqL.of (e1 _ _ h2), nd, hl, hz, fun p np => q p _ (Evl.fresh_back e1 np) (e1.trans (Ex.new np)) upd_same⟩
theorem ev_eqSV {ta tb : TE} {a b : Str} (ha : EvD K ta σ H (.str a)) (hb : EvD K tb σ H (.str b)) : Ev (tOp rEq ta tb) σ H (.bl (decide (a = b))) := fun H1 e Q q =>
  ha H1 e _ fun v H2 e2 t2 => hb H2 (e.trans e2) _ fun w H3 e3 t3 => by
    rw [t2.str_inv, t3.str_inv]
    refine ⟨rfl, ?_⟩
    have z : decide (V.str a = V.str b) = decide (a = b) := by simp
    rw [z]
    exact q H3 (e2.trans e3)
theorem s_retAnd {ta tb : TE} {D : Ends} {c : Bool} (ha : Ev ta σ H (.bl c)) (h1 : c = true → ∀ H1, Ex H H1 → tb σ H1 D.rt) (h2 : c = false → ∀ H1, Ex H H1 → D.rt (.bl false) H1) : tRet (tAndV ta tb) D σ H := ha H (Ex.refl H) _ fun H1 e1 => ⟨c, rfl, by
  cases c with
  | true => exact iteT (h1 rfl H1 e1)
  | false => exact iteF (h2 rfl H1 e1)⟩
theorem consCall {sp : Sp} {dvs : List V} {E : XK} {t ta : TA} {Q : List V → Hp → Prop} (h : t σ H fun vs H1 => sp (vs ++ dvs) H1 (fun x H2 => ta σ H2 fun us H3 => Q (x :: us) H3) E) : tCons (tCall sp dvs E t) ta σ H Q := h
theorem opVar {r : R2} {i : Nat} {tb : TE} {x : V} {Q : VK} (h : σ[i]? = some (some x)) (q : tb σ H fun y H2 => r x y H2 Q) : tOp r (tVar i) tb σ H Q := ⟨x, h, q⟩
theorem callD {sp : Sp} {E : XK} {t : TA} {Q : VK} (h : t σ H fun vs H1 => sp (vs ++ []) H1 Q E) : tCall sp [] E t σ H Q := h
theorem consVar {i : Nat} {ta : TA} {x : V} {Q : List V → Hp → Prop} (h : σ[i]? = some (some x)) (q : ta σ H fun us H3 => Q (x :: us) H3) : tCons (tVar i) ta σ H Q := ⟨x, h, q⟩
theorem dpAll_rows : ∀ {M : List (Addr × Row)}, (∀ e ∈ M, H e.1 = some (.tup (e.2.map kV))) → DpAll K H (M.map fun e => V.ref e.1) ((M.map (·.2)).map rowD)
  | [], _ => .nil
  | e :: M, h => .cons (TD.dp (.tup (.inl (h e (List.mem_cons_self ..))) (TDs.keys e.2))) (dpAll_rows fun e' h' => h e' (List.mem_cons_of_mem _ h'))
theorem valsIn_len {r : Rl} (h1 : r.ht.length ≤ 20) (h2 : r.bd.length ≤ 20) (h3 : ∀ a ∈ r.bd, a.2.length ≤ 20) : (valsIn r).length ≤ 420 := by
  have q1 := flat_len r.bd 20 h3
  have q2 : r.bd.length * 20 ≤ 20 * 20 := Nat.mul_le_mul_right _ h2
  have q3 : (allTms r).length ≤ 420 := by
    unfold allTms
    rw [List.length_append]
    omega
  have q4 := List.length_filter_le isVal (allTms r)
  unfold valsIn
  rw [List.length_map]
  omega
def spMakes (K : PySem.W.Frag) : Sp := fun vs H Q _ => ∃ v w r1 r2, vs = [v, w] ∧ TD K H v (Rl.d r1) ∧ TD K H w (Rl.d r2) ∧ Pair r1 r2 ∧ HeadIn r1 ∧ HeadIn r2 ∧ r2.bd.length ≤ 20 ∧ (∀ a ∈ r2.bd, a.2.length ≤ 20) ∧ ∀ r H', Rf H H' → (r = true ↔ SubP r1 r2) → Q (.bl r) H'
theorem sc_makes_all : FnScope ["rule", "other", "names", "wild", "fresh", "places", "database", "row", "literal", "term"] ["rule", "other"] (defScope smakes_all) := C8.fnScope_by (by decide +kernel)
theorem cal_makes_all (F : FnP K "makes_all" "makes_all" smakes_all f fd) (gm : mg "makes_all" = some (.ref f)) (T0 : Bl mg) (G0 : Gv K mg anyA)
    (c_check_plain : C8.Cal P w K mg base 2 "check_plain" (spCheck K) []) (c_body_of : C8.Cal P w K mg base 1 "body_of" (spData K rBodyOf) []) (c_names_in_body : C8.Cal P w K mg base 3 "names_in_body" (spNamesBody K) []) (c_fresh_values : C8.Cal P w K mg base 1 "fresh_values" spFresh []) (c_values_in : C8.Cal P w K mg base 2 "values_in" (spValuesIn K) [])
    (c_frozen_body : C8.Cal P w K mg base 5 "frozen_body" (spFrozen P w K CD CR) []) (c_row_of : C8.Cal P w K mg base 2 "row_of" (spRowOf K) []) (c_rows_made : C8.Cal P w K mg base 3 "rows_made" (spRowsMade K) []) (c_answers : C8.Cal P w K mg base 8 "answers" (spAnswers P w K CD CR) []) :
    C8.Cal P w K mg base 9 "makes_all" (spMakes K) [] := by
  refine mkCal F gm sc_makes_all (fun _ _ _ _ _ _ us hl => match us, hl with | [_, _], _ => rfl) (fun vs H Q E h => ?_) (fun cdv A outer s H vs Q E hr h => ?_)
  · obtain ⟨v, w, r1, r2, rfl, _⟩ := h
    rfl
  · obtain ⟨v, u, r1, r2, rfl, tv, tw, pr, hi1, hi2, bl2, wid2, k⟩ := h
    refine ⟨_, (pss_cons (ps_expr (C8.pe_c c_check_plain hr (by decide) rfl (pa_cons (pv 0) pa_nil)))
      (pss_cons (ps_expr (C8.pe_c c_check_plain hr (by decide) rfl (pa_cons (pv 1) pa_nil)))
      (pss_cons (ps_set (i := 2) sc_makes_all.nd rfl (Or.inl rfl) (C8.pe_c c_names_in_body hr (by decide) rfl (pa_cons (C8.pe_c c_body_of hr (by decide) rfl (pa_cons (pv 1) pa_nil)) pa_nil)))
      (pss_cons (ps_set (i := 3) sc_makes_all.nd rfl (Or.inl rfl) (pe_callB (cr_sum rfl) (by rfl) T0.f_sum (by decide +kernel) (pa_cons (pe_lc (own := [("literal", 8)]) (g := gName 8) (te := tCB (rLenV K) (tCons (tLc (iTup K (tOp (rIxT K) (tOp (rIxT K) (tVar 8) (tC (.int 1))) (tC (.int 1)))) (gName 9) (tTest (tOp (rEqD K) (tVar 9) (tC (.ref anyA)))) (tVar 9) [9]) tNil)) rfl sc_makes_all.nd (pi_tup (C8.pe_c c_body_of hr (by decide) rfl (pa_cons (pv 1) pa_nil))) (blkOk_by (own := [("literal", 8)]) (N := ["rule", "other", "names", "wild", "fresh", "places", "database", "row", "literal", "term"]) (sc := defScope smakes_all) (by decide +kernel)) (fun _ _ _ _ _ => (pg_name (i := 8) sc_makes_all.nd rfl (Or.inl rfl))) (fun _ _ _ _ _ => pts_nil) (fun _ _ _ _ _ => (pe_callB call_len (by rfl) T0.f_len PySem.boot_len (pa_cons (pe_lc (wi := iTup K (tOp (rIxT K) (tOp (rIxT K) (tVar 8) (tC (.int 1))) (tC (.int 1)))) (tt := tTest (tOp (rEqD K) (tVar 9) (tC (.ref anyA)))) (te := tVar 9) (own := [("term", 9)]) (g := gName 9) rfl sc_makes_all.nd (pi_tup (pe_ix (r := rIxT K) ix_tup (pe_ix (r := rIxT K) ix_tup (pv 8) pe_int (fun _ _ => rfl)) pe_int (fun _ _ => rfl))) (blkOk_by (own := [("term", 9)]) (N := ["rule", "other", "names", "wild", "fresh", "places", "database", "row", "literal", "term"]) (by rfl)) (fun _ _ _ _ _ => (pg_name (i := 9) sc_makes_all.nd rfl (Or.inl rfl))) (fun _ _ _ _ _ => (pts_one (pt_cmpR (r := rEqD K) (op_eqD hr.units) (pv 9) (C8.pe_gc rfl G0.g_ANY) (nomark _)))) (fun _ _ _ _ _ => (pv 9))) pa_nil)))) pa_nil)))
      (pss_cons (ps_set (i := 4) sc_makes_all.nd rfl (Or.inl rfl) (C8.pe_c c_fresh_values hr (by decide) rfl (pa_cons (pe_op op_cat (C8.pe_c c_values_in hr (by decide) rfl (pa_cons (pv 0) pa_nil)) (C8.pe_c c_values_in hr (by decide) rfl (pa_cons (pv 1) pa_nil))) (pa_cons (pe_op op_add (pe_callB call_len (by rfl) T0.f_len PySem.boot_len (pa_cons (pv 2) pa_nil)) (pv 3)) pa_nil))))
      (pss_cons (ps_set (i := 5) sc_makes_all.nd rfl (Or.inl rfl) (pe_dictZip rfl T0.f_dict (by decide +kernel) rfl T0.f_zip rfl (pa_cons (pv 2) (pa_cons (pv 4) pa_nil))))
      (pss_cons (ps_set (i := 6) sc_makes_all.nd rfl (Or.inl rfl) (C8.pe_c c_frozen_body hr (by decide) rfl (pa_cons (C8.pe_c c_body_of hr (by decide) rfl (pa_cons (pv 1) pa_nil)) (pa_cons (pv 5) (pa_cons (pe_slice sl_list (pv 4) (po_some (pe_callB call_len (by rfl) T0.f_len PySem.boot_len (pa_cons (pv 2) pa_nil))) po_none) pa_nil)))))
      (pss_cons (ps_set (i := 7) sc_makes_all.nd rfl (Or.inl rfl) (C8.pe_c c_row_of hr (by decide) rfl (pa_cons (pe_ix ix_tup (pe_ix ix_tup (pv 1) pe_int (fun _ _ => rfl)) pe_int (fun _ _ => rfl)) (pa_cons (pv 5) pa_nil))))
      (pss_one (ps_ret (pe_and (pe_cmpR op_eq (pe_ix ix_tup (pe_ix ix_tup (pv 0) pe_int (fun _ _ => rfl)) pe_int (fun _ _ => rfl)) (pe_ix ix_tup (pe_ix ix_tup (pv 1) pe_int (fun _ _ => rfl)) pe_int (fun _ _ => rfl)) (nomark _)) (pe_one (pe_cmpR (op_inD (units65 hr)) (pv 7) (C8.pe_c c_rows_made hr (by decide) rfl (pa_cons (pv 0) (pa_cons (C8.pe_c c_answers hr (by decide) rfl (pa_cons (C8.pe_c c_body_of hr (by decide) rfl (pa_cons (pv 0) pa_nil)) (pa_cons (pv 6) pa_nil))) pa_nil))) (by rfl)))))))))))))), ?_⟩
    have bl1 := pr.bl1
    have wid1 := pr.wid2
    have hdl2 : r2.ht.length ≤ 20 := by have := pr.hd; have := pr.hd2; omega
    have nbl : (namesBody r2.bd).length ≤ 400 := by
      have h1 := namesBody_len r2.bd 20 wid2 []
      have h2 : r2.bd.length * 20 ≤ 20 * 20 := Nat.mul_le_mul_right _ bl2
      simp only [List.length_nil, Nat.zero_add] at h1
      exact Nat.le_trans h1 h2
    refine Evl.q_drop (ev_check (ed_var rfl tv) (by omega)) fun H1 e1 => ?_
    refine Evl.q_drop (ev_check (ed_var rfl (tw.mono_ex e1)) (by omega)) fun H2 e2 => ?_
    have e12 := e1.trans e2
    refine Evl.q_asgL (xs := (namesBody r2.bd).map V.str) (el_names (ed_body (ed_var rfl (tw.mono_ex e12))) bl2 wid2) fun pN H3 nN e3 hN => ?_
    have e13 := e12.trans e3
    -- wild
    have inner : ∀ (t : At) (x : V) (H' : Hp), t ∈ r2.bd → Ex H3 H' → TD K H' x (litD t) → EvD K (tCB (rLenV K) (tCons (tLc (iTup K (tOp (rIxT K) (tOp (rIxT K) (tVar 8) (tC (.int 1))) (tC (.int 1)))) (gName 9) (tTest (tOp (rEqD K) (tVar 9) (tC (.ref anyA)))) (tVar 9) [9]) tNil)) ((wipe ([some v, some u, some (.ref pN), none, none, none, none, none, none, none] : L2.St) [8]).set 8 (some x)) H' (.int 0) := fun t x H' tm e tx => by
      have key := eld_lcT (K := K) (σ := (wipe ([some v, some u, some (.ref pN), none, none, none, none, none, none, none] : L2.St) [8]).set 8 (some x)) (H := H') (ts := t.2) (enc := Tm.d) (j := 9) (vs := [9]) (tl := tOp (rIxT K) (tOp (rIxT K) (tVar 8) (tC (.int 1))) (tC (.int 1))) (tt := tTest (tOp (rEqD K) (tVar 9) (tC (.ref anyA)))) (te := tVar 9) (fun _ => false) Tm.d (ed_atT (ed_var rfl tx)) (by have := wid2 t tm; omega) wipe1
        (fun t' x' H'' ht' e' tx' => by
          have := et_eqDp (K := K) (σ := (wipe ((wipe ([some v, some u, some (.ref pN), none, none, none, none, none, none, none] : L2.St) [8]).set 8 (some x)) [9]).set 9 (some x')) (ta := tVar 9) (tb := tC (.ref anyA)) (H := H'') (ed_var rfl tx') (ed_gl (any_td G0 H'')) (shaped_tm (pr.okb2 t tm t' ht')) shaped_any
          rw [eqv_any] at this
          exact this) (fun _ _ _ _ _ _ z => by cases z)
      have key2 := ed_lenLD key
      have z : (((t.2.filter fun _ => false).map Tm.d).length : Int) = 0 := by simp
      rw [z] at key2
      exact key2
    have outer := eld_lcT (K := K) (σ := [some v, some u, some (.ref pN), none, none, none, none, none, none, none]) (H := H3) (ts := r2.bd) (enc := litD) (j := 8) (vs := [8]) (tl := tCall (spData K rBodyOf) [] E0 (tCons (tVar 1) tNil)) (tt := tYes) (te := tCB (rLenV K) (tCons (tLc (iTup K (tOp (rIxT K) (tOp (rIxT K) (tVar 8) (tC (.int 1))) (tC (.int 1)))) (gName 9) (tTest (tOp (rEqD K) (tVar 9) (tC (.ref anyA)))) (tVar 9) [9]) tNil)) (fun _ => true) (fun _ => .int 0) (ed_body (ed_var rfl (tw.mono_ex e13))) (by omega) wipe1 (fun _ _ _ _ _ _ => et_yes) fun t x H' tm e tx _ => inner t x H' tm e tx
    rw [filter_yes] at outer
    refine q_asgD (ed_sum (ns := r2.bd.map fun _ => 0) (by rw [List.map_map]; exact outer)) fun v3 H4 e4 t3 => ?_
    have z3 : v3 = .int 0 := by
      rw [t3.int_inv]
      congr 1
      have : ∀ l : List At, (l.map fun _ => (0 : Int)).sum = 0 := fun l => by
        induction l with
        | nil => rfl
        | cons a l ih => simp [ih]
      exact this _
    subst z3
    have e14 := e13.trans e4
    -- fresh
    refine q_asgCall ?_
    refine consL (el_cat (el_vals (ed_var rfl (tv.mono_ex e14)) pr.hd2 bl1 wid1) (el_vals (ed_var rfl (tw.mono_ex e14)) hdl2 bl2 wid2) (by rw [List.length_map, List.length_map]; have := valsIn_len pr.hd2 bl1 wid1; have := valsIn_len hdl2 bl2 wid2; omega)) fun pt H5 npt e5 hpt => ?_
    refine consD (ed_op (K := K) (g := fun i j => V.int (i + j)) (f := fun i j => i + j) (fun _ _ => rfl) (ed_lenL (Evl.ev_var rfl) ((e4.trans e5) _ _ hN)) (ed_var rfl (.int 0))) fun vn H6 e6 tn => ?_
    have zn : vn = .int ((namesBody r2.bd).length : Nat) := by
      rw [tn.int_inv, List.length_map]
      simp
    subst zn
    refine ⟨pt, valsIn r1 ++ valsIn r2, (namesBody r2.bd).length, rfl, by rw [List.map_append]; exact e6 _ _ hpt, by rw [List.length_append]; have := valsIn_len pr.hd2 bl1 wid1; have := valsIn_len hdl2 bl2 wid2; omega, by omega, fun pF H7 fs e7 npF hF hfl hfn hfo => ?_⟩
    have e17 := ((e14.trans e5).trans e6).trans e7
    have hN7 := (((e4.trans e5).trans e6).trans e7) _ _ hN
    have bnd : ((namesBody r2.bd).map (Sum.inr : Str → Key)).map kV = (namesBody r2.bd).map V.str := by rw [List.map_map]; rfl
    -- places
    refine q_asgZip (a := pN) (b := pF) (ks := (namesBody r2.bd).map Sum.inr) (ys := fs.map V.str) (Evl.ea_cons (Evl.ev_var rfl) (Evl.ea_cons (Evl.ev_var rfl) Evl.ea_nil)) (by rw [bnd]; exact hN7) hF (map_nodup (fun a b e => Sum.inr.inj e) (namesBody_nodup List.nodup_nil)) (by rw [List.length_map, List.length_map, hfl]) (by rw [List.length_map]; omega) fun pp H8 npp e78 hpp => ?_
    rw [plOf_kv] at hpp
    have e18 := e17.trans e78
    have fz := frz_of (r1 := r1) hfl.symm hfn (fun x hx => (hfo x hx).1) hi2
    have pnd : BdOk (plOf (namesBody r2.bd) fs) := by
      unfold BdOk
      rw [plOf_fst hfl.symm]
      exact namesBody_nodup List.nodup_nil
    generalize hpl : plOf (namesBody r2.bd) fs = pl at hpp fz pnd
    -- database
    refine q_asgCall ?_
    refine consD (ed_body (K := K) (te := tVar 1) (ed_var rfl (tw.mono_ex e18))) fun vb H9 e9 tb => ?_
    refine ⟨_, rfl, ?_⟩
    have hF9 := (e78.trans e9) _ _ hF
    have hN9 := (e78.trans e9) _ _ hN7
    refine consL (Evl.el_sl (K := K) (xs := fs.map V.str) (lo := some (fs.length : Int)) (hi := none) (Evl.ev_var rfl) (Evl.eo_some (by have := ed_lenL (K := K) (te := tVar 2) (σ := [some v, some u, some (.ref pN), some (.int 0), some (.ref pF), some (.ref pp), none, none, none, none]) (H := H9) (Evl.ev_var rfl) hN9; rw [List.length_map, ← hfl] at this; exact this.evI)) Evl.eo_none (SqL.of hF9)) fun pw H10 npw e10 hpw => ?_
    have cut0 : cutV (fs.map V.str) (some (fs.length : Int)) none = [] := by
      unfold cutV
      have q : HT.sIx (fs.map V.str).length 0 (some (fs.length : Int)) = fs.length := by
        rw [List.length_map, HT.sIx_nat]
        omega
      rw [q, List.drop_of_length_le (by rw [List.length_map]; exact Nat.le_refl _)]
      simp
    rw [cut0] at hpw
    have e1x := (e18.trans e9).trans e10
    refine ⟨vb, pp, pw, r2.bd, pl, rfl, tb.mono_ex e10, bl2, wid2, pr.okb2, (e9.trans e10) _ _ hpp, fz.all, hpw, fun db H11 T e11 hdb hT hTl => ?_⟩
    have e2x := e1x.trans e11
    -- row
    refine q_asgCall ?_
    refine consD (ed_rHt (K := K) (te := tVar 1) (ed_var rfl (tw.mono_ex e2x))) fun vh H12 e12' th => ?_
    refine ⟨_, rfl, vh, r2.ht, pp, pl, rfl, th, by omega, (((e9.trans e10).trans e11).trans e12') _ _ hpp, fun pr_ H13 e13' npr hpr => ?_⟩
    have e3x := e2x.trans (e12'.trans e13')
    generalize hos2 : r2.ht.map (fun t => res t pl) = os2 at hpr
    have os2s := some_row (os := os2) fun o ho => by
      rw [← hos2] at ho
      obtain ⟨t, ht, rfl⟩ := List.mem_map.mp ho
      exact fz.hd t ht
    have hpr2 : H13 pr_ = some (.tup ((rowOf os2).map kV)) := by
      rw [hpr]
      conv => lhs; rw [os2s]
      rw [row_opt]
    have plok : ∀ t k, (t ∈ r2.ht ∨ ∃ a ∈ r2.bd, t ∈ a.2) → res t pl = some k → keyOk k = true := fun t k ht hk => by
      cases t with
      | val c =>
        have e : c = k := Option.some.inj hk
        subst e
        have ok : Tm.ok (.val c) = true := by
          rcases ht with ht | ⟨a, ha, ht⟩
          · exact pr.ok2 _ ht
          · exact pr.okb2 a ha _ ht
        cases c with
        | inl i => rfl
        | inr x => exact ok
      | var y =>
        have hk : bGet pl y = some k := hk
        rw [← hpl] at hk
        obtain ⟨i, s, _, h2, rfl⟩ := plOf_get hk
        exact (hfo s (List.mem_of_getElem? h2)).2
    refine s_retAnd (c := decide (r1.hn = r2.hn)) (ev_eqSV (ed_rHn (ed_var rfl (tv.mono_ex e3x))) (ed_rHn (ed_var rfl (tw.mono_ex e3x)))) (fun hc H14 e14' => ?_) (fun hc H14 e14' => ?_)
    · have hn : r1.hn = r2.hn := of_decide_eq_true hc
      have e4x := e3x.trans e14'
      refine opVar rfl (callD (consVar rfl (consCall ?_)))
      refine consD (ed_body (K := K) (te := tVar 0) (ed_var rfl (tv.mono_ex e4x))) fun vb1 H15 e15 tb1 => ?_
      have e5x := e4x.trans e15
      have e115 := ((e12'.trans e13').trans e14').trans e15
      refine ⟨_, rfl, vb1, db, r1.bd, T, r2.bd.length, rfl, tb1, bl1, wid1, hdb.ex e115 (Nat.le_refl 0), pr.bl2, hTl, Nat.le_trans pr.pow (by decide), fun q H16 L rf hq hL sound full hLl => ?_⟩
      have rfx : Rf H H16 := (Rf.of_ex e5x).trans rf
      have hsome : ∀ b ∈ L.map (·.2), ∀ t ∈ r1.ht, (res t b).isSome = true := fun b hb t ht => by
        cases t with
        | val c => rfl
        | var x =>
          obtain ⟨a, ha, hx⟩ := hi1 x ht
          obtain ⟨r, _, e⟩ := sound b hb a ha
          have : res (.var x) b ∈ a.2.map (fun t => res t b) := List.mem_map.mpr ⟨_, hx, rfl⟩
          rw [e] at this
          obtain ⟨k', _, hk⟩ := List.mem_map.mp this
          rw [← hk]
          rfl
      refine ⟨v, q, r1, L, rfl, tv.mono rfx.tx, by have := pr.hd2; omega, hq, hL, hLl, hsome, fun p H17 M e17' hM hmem => ?_⟩
      have hpr17 : H17 pr_ = some (.tup ((rowOf os2).map kV)) := e17' _ _ (rf _ _ ((e14'.trans e15) _ _ hpr2) fun φ z => by cases z)
      have okM : ∀ r ∈ M.map (·.2), ∀ k ∈ r, keyOk k = true := fun r hr k' hk' => by
        obtain ⟨b, hb, e⟩ := (hmem r).mp hr
        have : some k' ∈ r1.ht.map (fun t => res t b) := by rw [e]; exact List.mem_map.mpr ⟨k', hk', rfl⟩
        obtain ⟨t, ht, hk⟩ := List.mem_map.mp this
        cases t with
        | val c =>
          have ec : c = k' := Option.some.inj hk
          subst ec
          have ok := pr.ok1 _ ht
          cases c with
          | inl i => rfl
          | inr x => exact ok
        | var x =>
          obtain ⟨a, ha, hx⟩ := hi1 x ht
          obtain ⟨r', hr', e'⟩ := sound b hb a ha
          obtain ⟨c, hc', _, e2'⟩ := (hT a.1 r').mp hr'
          have m1 : res (.var x) b ∈ a.2.map (fun t => res t b) := List.mem_map.mpr ⟨_, hx, rfl⟩
          rw [e', ← e2', hk] at m1
          obtain ⟨t', ht', hk2⟩ := List.mem_map.mp m1
          exact plok t' k' (.inr ⟨c, hc', ht'⟩) hk2
      have okO : ∀ k ∈ rowOf os2, keyOk k = true := fun k' hk' => by
        have : some k' ∈ os2 := by rw [os2s]; exact List.mem_map.mpr ⟨k', hk', rfl⟩
        rw [← hos2] at this
        obtain ⟨t, ht, hk⟩ := List.mem_map.mp this
        exact plok t k' (.inl ht) hk
      refine ⟨rowD (rowOf os2), (M.map (·.2)).map rowD, TD.dp (.tup (.inl hpr17) (TDs.keys _)), .lst (SqL.of hM.1) (dpAll_rows hM.2), shaped_row okO, shaped_rows okM, ?_⟩
      have val : (((M.map (·.2)).map rowD).any fun z => PyData.eqv z (rowD (rowOf os2))) = true ↔ rowOf os2 ∈ M.map (·.2) := by
        rw [List.any_map, List.any_eq_true]
        constructor
        · rintro ⟨r, hr, e⟩
          have e : PyData.eqv (rowD r) (rowD (rowOf os2)) = true := e
          rw [eqv_row] at e
          rw [← of_decide_eq_true e]
          exact hr
        · intro h
          exact ⟨_, h, by show PyData.eqv (rowD _) (rowD _) = true; rw [eqv_row]; simp⟩
      refine k _ H17 (rfx.trans (Rf.of_ex e17')) ?_
      rw [val, hmem, ← os2s, ← hos2]
      rw [makes_sub pr hi1 fz pnd hT sound full]
      exact ⟨fun h => ⟨hn, h⟩, fun h => h.2⟩
    · have hn : ¬ r1.hn = r2.hn := of_decide_eq_false hc
      exact k false H14 (Rf.of_ex (e3x.trans e14')) ⟨fun z => (by cases z), fun z => absurd z.1 hn⟩
end
end K86
end
section
set_option maxRecDepth 100000
set_option maxHeartbeats 4000000
namespace K86
open PySem PySem.Spec PyProof.Rows L2 HF
open Evl (Ex Ev EvT EvL EvU EvA)
/-! ### the law's own defs: what they draw is of a kind, no more is told -/
def FrB (b : Addr) (H H' : Hp) : Prop := ∀ a o, H a = some o → a ≠ b → H' a = some o
theorem FrB.of_ex {b : Addr} {H H' : Hp} (e : Ex H H') : FrB b H H' := fun a o h _ => e a o h
theorem FrB.trans {b : Addr} {H H1 H2 : Hp} (x : FrB b H H1) (y : FrB b H1 H2) : FrB b H H2 := fun a o h n => y a o (x a o h n) n
def BoxAt (H : Hp) (b : Addr) : Prop := ∃ z : Int, H b = some (.lst [.int z])
theorem BoxAt.ex {H H' : Hp} {b : Addr} (e : Ex H H') (h : BoxAt H b) : BoxAt H' b := let ⟨z, h⟩ := h; ⟨z, e _ _ h⟩
theorem FrB.tx {b : Addr} {H H' : Hp} (f : FrB b H H') (h : BoxAt H b) : TX H H' := fun a xs e => f a _ e fun z => by
  obtain ⟨y, hy⟩ := h
  rw [z, hy] at e
  cases e
section
variable {P : Program} {w : World} {K : PySem.W.Frag} {mg : Str → Option Value} {base : Heap} {f : Addr} {fd : FuncData} {σ : L2.St} {H : Hp} {anyA CR CD : Addr} {ta tb te : TE}
abbrev rInt1 : List V → Hp → VK → Prop := fun xs H Q => (∃ i, xs = [.int i] ∧ Q (.int i) H) ∨ ∃ k, xs = [.bl k] ∧ Q (.int (if k then 1 else 0)) H
theorem ed_int1 {i : Int} (h : EvD K te σ H (.int i)) : EvD K (tCB rInt1 (tCons te tNil)) σ H (.int i) := fun H1 e Q q => h H1 e _ fun v H2 e2 t => .inl ⟨i, by rw [t.int_inv], q _ H2 e2 (.int i)⟩
def EvI (K : PySem.W.Frag) (te : TE) (σ : L2.St) (H : Hp) : Prop := ∃ i : Int, EvD K te σ H (.int i)
theorem ei_int {i : Int} : EvI K (tC (.int i)) σ H := ⟨i, ed_int⟩
theorem ei_var {j : Nat} {i : Int} (h : σ[j]? = some (some (.int i))) : EvI K (tVar j) σ H := ⟨i, ed_var h (.int i)⟩
theorem ei_add (a : EvI K ta σ H) (b : EvI K tb σ H) : EvI K (tOp (rI0 fun i j => .int (i + j)) ta tb) σ H := let ⟨i, a⟩ := a; let ⟨j, b⟩ := b; ⟨_, ed_op (fun _ _ => rfl) a b⟩
theorem ei_sub (a : EvI K ta σ H) (b : EvI K tb σ H) : EvI K (tOp (rI0 fun i j => .int (i - j)) ta tb) σ H := let ⟨i, a⟩ := a; let ⟨j, b⟩ := b; ⟨_, ed_op (fun _ _ => rfl) a b⟩
theorem ei_mulR {j : Int} (a : EvI K ta σ H) (h : -(2 ^ 64) < j ∧ j < 2 ^ 64) : EvI K (tOp (rI CMul fun i j => .int (i * j)) ta (tC (.int j))) σ H := let ⟨i, a⟩ := a; ⟨_, ed_opC (fun _ _ => rfl) a ed_int (.inr h)⟩
theorem ei_mulL {j : Int} (a : EvI K ta σ H) (h : -(2 ^ 64) < j ∧ j < 2 ^ 64) : EvI K (tOp (rI CMul fun i j => .int (i * j)) (tC (.int j)) ta) σ H := let ⟨i, a⟩ := a; ⟨_, ed_opC (fun _ _ => rfl) ed_int a (.inl h)⟩
theorem ei_mod {j : Int} (a : EvI K ta σ H) (h : 0 < j) : EvI K (tOp (rI (fun _ j => 0 < j) fun i j => .int (i % j)) ta (tC (.int j))) σ H := let ⟨i, a⟩ := a; ⟨_, ed_opC (fun _ _ => rfl) a ed_int h⟩
theorem ei_int1 (a : EvI K ta σ H) : EvI K (tCB rInt1 (tCons ta tNil)) σ H := let ⟨i, a⟩ := a; ⟨i, ed_int1 a⟩
theorem ed_lenS {p : Addr} {xs : List V} (h : Ev te σ H (.ref p)) (hp : SqL K H p xs) : EvD K (tCB (rLenV K) (tCons te tNil)) σ H (.int xs.length) := fun H0 e Q q =>
  h H0 e _ fun H1 e1 => ⟨_, xs.length, rfl, .inl ⟨xs, Evl.ex_l (e.trans e1) hp, rfl⟩, q _ H1 e1 (.int _)⟩
theorem q_asgI {i : Nat} {tz : TS} {D : Ends} (h : EvI K te σ H) (k : ∀ (c : Int) H1, Ex H H1 → tz D (σ.set i (some (.int c))) H1) : tSeq (tAsg te (gName i)) tz D σ H := let ⟨c, h⟩ := h; Evl.q_asg h.evI fun H1 e1 => k c H1 e1
theorem s_asgI {i : Nat} {D : Ends} (h : EvI K te σ H) (k : ∀ (c : Int) H1, Ex H H1 → D.nx (σ.set i (some (.int c))) H1) : tAsg te (gName i) D σ H := let ⟨c, h⟩ := h; Evl.s_asg h.evI fun H1 e1 => k c H1 e1
def spNumber (K : PySem.W.Frag) : Sp := fun vs H Q _ => ∃ (p : Addr) (zs : List Int) (k : Int), vs = [.ref p, .int k] ∧ SqL K H p (zs.map V.int) ∧ ∀ (i : Int) H', Ex H H' → Q (.int i) H'
theorem sc__law_number : FnScope ["script", "k", "cell", "first", "second"] ["script", "k"] (defScope s_law_number) := C8.fnScope_by (by decide +kernel)
theorem cal__law_number (F : FnP K "_law_number" "_law_number" s_law_number f fd) (gm : mg "_law_number" = some (.ref f)) (T : Bl mg) : C8.Cal P w K mg base 1 "_law_number" (spNumber K) [] := by
  refine mkCal F gm sc__law_number (fun _ _ _ _ _ _ us hl => match us, hl with | [_, _], _ => rfl) (fun vs H Q E h => ?_) (fun cdv A outer s H vs Q E hr h => ?_)
  · obtain ⟨p, zs, k, rfl, _⟩ := h
    rfl
  · obtain ⟨p, zs, k0, rfl, hp, k⟩ := h
    refine ⟨_, (pss_cons (ps_set (i := 2) sc__law_number.nd rfl (Or.inl rfl) pe_int)
      (pss_cons (ps_if (pt_cmpR op_gt (pe_callB call_len (by rfl) T.f_len PySem.boot_len (pa_cons (pv 0) pa_nil)) pe_int (nomark _)) (pss_one (ps_set (i := 2) sc__law_number.nd rfl (Or.inl rfl) (pe_ix ix_list (pv 0) (pe_op op_mod (pe_callTy call_int1 (by rfl) T.f_int (by decide +kernel) (pa_cons (pv 1) pa_nil)) (pe_callB call_len (by rfl) T.f_len PySem.boot_len (pa_cons (pv 0) pa_nil))) (fun _ _ => rfl))))
      pss_nil)
      (pss_cons (ps_if (pt_cmpR op_lt (pv 2) pe_int (nomark _)) (pss_one (ps_set (i := 2) sc__law_number.nd rfl (Or.inl rfl) (pe_op op_sub pe_int (pe_op op_mul pe_int (pv 2)))))
      pss_nil)
      (pss_cons (ps_if (PW.pt (pw_and (pt_cmpR op_ge (pv 2) (pe_op op_pow pe_int pe_int) (nomark _)) (pw_and1 (pt_cmpR op_lt (pv 1) (pe_callB call_len (by rfl) T.f_len PySem.boot_len (pa_cons (pv 0) pa_nil)) (nomark _))))) (pss_one (ps_ret (pv 2)))
      pss_nil)
      (pss_cons (ps_set (i := 3) sc__law_number.nd rfl (Or.inl rfl) (pe_op op_mod (pe_callTy call_int1 (by rfl) T.f_int (by decide +kernel) (pa_cons (pe_op op_add (pe_op op_mul (pe_op op_add (pv 2) pe_int) pe_int) (pe_op op_mul (pe_op op_add (pv 1) pe_int) pe_int)) pa_nil)) pe_int))
      (pss_cons (ps_set (i := 4) sc__law_number.nd rfl (Or.inl rfl) (pe_op op_mod (pe_callTy call_int1 (by rfl) T.f_int (by decide +kernel) (pa_cons (pe_op op_add (pe_op op_add (pe_op op_mul (pe_op op_add (pv 3) pe_int) pe_int) (pe_op op_mul (pe_op op_add (pv 2) pe_int) pe_int)) (pv 1)) pa_nil)) pe_int))
      (pss_one (ps_ret (pe_op op_mod (pe_callTy call_int1 (by rfl) T.f_int (by decide +kernel) (pa_cons (pe_op op_add (pe_op op_add (pe_op op_mul (pv 3) pe_int) (pe_op op_mul (pv 4) pe_int)) (pv 2)) pa_nil)) pe_int))))))))), ?_⟩
    have hpx : ∀ {H1 : Hp}, Ex H H1 → SqL K H1 p (zs.map V.int) := fun e => Evl.ex_l e hp
    refine Evl.q_asg (v := .int 0) Evl.ev_c fun H1 e1 => ?_
    -- behind the third statement
    have rest : ∀ (c : Int) (H2 : Hp), Ex H H2 → tSeq (tIfS (tAnd (tTest (tOp (rI0 fun i j => V.bl (decide (j ≤ i))) (tVar 2) (tOp (rI CPow fun i j => .int (i ^ j.toNat)) (tC (.int 10)) (tC (.int 9))))) (tTest (tOp (rI0 fun i j => .bl (decide (i < j))) (tVar 1) (tCB (rLenV K) (tCons (tVar 0) tNil))))) (tRet (tVar 2)) tNext)
        (tSeq (tAsg (tOp (rI (fun _ j => 0 < j) fun i j => .int (i % j)) (tCB rInt1 (tCons (tOp (rI0 fun i j => .int (i + j)) (tOp (rI CMul fun i j => .int (i * j)) (tOp (rI0 fun i j => .int (i + j)) (tVar 2) (tC (.int 7))) (tC (.int 48271))) (tOp (rI CMul fun i j => .int (i * j)) (tOp (rI0 fun i j => .int (i + j)) (tVar 1) (tC (.int 3))) (tC (.int 69621)))) tNil)) (tC (.int 2147483647))) (gName 3))
        (tSeq (tAsg (tOp (rI (fun _ j => 0 < j) fun i j => .int (i % j)) (tCB rInt1 (tCons (tOp (rI0 fun i j => .int (i + j)) (tOp (rI0 fun i j => .int (i + j)) (tOp (rI CMul fun i j => .int (i * j)) (tOp (rI0 fun i j => .int (i + j)) (tVar 3) (tC (.int 11))) (tC (.int 16807))) (tOp (rI CMul fun i j => .int (i * j)) (tOp (rI0 fun i j => .int (i + j)) (tVar 2) (tC (.int 1))) (tC (.int 40692)))) (tVar 1)) tNil)) (tC (.int 2147483399))) (gName 4))
        (tRet (tOp (rI (fun _ j => 0 < j) fun i j => .int (i % j)) (tCB rInt1 (tCons (tOp (rI0 fun i j => .int (i + j)) (tOp (rI0 fun i j => .int (i + j)) (tOp (rI CMul fun i j => .int (i * j)) (tVar 3) (tC (.int 2147483399))) (tOp (rI CMul fun i j => .int (i * j)) (tVar 4) (tC (.int 31)))) (tVar 2)) tNil)) (tC (.int 4611686014132420609)))))) { nx := fun _ H' => Q .non H', rt := Q } [some (.ref p), some (.int k0), some (.int c), none, none] H2 := fun c H2 e2 => by
      have t1 := et_ge (K := K) (σ := [some (.ref p), some (.int k0), some (.int c), none, none]) (H := H2) (ta := tVar 2) (tb := tOp (rI CPow fun i j => .int (i ^ j.toNat)) (tC (.int 10)) (tC (.int 9))) (ed_var rfl (.int c)) (ed_opC (g := fun i j => V.int (i ^ j.toNat)) (f := fun i j => i ^ j.toNat) (fun _ _ => rfl) ed_int ed_int (by unfold CPow; decide))
      have t2 := et_lt (K := K) (σ := [some (.ref p), some (.int k0), some (.int c), none, none]) (H := H2) (ta := tVar 1) (tb := tCB (rLenV K) (tCons (tVar 0) tNil)) (ed_var rfl (.int k0)) (ed_lenS (Evl.ev_var rfl) (hpx e2))
      refine Evl.q_when (Evl.et_and t1 fun _ => t2) (fun _ H3 e3 => Evl.s_ret (Evl.ev_var rfl) fun H4 e4 => k c H4 ((e2.trans e3).trans e4)) (fun _ H3 e3 => ?_)
      refine q_asgI (K := K) (ei_mod (ei_int1 (ei_add (ei_mulR (ei_add (ei_var rfl) ei_int) (by decide)) (ei_mulR (ei_add (ei_var rfl) ei_int) (by decide)))) (by decide)) fun c3 H4 e4 => ?_
      refine q_asgI (K := K) (ei_mod (ei_int1 (ei_add (ei_add (ei_mulR (ei_add (ei_var rfl) ei_int) (by decide)) (ei_mulR (ei_add (ei_var rfl) ei_int) (by decide))) (ei_var rfl))) (by decide)) fun c4 H5 e5 => ?_
      have last := ei_mod (K := K) (σ := [some (.ref p), some (.int k0), some (.int c), some (.int c3), some (.int c4)]) (H := H5) (j := 4611686014132420609) (ei_int1 (ei_add (ei_add (ei_mulR (ta := tVar 3) (j := 2147483399) (ei_var rfl) (by decide)) (ei_mulR (ta := tVar 4) (j := 31) (ei_var rfl) (by decide))) (ei_var (j := 2) rfl))) (by decide)
      obtain ⟨i, hi⟩ := last
      exact Evl.s_ret hi.evI fun H6 e6 => k i H6 ((((e2.trans e3).trans e4).trans e5).trans e6)
    have third : ∀ (c : Int) (H2 : Hp), Ex H H2 → _ := fun c H2 e2 => Evl.q_when (b := decide (c < 0)) (t := tTest (tOp (rI0 fun i j => .bl (decide (i < j))) (tVar 2) (tC (.int 0)))) (tu := tAsg (tOp (rI0 fun i j => .int (i - j)) (tC (.int 1)) (tOp (rI CMul fun i j => .int (i * j)) (tC (.int 2)) (tVar 2))) (gName 2)) (σ := [some (.ref p), some (.int k0), some (.int c), none, none]) (H := H2) (et_lt (K := K) (ed_var rfl (.int c)) ed_int) (fun _ H3 e3 => s_asgI (K := K) (ei_sub ei_int (ei_mulL (ei_var rfl) (by decide))) fun c' H4 e4 => rest c' H4 ((e2.trans e3).trans e4)) (fun _ H3 e3 => rest c H3 (e2.trans e3))
    refine Evl.q_when (b := decide ((0 : Int) < ((zs.map V.int).length : Int))) (et_gt (ed_lenS (Evl.ev_var rfl) (hpx e1)) ed_int) (fun hb H2 e2 => ?_) (fun _ H2 e2 => third 0 H2 (e1.trans e2))
    have e12 := e1.trans e2
    have pos : 0 < zs.length := by
      have := of_decide_eq_true hb
      rw [List.length_map] at this
      omega
    -- script[int(k) % len(script)]
    have ixv : ∃ c : Int, Ev (tOp (rIxL K) (tVar 0) (tOp (rI (fun _ j => 0 < j) fun i j => .int (i % j)) (tCB rInt1 (tCons (tVar 1) tNil)) (tCB (rLenV K) (tCons (tVar 0) tNil)))) ([some (.ref p), some (.int k0), some (.int 0), none, none] : L2.St) H2 (.int c) := by
      have m := ed_opC (K := K) (C := fun _ j => 0 < j) (g := fun i j => V.int (i % j)) (f := fun i j => i % j) (fun _ _ => rfl) (ta := tCB rInt1 (tCons (tVar 1) tNil)) (tb := tCB (rLenV K) (tCons (tVar 0) tNil)) (σ := [some (.ref p), some (.int k0), some (.int 0), none, none]) (H := H2) (a := k0) (b := ((zs.map V.int).length : Int)) (ed_int1 (ed_var rfl (.int k0))) (ed_lenS (Evl.ev_var rfl) (hpx e12)) (by rw [List.length_map]; omega)
      have lo := Int.emod_nonneg k0 (show ((zs.map V.int).length : Int) ≠ 0 by rw [List.length_map]; omega)
      have hi := Int.emod_lt_of_pos k0 (show (0 : Int) < ((zs.map V.int).length : Int) by rw [List.length_map]; omega)
      rw [List.length_map] at lo hi m
      obtain ⟨j, hj⟩ := Int.eq_ofNat_of_zero_le lo
      rw [hj] at m hi
      have jl : j < zs.length := by omega
      refine ⟨zs[j], fun H3 e Q q => ⟨_, rfl, m H3 e _ fun v H4 e4 t => ⟨p, zs.map V.int, (j : Int), .int zs[j], rfl, t.int_inv, hpx ((e12.trans e).trans e4), atI_nat (by rw [List.getElem?_map, List.getElem?_eq_getElem jl]; rfl), q H4 e4⟩⟩⟩
    obtain ⟨c, hc⟩ := ixv
    exact Evl.s_asg hc fun H3 e3 => third c H3 (e12.trans e3)
end
end K86
end
section
set_option maxRecDepth 100000
set_option maxHeartbeats 4000000
namespace K86
open PySem PySem.Spec PyProof.Rows L2 HF
open Evl (Ex Ev EvT EvL EvU EvA)
section
variable {P : Program} {w : World} {K : PySem.W.Frag} {mg : Str → Option Value} {base : Heap} {f : Addr} {fd : FuncData} {σ : L2.St} {H : Hp} {anyA CR CD : Addr} {ta tb te : TE}
theorem ev_ixL {p : Addr} {xs : List V} {j : Nat} {v : V} (ha : Ev ta σ H (.ref p)) (hb : Ev tb σ H (.int (j : Int))) (hp : H p = some (.lst xs)) (hx : xs[j]? = some v) : Ev (tOp (rIxL K) ta tb) σ H v := fun H1 e Q q => ha H1 e _ fun H2 e2 => hb H2 (e.trans e2) _ fun H3 e3 =>
  ⟨p, xs, (j : Int), v, rfl, rfl, SqL.of (((e.trans e2).trans e3) _ _ hp), atI_nat hx, q H3 (e2.trans e3)⟩
/-! ### _law_take -/
def spTake : Sp := fun vs H Q _ => ∃ (b : Addr) (z : Int) (s : Nat), vs = [.ref b, .int (s : Int)] ∧ H b = some (.lst [.int z]) ∧ 0 < s ∧ s < 1000 ∧ ∀ (d : Nat) H', FrB b H H' → BoxAt H' b → d < s → Q (.int (d : Int)) H'
theorem sc__law_take : FnScope ["box", "size", "digit"] ["box", "size"] (defScope s_law_take) := C8.fnScope_by (by decide +kernel)
theorem cal__law_take (F : FnP K "_law_take" "_law_take" s_law_take f fd) (gm : mg "_law_take" = some (.ref f)) (T : Bl mg) : C8.Cal P w K mg base 1 "_law_take" spTake [] := by
  refine mkCal F gm sc__law_take (fun _ _ _ _ _ _ us hl => match us, hl with | [_, _], _ => rfl) (fun vs H Q E h => ?_) (fun cdv A outer s H vs Q E hr h => ?_)
  · obtain ⟨b, z, sz, rfl, _⟩ := h
    rfl
  · obtain ⟨b, z, sz, rfl, hb, h0, h1, k⟩ := h
    refine ⟨_, (pss_cons (ps_set (i := 2) sc__law_take.nd rfl (Or.inl rfl) (pe_op op_mod (pe_callTy call_int1 (by rfl) T.f_int (by decide +kernel) (pa_cons (pe_ix ix_list (pv 0) pe_int (fun _ _ => rfl)) pa_nil)) (pv 1)))
      (pss_cons (ps_asg (pe_op op_fdiv (pe_ix ix_list (pv 0) pe_int (fun _ _ => rfl)) (pv 1)) (pg_sub (pv 0) pe_int set_list))
      (pss_one (ps_ret (pv 2))))), ?_⟩
    have bx : ∀ {o : Option V} {H1 : Hp}, Ex H H1 → EvD K (tOp (rIxL K) (tVar 0) (tC (.int 0))) ([some (.ref b), some (.int (sz : Int)), o] : L2.St) H1 (.int z) := fun {o H1} e H2 e2 Q q => by
      have := ev_ixL (K := K) (ta := tVar 0) (tb := tC (.int 0)) (σ := [some (.ref b), some (.int (sz : Int)), o]) (H := H1) (p := b) (xs := [.int z]) (j := 0) (v := .int z) (Evl.ev_var rfl) Evl.ev_c (e _ _ hb) rfl
      exact this H2 e2 Q fun H3 e3 => q _ H3 e3 (.int z)
    have m := ed_opC (K := K) (C := fun _ j => 0 < j) (g := fun i j => V.int (i % j)) (f := fun i j => i % j) (fun _ _ => rfl) (ta := tCB rInt1 (tCons (tOp (rIxL K) (tVar 0) (tC (.int 0))) tNil)) (tb := tVar 1) (σ := [some (.ref b), some (.int (sz : Int)), none]) (H := H) (a := z) (b := (sz : Int)) (ed_int1 (bx (Ex.refl H))) (ed_var rfl (.int _)) (by omega)
    have lo := Int.emod_nonneg z (show (sz : Int) ≠ 0 by omega)
    have hi := Int.emod_lt_of_pos z (show (0 : Int) < (sz : Int) by omega)
    obtain ⟨d, hd⟩ := Int.eq_ofNat_of_zero_le lo
    rw [hd] at m hi
    refine Evl.q_asg m.evI fun H1 e1 => ?_
    have dv := ed_opC (K := K) (C := CDiv) (g := fun i j => V.int (i / j)) (f := fun i j => i / j) (fun _ _ => rfl) (ta := tOp (rIxL K) (tVar 0) (tC (.int 0))) (tb := tVar 1) (σ := [some (.ref b), some (.int (sz : Int)), some (.int (d : Int))]) (H := H1) (a := z) (b := (sz : Int)) (bx e1) (ed_var rfl (.int _)) ⟨by omega, by omega⟩
    refine Evl.s_setL (D := { nx := tRet (tVar 2) { nx := fun _ H' => Q .non H', rt := Q }, rt := Q }) (l := b) (xs := [.int z]) (j := 0) (e1 _ _ hb) dv.evI (Evl.ev_var rfl) Evl.ev_c (by simp) fun H2 e2 => ?_
    have em : FrB b H (upd H2 b (.lst ([V.int z].set 0 (.int (z / (sz : Int)))))) := fun a o h n => by rw [upd_ne n]; exact (e1.trans e2) _ _ h
    exact Evl.s_ret (D := { nx := fun _ H' => Q .non H', rt := Q }) (Evl.ev_var rfl) fun H3 e3 => k d H3 (em.trans (FrB.of_ex e3)) ⟨_, e3 _ _ (by rw [upd_same]; rfl)⟩ (by omega)
/-! ### _law_width -/
def widthOf (x : Str) : Nat := if hasK (.inr x) [.inr "q", .inr "d0", .inr "d3"] then 1 else 2
def spWidth (K : PySem.W.Frag) : Sp := fun vs H Q _ => ∃ v x, vs = [v] ∧ TD K H v (.str x) ∧ ∀ H', Ex H H' → Q (.int (widthOf x : Nat)) H'
theorem sc__law_width : FnScope ["name"] ["name"] (defScope s_law_width) := C8.fnScope_by (by decide +kernel)
theorem cal__law_width (F : FnP K "_law_width" "_law_width" s_law_width f fd) (gm : mg "_law_width" = some (.ref f)) (T : Bl mg) : C8.Cal P w K mg base 1 "_law_width" (spWidth K) [] := by
  refine mkCal F gm sc__law_width (fun _ _ _ _ _ _ us hl => match us, hl with | [_], _ => rfl) (fun vs H Q E h => ?_) (fun cdv A outer s H vs Q E hr h => ?_)
  · obtain ⟨v, x, rfl, _⟩ := h
    rfl
  · obtain ⟨v, x, rfl, tv, k⟩ := h
    refine ⟨_, (pss_one (ps_ret (pe_ix ix_list (pe_lst (pa_cons pe_int (pa_cons pe_int pa_nil))) (pe_callTy call_int1 (by rfl) T.f_int (by decide +kernel) (pa_cons (pe_cmpR op_in_seq (pv 0) (pe_lst (pa_cons pe_str (pa_cons pe_str (pa_cons pe_str pa_nil)))) (by rfl)) pa_nil)) (fun _ _ => rfl)))), ?_⟩
    have hv := tv.str_inv
    subst hv
    have inn : ∀ {H1 : Hp}, Ev (tOp (rIn K false) (tVar 0) (tLst (tCons (tC (.str "q")) (tCons (tC (.str "d0")) (tCons (tC (.str "d3")) tNil))))) ([some (.str x)] : L2.St) H1 (.bl (hasK (.inr x) [.inr "q", .inr "d0", .inr "d3"])) := fun {H1} H2 e Q q => by
      refine ⟨_, rfl, ?_⟩
      refine (Evl.el_lst (σ := [some (.str x)]) (H := H1) (ta := tCons (tC (.str "q")) (tCons (tC (.str "d0")) (tCons (tC (.str "d3")) tNil))) (Evl.ea_cons Evl.ev_c (Evl.ea_cons Evl.ev_c (Evl.ea_cons Evl.ev_c Evl.ea_nil))) (by simp)) H2 e _ fun p H3 np e3 hp => ?_
      refine ⟨p, _, rfl, .inl (SqL.of hp), rfl, rfl, ?_⟩
      have := inV_keys (.inr x) [.inr "q", .inr "d0", .inr "d3"]
      rw [show inV (.str x) [.str "q", .str "d0", .str "d3"] = hasK (.inr x) [.inr "q", .inr "d0", .inr "d3"] from this]
      exact q H3 e3
    have ix : Ev (tOp (rIxL K) (tLst (tCons (tC (.int 2)) (tCons (tC (.int 1)) tNil))) (tCB rInt1 (tCons (tOp (rIn K false) (tVar 0) (tLst (tCons (tC (.str "q")) (tCons (tC (.str "d0")) (tCons (tC (.str "d3")) tNil))))) tNil))) ([some (.str x)] : L2.St) H (.int (widthOf x : Nat)) := fun H1 e Q q => by
      refine (Evl.el_lst (σ := [some (.str x)]) (H := H) (ta := tCons (tC (.int 2)) (tCons (tC (.int 1)) tNil)) (Evl.ea_cons Evl.ev_c (Evl.ea_cons Evl.ev_c Evl.ea_nil)) (by simp)) H1 e _ fun p H2 np e2 hp => ?_
      refine inn H2 (Ex.refl H2) _ fun H3 e3 => .inr ⟨_, rfl, ?_⟩
      unfold widthOf at q
      cases hx : hasK (.inr x) [.inr "q", .inr "d0", .inr "d3"] with
      | true =>
        rw [hx] at q
        exact ⟨p, [.int 2, .int 1], 1, .int 1, rfl, rfl, SqL.of (e3 _ _ hp), rfl, q H3 (e2.trans e3)⟩
      | false =>
        rw [hx] at q
        exact ⟨p, [.int 2, .int 1], 0, .int 2, rfl, rfl, SqL.of (e3 _ _ hp), rfl, q H3 (e2.trans e3)⟩
    exact Evl.s_ret ix fun H1 e1 => k H1 e1
/-! ### _law_const -/
def spConst : Sp := fun vs H Q _ => ∃ b, vs = [.ref b] ∧ BoxAt H b ∧ ∀ (c : Key) H', FrB b H H' → BoxAt H' b → keyOk c = true → Q (kV c) H'
theorem sc__law_const : FnScope ["box"] ["box"] (defScope s_law_const) := C8.fnScope_by (by decide +kernel)
theorem cal__law_const (F : FnP K "_law_const" "_law_const" s_law_const f fd) (gm : mg "_law_const" = some (.ref f)) (c__law_take : C8.Cal P w K mg base 1 "_law_take" spTake []) : C8.Cal P w K mg base 2 "_law_const" spConst [] := by
  refine mkCal F gm sc__law_const (fun _ _ _ _ _ _ us hl => match us, hl with | [_], _ => rfl) (fun vs H Q E h => ?_) (fun cdv A outer s H vs Q E hr h => ?_)
  · obtain ⟨b, rfl, _⟩ := h
    rfl
  · obtain ⟨b, rfl, ⟨z, hb⟩, k⟩ := h
    refine ⟨_, (pss_one (ps_ret (pe_ix ix_list (pe_lst (pa_cons pe_int (pa_cons pe_int (pa_cons pe_int (pa_cons pe_str pa_nil))))) (C8.pe_c c__law_take hr (by decide) rfl (pa_cons (pv 0) (pa_cons pe_int pa_nil))) (fun _ _ => rfl)))), ?_⟩
    have lst := Evl.el_lst (σ := [some (.ref b)]) (H := H) (ta := tCons (tC (.int 0)) (tCons (tC (.int 1)) (tCons (tC (.int 2)) (tCons (tC (.str "a")) tNil)))) (Evl.ea_cons Evl.ev_c (Evl.ea_cons Evl.ev_c (Evl.ea_cons Evl.ev_c (Evl.ea_cons Evl.ev_c Evl.ea_nil)))) (by simp)
    show tOp (rIxL K) (tLst _) _ _ H Q
    refine lst H (Ex.refl H) _ fun p H1 np e1 hp => ?_
    have pb : p ≠ b := fun q => by rw [q, hb] at np; cases np
    refine ⟨_, rfl, b, z, 4, rfl, e1 _ _ hb, by decide, by decide, fun d H2 fr bx hd => ?_⟩
    have hp2 := fr _ _ hp pb
    have kk : ∃ c : Key, [V.int 0, V.int 1, V.int 2, V.str "a"][d]? = some (kV c) ∧ keyOk c = true := by
      have okA : PyData.strOk ("a" : Str) = true := by decide +kernel
      match d, hd with
      | 0, _ => exact ⟨.inl 0, rfl, rfl⟩
      | 1, _ => exact ⟨.inl 1, rfl, rfl⟩
      | 2, _ => exact ⟨.inl 2, rfl, rfl⟩
      | 3, _ => exact ⟨.inr "a", rfl, okA⟩
    obtain ⟨c, hc, ok⟩ := kk
    exact ⟨p, _, (d : Int), kV c, rfl, rfl, SqL.of hp2, atI_nat hc, k c H2 ((FrB.of_ex e1).trans fr) bx ok⟩
end
end K86
end
section
set_option maxRecDepth 100000
set_option maxHeartbeats 4000000
namespace K86
open PySem PySem.Spec PyProof.Rows L2 HF
open Evl (Ex Ev EvT EvL EvU EvA)
def TmIn (ns : List Str) (t : Tm) : Prop := (∀ y, t = .var y → y ∈ ns) ∧ ∀ c, t = .val c → keyOk c = true
theorem box_ne {H : Hp} {b p : Addr} {ns : List Str} (hb : BoxAt H b) (hp : H p = some (.lst (ns.map V.str))) : p ≠ b := fun e => by
  obtain ⟨z, hz⟩ := hb
  rw [e, hz] at hp
  cases ns with
  | nil => simp at hp
  | cons a l => simp at hp
section
variable {P : Program} {w : World} {K : PySem.W.Frag} {mg : Str → Option Value} {base : Heap} {f : Addr} {fd : FuncData} {σ : L2.St} {H : Hp} {anyA CR CD : Addr} {ta tb te : TE}
theorem tdVar {H1 : Hp} {p : Addr} {x : Str} (h : H1 p = some (.tup [.str "var", .str x])) : TD K H1 (.ref p) (Tm.d (.var x)) := .tup (.inl h) (.cons (.str _) (.cons (.str _) .nil))
theorem tdVal {H1 : Hp} {p : Addr} {c : Key} (h : H1 p = some (.tup [.str "value", kV c])) : TD K H1 (.ref p) (Tm.d (.val c)) := .tup (.inl h) (.cons (.str _) (.cons (TD.key c) .nil))
theorem FrB.new {b p : Addr} {H1 : Hp} {o : HO} (h : H1 p = none) : FrB b H1 (upd H1 p o) := FrB.of_ex (Ex.new h)
theorem BoxAt.new {b p : Addr} {H1 : Hp} {o : HO} (h : H1 p = none) (x : BoxAt H1 b) : BoxAt (upd H1 p o) b := x.ex (Ex.new h)
theorem retTup2 {x : V} {D : Ends} (h : tb σ H fun y H1 => [x, y].length ≤ sizeLine ∧ ∀ p, H1 p = none → D.rt (.ref p) (upd H1 p (.tup [x, y]))) : tRet (tTup (tCons (tC x) (tCons tb tNil))) D σ H := h
theorem retTupV {i : Nat} {x : V} {D : Ends} (hx : σ[i]? = some (some x)) (h : tb σ H fun y H1 => [x, y].length ≤ sizeLine ∧ ∀ p, H1 p = none → D.rt (.ref p) (upd H1 p (.tup [x, y]))) : tRet (tTup (tCons (tVar i) (tCons tb tNil))) D σ H := ⟨x, hx, h⟩
theorem cb1 {r : List V → Hp → VK → Prop} {Q : VK} (h : te σ H fun x H1 => r [x] H1 Q) : tCB r (tCons te tNil) σ H Q := h
/-! ### _law_term -/
def spTerm (K : PySem.W.Frag) : Sp := fun vs H Q _ => ∃ b pn ns, vs = [.ref b, .ref pn, .bl false] ∧ BoxAt H b ∧ H pn = some (.lst (List.map V.str ns)) ∧ ns.length ≤ 900 ∧ ∀ v t H', FrB b H H' → BoxAt H' b → TD K H' v (Tm.d t) → TmIn ns t → Q v H'
theorem sc__law_term : FnScope ["box", "names", "wild", "kind"] ["box", "names", "wild"] (defScope s_law_term) := C8.fnScope_by (by decide +kernel)
theorem cal__law_term (F : FnP K "_law_term" "_law_term" s_law_term f fd) (gm : mg "_law_term" = some (.ref f)) (T : Bl mg) (c__law_take : C8.Cal P w K mg base 1 "_law_take" spTake []) (c__law_const : C8.Cal P w K mg base 2 "_law_const" spConst []) : C8.Cal P w K mg base 3 "_law_term" (spTerm K) [] := by
  refine mkCal F gm sc__law_term (fun _ _ _ _ _ _ us hl => match us, hl with | [_, _, _], _ => rfl) (fun vs H Q E h => ?_) (fun cdv A outer s H vs Q E hr h => ?_)
  · obtain ⟨b, pn, ns, rfl, _⟩ := h
    rfl
  · obtain ⟨b, pn, ns, rfl, hb, hpn, hnl, k⟩ := h
    refine ⟨_, (pss_cons (ps_set (i := 3) sc__law_term.nd rfl (Or.inl rfl) (C8.pe_c c__law_take hr (by decide) rfl (pa_cons (pv 0) (pa_cons pe_int pa_nil))))
      (pss_cons (ps_if (PW.pt (pw_and (pt_cmpR op_lt (pv 3) pe_int (nomark _)) (pw_and1 (pt_cmpR op_gt (pe_callB call_len (by rfl) T.f_len PySem.boot_len (pa_cons (pv 1) pa_nil)) pe_int (nomark _))))) (pss_one (ps_ret (pe_tup (pa_cons pe_str (pa_cons (pe_ix ix_list (pv 1) (C8.pe_c c__law_take hr (by decide) rfl (pa_cons (pv 0) (pa_cons (pe_callB call_len (by rfl) T.f_len PySem.boot_len (pa_cons (pv 1) pa_nil)) pa_nil))) (fun _ _ => rfl)) pa_nil)))))
      pss_nil)
      (pss_cons (ps_if (PW.pt (pw_and (pt_cmpR op_eq (pv 3) pe_int (nomark _)) (pw_and1 (pt_val (pv 2))))) (pss_one (ps_ret (pe_tup (pa_cons pe_str pa_nil))))
      pss_nil)
      (pss_one (ps_ret (pe_tup (pa_cons pe_str (pa_cons (C8.pe_c c__law_const hr (by decide) rfl (pa_cons (pv 0) pa_nil)) pa_nil)))))))), ?_⟩
    obtain ⟨z, hz⟩ := id hb
    have nb := box_ne hb hpn
    refine q_asgCall ?_
    refine ⟨_, rfl, b, z, 16, rfl, hz, by decide, by decide, fun kd H1 fr1 bx1 _ => ?_⟩
    have hpn1 := fr1 _ _ hpn nb
    have t1 := et_lt (K := K) (σ := [some (.ref b), some (.ref pn), some (.bl false), some (.int (kd : Int))]) (H := H1) (ta := tVar 3) (tb := tC (.int 14)) (ed_var rfl (.int _)) ed_int
    have t2 := et_gt (K := K) (σ := [some (.ref b), some (.ref pn), some (.bl false), some (.int (kd : Int))]) (H := H1) (ta := tCB (rLenV K) (tCons (tVar 1) tNil)) (tb := tC (.int 0)) (ed_lenL (Evl.ev_var rfl) hpn1) ed_int
    refine Evl.q_when (Evl.et_and t1 fun _ => t2) (fun hc H2 e2 => ?_) (fun _ H2 e2 => ?_)
    · have pos : 0 < ns.length := by
        have := of_decide_eq_true (Bool.and_eq_true_iff.mp hc).2
        rw [List.length_map] at this
        omega
      obtain ⟨z2, hz2⟩ := bx1.ex e2
      have hpn2 := e2 _ _ hpn1
      -- ('var', names[..])
      refine retTup2 (opVar rfl (callD (consVar rfl (consD (ed_lenL (K := K) (te := tVar 1) (Evl.ev_var rfl) hpn2) fun vl H3 e3 tl => ?_))))
      have zl : vl = .int (ns.length : Nat) := by rw [tl.int_inv, List.length_map]
      subst zl
      refine ⟨b, z2, ns.length, rfl, e3 _ _ hz2, pos, by omega, fun d H4 fr4 bx4 hd => ?_⟩
      have hpn4 := fr4 _ _ (e3 _ _ hpn2) nb
      refine ⟨pn, _, (d : Int), .str ns[d], rfl, rfl, SqL.of hpn4, atI_nat (by rw [List.getElem?_map, List.getElem?_eq_getElem hd]; rfl), ?_⟩
      refine ⟨Evl.sz_of (by simp), fun p np => ?_⟩
      exact k _ (.var ns[d]) _ ((((fr1.trans (FrB.of_ex e2)).trans (FrB.of_ex e3)).trans fr4).trans (FrB.new np)) (bx4.new np) (tdVar upd_same) ⟨fun y hy => (by cases hy; exact List.getElem_mem hd), fun c hc => (by cases hc)⟩
    · have t3 := et_eqI (K := K) (σ := [some (.ref b), some (.ref pn), some (.bl false), some (.int (kd : Int))]) (H := H2) (ta := tVar 3) (tb := tC (.int 14)) (ed_var rfl (.int _)) ed_int
      refine Evl.q_when (b := false) (Evl.et_is (Evl.et_and t3 fun _ => Evl.et_B (b := false) (Evl.ev_var rfl)) (by rw [Bool.and_false])) (fun hb => absurd hb (by decide)) (fun _ H3 e3 => ?_)
      have bx3 := bx1.ex (e2.trans e3)
      refine retTup2 (callD ?_)
      refine ⟨_, rfl, b, rfl, bx3, fun c H4 fr4 bx4 ok => ?_⟩
      refine ⟨Evl.sz_of (by simp), fun p np => ?_⟩
      exact k _ (.val c) _ (((fr1.trans (FrB.of_ex (e2.trans e3))).trans fr4).trans (FrB.new np)) (bx4.new np) (tdVal upd_same) ⟨fun y hy => (by cases hy), fun c' hc => (by cases hc; exact ok)⟩
/-! ### _law_atom -/
def spAtom (K : PySem.W.Frag) : Sp := fun vs H Q _ => ∃ b x pn ns, vs = [.ref b, .str x, .ref pn, .bl false] ∧ BoxAt H b ∧ H pn = some (.lst (List.map V.str ns)) ∧ ns.length ≤ 900 ∧ ∀ v (a : At) H', FrB b H H' → BoxAt H' b → TD K H' v (atD a) → a.1 = x → a.2.length = widthOf x → (∀ t ∈ a.2, TmIn ns t) → Q v H'
theorem width_le (x : Str) : 1 ≤ widthOf x ∧ widthOf x ≤ 2 := by
  unfold widthOf
  split <;> omega
theorem sc__law_atom : FnScope ["box", "name", "names", "wild", "k"] ["box", "name", "names", "wild"] (defScope s_law_atom) := C8.fnScope_by (by decide +kernel)
theorem cal__law_atom (F : FnP K "_law_atom" "_law_atom" s_law_atom f fd) (gm : mg "_law_atom" = some (.ref f)) (T : Bl mg) (c__law_width : C8.Cal P w K mg base 1 "_law_width" (spWidth K) []) (c__law_term : C8.Cal P w K mg base 3 "_law_term" (spTerm K) []) : C8.Cal P w K mg base 4 "_law_atom" (spAtom K) [] := by
  refine mkCal F gm sc__law_atom (fun _ _ _ _ _ _ us hl => match us, hl with | [_, _, _, _], _ => rfl) (fun vs H Q E h => ?_) (fun cdv A outer s H vs Q E hr h => ?_)
  · obtain ⟨b, x, pn, ns, rfl, _⟩ := h
    rfl
  · obtain ⟨b, x, pn, ns, rfl, hb, hpn, hnl, k⟩ := h
    refine ⟨_, (pss_one (ps_ret (pe_tup (pa_cons (pv 1) (pa_cons (pe_callTy call_tuple_of (by rfl) T.f_tuple (by decide +kernel) (pa_cons (pe_lc (own := [("k", 4)]) (g := gName 4) rfl sc__law_atom.nd (pi_range1 rfl T.f_range (pa_cons (C8.pe_c c__law_width hr (by decide) rfl (pa_cons (pv 1) pa_nil)) pa_nil)) (blkOk_by (own := [("k", 4)]) (N := ["box", "name", "names", "wild", "k"]) (sc := defScope s_law_atom) (by decide +kernel)) (fun _ _ _ _ _ => (pg_name (i := 4) sc__law_atom.nd rfl (Or.inl rfl))) (fun _ _ _ _ _ => pts_nil) (fun _ _ _ _ _ => (C8.pe_c c__law_term hr (by decide) rfl (pa_cons (pv 0) (pa_cons (pv 2) (pa_cons (pv 3) pa_nil)))))) pa_nil)) pa_nil))))), ?_⟩
    have nb := box_ne hb hpn
    obtain ⟨w1, w2⟩ := width_le x
    refine retTupV rfl (cb1 ?_)
    refine ⟨_, rfl, _, x, rfl, .str x, fun H1 e1 => ⟨_, rfl, by omega, by omega, fun D hD => ?_⟩⟩
    have hbD : D ≠ b := fun q => by
      obtain ⟨z, hz⟩ := hb
      rw [q, e1 _ _ hz] at hD
      cases hD
    rw [show ((widthOf x : Nat) : Int).toNat = widthOf x by omega]
    refine lc_range (lo := 0) (n := widthOf x) (fun i H' => FrB b H1 H' ∧ BoxAt H' b ∧ ∃ xs ts, H' D = some (.lst xs) ∧ TDs K H' xs (ts.map Tm.d) ∧ ts.length = i ∧ ∀ t ∈ ts, TmIn ns t) ⟨FrB.new hD, (hb.ex e1).new hD, [], [], upd_same, .nil, rfl, fun _ z => by cases z⟩ (fun i H' hi p => ⟨wipe1 _, ?_⟩) fun H' p => ?_
    · obtain ⟨fr, bx, xs, ts, hD', tds, hl, hts⟩ := p
      refine tt_yes ?_
      refine ⟨_, rfl, _, rfl, _, rfl, b, pn, ns, rfl, bx, fr _ _ (e1 _ _ hpn) nb, hnl, fun v t H2 fr2 bx2 tv ht => ?_⟩
      have hD2 := fr2 _ _ hD' hbD
      have l1 := tds.length
      rw [List.length_map] at l1
      have zz : sizeLine = 16777216 := sizeLine_eq
      refine ⟨xs, hD2, by omega, ?_, ?_, xs ++ [v], ts ++ [t], upd_same, ?_, by rw [List.length_append, hl]; rfl, fun t' ht' => ?_⟩
      · exact fun a o h n => by rw [upd_ne (ne_of_none h hD)]; exact fr2 _ _ (fr _ _ h n) n
      · obtain ⟨z, hz⟩ := bx2
        exact ⟨z, by rw [upd_ne hbD.symm]; exact hz⟩
      · rw [List.map_append]
        exact ((tds.mono (fr2.tx bx)).snoc tv).mono (TX.lst hD2)
      · rcases List.mem_append.mp ht' with h | h
        · exact hts t' h
        · have : t' = t := by simpa using h
          rw [this]
          exact ht
    · obtain ⟨fr, bx, xs, ts, hD', tds, hl, hts⟩ := p
      refine ⟨D, xs, rfl, .inl ⟨SqL.of hD', fun l hl' => ?_⟩⟩
      refine ⟨Evl.sz_of (by simp), fun p np => ?_⟩
      have e2 : Ex H' (upd H' l (.tup xs)) := Ex.new hl'
      have e3 : Ex (upd H' l (.tup xs)) (upd (upd H' l (.tup xs)) p (.tup [.str x, .ref l])) := Ex.new np
      refine k _ (x, ts) _ (((FrB.of_ex e1).trans fr).trans (FrB.of_ex (e2.trans e3))) (bx.ex (e2.trans e3)) (.tup (.inl upd_same) (.cons (.str x) (.cons (.tup (.inl (e3 _ _ upd_same)) (tds.mono_ex (e2.trans e3))) .nil))) rfl hl hts
/-! ### _law_once -/
def spOnce : Sp := fun vs H Q _ => ∃ p xs, vs = [.ref p] ∧ H p = some (.lst (List.map V.str xs)) ∧ xs.length ≤ 1000 ∧ ∀ (q : Addr) (H' : Hp) (os : List Str), Ex H H' → H q = none → H' q = some (.lst (os.map V.str)) → (∀ x ∈ os, x ∈ xs) → os.length ≤ xs.length → Q (.ref q) H'
theorem sc__law_once : FnScope ["items", "found", "item"] ["items"] (defScope s_law_once) := C8.fnScope_by (by decide +kernel)
theorem cal__law_once (F : FnP K "_law_once" "_law_once" s_law_once f fd) (gm : mg "_law_once" = some (.ref f)) (T : Bl mg) : C8.Cal P w K mg base 1 "_law_once" spOnce [] := by
  refine mkCal F gm sc__law_once (fun _ _ _ _ _ _ us hl => match us, hl with | [_], _ => rfl) (fun vs H Q E h => ?_) (fun cdv A outer s H vs Q E hr h => ?_)
  · obtain ⟨p, xs, rfl, _⟩ := h
    rfl
  · obtain ⟨p, xs, rfl, hp, hl, k⟩ := h
    refine ⟨_, (pss_cons (ps_set (i := 1) sc__law_once.nd rfl (Or.inl rfl) (pe_lst pa_nil))
      (pss_cons (ps_for PassesOwn.never rfl (pi_list (pv 0)) (pg_name (i := 2) sc__law_once.nd rfl (Or.inl rfl))
      (pss_one (ps_if (pt_cmpR op_notIn_seq (pv 2) (pv 1) (by rfl)) (pss_one (ps_expr (pe_bm PySem.F.plainAttrs_list PySem.F.slot_list_append PySem.F.type_list_append mt_append (pv 1) (pa_cons (pv 2) pa_nil))))
        pss_nil)))
      (pss_one (ps_ret (pv 1))))), ?_⟩
    refine Evl.q_asgL (xs := []) (Evl.el_lst Evl.ea_nil (by decide)) fun q H1 nq e1 hq => ?_
    refine Evl.q_forLn (a := p) (xs := xs.map V.str) (Evl.ev_var rfl) (SqL.of (e1 _ _ hp)) (fun i σ' H' => ∃ o os, σ' = [some (.ref p), some (.ref q), o] ∧ Ex H H' ∧ H' q = some (.lst (List.map V.str os)) ∧ (∀ x ∈ os, x ∈ xs) ∧ os.length ≤ i) (fun H2 e2 => ⟨_, [], rfl, e1.trans e2, e2 _ _ hq, fun _ z => (by cases z), Nat.le_refl 0⟩) (fun i σ' H' _ pv => ?_) (fun i y σ' H' hy pv => ?_) ?_
    · obtain ⟨_, _, _, e, _⟩ := pv
      exact SqL.of (e _ _ hp)
    · obtain ⟨o, os, rfl, eH, hq', hsub, hlen⟩ := pv
      rw [List.getElem?_map] at hy
      obtain ⟨x, hx, rfl⟩ := Option.map_eq_some_iff.mp hy
      have il := (List.getElem?_eq_some_iff.mp hx).1
      refine Evl.s_when (et_inL (neg := true) (a := x) (ed_var rfl (.str x)) (Evl.ev_var rfl) hq') (fun hb H3 e3 => ?_) (fun hb H3 e3 => ?_)
      · refine Evl.s_app (l := q) (xs := os.map V.str) (v := .str x) (e3 _ _ hq') (Evl.ev_var rfl) (Evl.ev_var rfl) (by rw [List.length_map]; omega) fun H4 e4 => ⟨_, os ++ [x], rfl, Ex.mut ((eH.trans e3).trans e4) nq, by rw [upd_same, List.map_append]; rfl, fun y hy => ?_, by rw [List.length_append, List.length_cons, List.length_nil]; omega⟩
        rcases List.mem_append.mp hy with h | h
        · exact hsub y h
        · have : y = x := by simpa using h
          rw [this]
          exact List.mem_of_getElem? hx
      · exact ⟨_, os, rfl, eH.trans e3, e3 _ _ hq', hsub, by omega⟩
    · rintro σ' H' ⟨o, os, rfl, eH, hq', hsub, hlen⟩
      rw [List.length_map] at hlen
      exact Evl.s_ret (Evl.ev_var rfl) fun H4 e4 => k q H4 os (eH.trans e4) nq (e4 _ _ hq') hsub hlen
/-! ### _law_names -/
def spNames (K : PySem.W.Frag) : Sp := fun vs H Q _ => ∃ (p : Addr) (xs : List V) (bd : List At), vs = [.ref p] ∧ H p = some (.lst xs) ∧ TDs K H xs (bd.map litD) ∧ bd.length ≤ 10 ∧ (∀ a ∈ bd, a.2.length ≤ 2) ∧ ∀ (q : Addr) (H' : Hp) (ns : List Str), Ex H H' → H q = none → H' q = some (.lst (ns.map V.str)) → (∀ x ∈ ns, ∃ a ∈ bd, Tm.var x ∈ a.2) → ns.length ≤ 60 → Q (.ref q) H'
theorem sc__law_names : FnScope ["body", "found", "literal", "term"] ["body"] (defScope s_law_names) := C8.fnScope_by (by decide +kernel)
def nameOf : Tm → Str
  | .var x => x
  | .val _ => "a"
theorem cal__law_names (F : FnP K "_law_names" "_law_names" s_law_names f fd) (gm : mg "_law_names" = some (.ref f)) (T : Bl mg) (c__law_once : C8.Cal P w K mg base 1 "_law_once" spOnce []) : C8.Cal P w K mg base 2 "_law_names" (spNames K) [] := by
  refine mkCal F gm sc__law_names (fun _ _ _ _ _ _ us hl => match us, hl with | [_], _ => rfl) (fun vs H Q E h => ?_) (fun cdv A outer s H vs Q E hr h => ?_)
  · obtain ⟨p, xs, bd, rfl, _⟩ := h
    rfl
  · obtain ⟨p, xs, bd, rfl, hp, tds, hl, hal, k⟩ := h
    refine ⟨_, (pss_cons (ps_set (i := 1) sc__law_names.nd rfl (Or.inr rfl) (pe_lst pa_nil))
      (pss_cons (ps_for PassesOwn.never rfl (pi_list (pv 0)) (pg_name (i := 2) sc__law_names.nd rfl (Or.inl rfl))
      (pss_one (ps_if (pt_cmpR op_eq (pe_ix ix_tup (pv 2) pe_int (fun _ _ => rfl)) pe_str (nomark _)) (pss_one (ps_set (i := 1) sc__law_names.nd rfl (Or.inr rfl) (pe_op op_cat (pv 1) (pe_lc (own := [("term", 3)]) (g := gName 3) rfl sc__law_names.nd (pi_tup (pe_ix ix_tup (pe_ix ix_tup (pv 2) pe_int (fun _ _ => rfl)) pe_int (fun _ _ => rfl))) (blkOk_by (own := [("term", 3)]) (N := ["body", "found", "literal", "term"]) (sc := defScope s_law_names) (by decide +kernel)) (fun _ _ _ _ _ => (pg_name (i := 3) sc__law_names.nd rfl (Or.inl rfl))) (fun _ _ _ _ _ => (pts_one (PW.pt (pw_and (pt_cmpR op_eq (pe_ix (r := rIxT K) ix_tup (pv 3) pe_int (fun _ _ => rfl)) pe_str (nomark _)) (pw_and1 (pt_cmpR (r := rIn K true) op_notIn_seq (pe_ix (r := rIxT K) ix_tup (pv 3) pe_int (fun _ _ => rfl)) (pv 1) (by rfl))))))) (fun _ _ _ _ _ => (pe_ix (r := rIxT K) ix_tup (pv 3) pe_int (fun _ _ => rfl)))))))
        pss_nil)))
      (pss_one (ps_ret (pe_callB cr_sortedS (by rfl) T.f_sorted (by decide +kernel) (pa_cons (C8.pe_c c__law_once hr (by decide) rfl (pa_cons (pv 1) pa_nil)) pa_nil)))))), ?_⟩
    refine Evl.q_asgL (xs := []) (Evl.el_lst Evl.ea_nil (by decide)) fun q H1 nq e1 hq => ?_
    refine Evl.q_forLn (a := p) (xs := xs) (Evl.ev_var rfl) (SqL.of (e1 _ _ hp)) (fun i σ' H' => ∃ q o2 o3 fs, σ' = [some (.ref p), some (.ref q), o2, o3] ∧ Ex H H' ∧ H' q = some (.lst (List.map V.str fs)) ∧ (∀ x ∈ fs, ∃ a ∈ bd, Tm.var x ∈ a.2) ∧ fs.length ≤ 2 * i) (fun H2 e2 => ⟨q, _, _, [], rfl, e1.trans e2, e2 _ _ hq, fun _ z => (by cases z), Nat.le_refl 0⟩) (fun i σ' H' _ pv => ?_) (fun i y σ' H' hy pv => ?_) ?_
    · obtain ⟨_, _, _, _, _, e, _⟩ := pv
      exact SqL.of (e _ _ hp)
    · obtain ⟨q, o2, o3, fs, rfl, eH, hq', hsub, hlen⟩ := pv
      obtain ⟨d, hd, ty⟩ := tds.get' hy
      rw [List.getElem?_map] at hd
      obtain ⟨a, ha, rfl⟩ := Option.map_eq_some_iff.mp hd
      have am : a ∈ bd := List.mem_of_getElem? ha
      have al := hal a am
      have ty' := ty.mono_ex eH
      have il := (List.getElem?_eq_some_iff.mp ha).1
      refine Evl.s_when (b := true) (Evl.et_is (et_eqS (ed_tag (ed_var rfl ty')) ed_str) (by decide +kernel)) (fun _ H3 e3 => ?_) (fun hb => absurd hb (by decide))
      have hq3 := e3 _ _ hq'
      have comp := eld_lcT (K := K) (σ := [some (.ref p), some (.ref q), some y, o3]) (H := H3) (ts := a.2) (enc := Tm.d) (j := 3) (vs := [3]) (tl := tOp (rIxT K) (tOp (rIxT K) (tVar 2) (tC (.int 1))) (tC (.int 1)))
        (tt := tAnd (tTest (tOp rEq (tOp (rIxT K) (tVar 3) (tC (.int 0))) (tC (.str "var")))) (tTest (tOp (rIn K true) (tOp (rIxT K) (tVar 3) (tC (.int 1))) (tVar 1)))) (te := tOp (rIxT K) (tVar 3) (tC (.int 1))) (fun t => match t with | .var x => !decide (x ∈ fs) | .val _ => false) (fun t => .str (nameOf t)) (ed_atT (ed_var rfl (ty'.mono_ex e3))) (by omega) wipe1 (fun t x H4 _ e4 tx => ?_) (fun t x H4 _ e4 tx hf => ?_)
      · have nsD : ((a.2.filter fun t => match t with | .var x => !decide (x ∈ fs) | .val _ => false).map fun t => PyData.str (nameOf t)) = ((a.2.filter fun t => match t with | .var x => !decide (x ∈ fs) | .val _ => false).map nameOf).map .str := by rw [List.map_map]; rfl
        rw [nsD] at comp
        have cl : ((a.2.filter fun t => match t with | .var x => !decide (x ∈ fs) | .val _ => false).map nameOf).length ≤ 2 := by
          rw [List.length_map]
          exact Nat.le_trans (List.length_filter_le _ _) al
        have cm : ∀ x ∈ (a.2.filter fun t => match t with | .var x => !decide (x ∈ fs) | .val _ => false).map nameOf, Tm.var x ∈ a.2 := fun x hx => by
          obtain ⟨t, ht, rfl⟩ := List.mem_map.mp hx
          obtain ⟨h1, h2⟩ := List.mem_filter.mp ht
          cases t with
          | var x => exact h1
          | val c => cases h2
        generalize (a.2.filter fun t => match t with | .var x => !decide (x ∈ fs) | .val _ => false).map nameOf = cs at comp cl cm
        have compL : EvL (tLc (iTup K (tOp (rIxT K) (tOp (rIxT K) (tVar 2) (tC (.int 1))) (tC (.int 1)))) (gName 3) (tAnd (tTest (tOp rEq (tOp (rIxT K) (tVar 3) (tC (.int 0))) (tC (.str "var")))) (tTest (tOp (rIn K true) (tOp (rIxT K) (tVar 3) (tC (.int 1))) (tVar 1)))) (tOp (rIxT K) (tVar 3) (tC (.int 1))) [3]) ([some (.ref p), some (.ref q), some y, o3] : L2.St) H3 (cs.map V.str) := fun H4 e Q0 q0 => comp H4 e Q0 fun r zs H5 nr e5 hr tz => by
          have : zs = cs.map V.str := by
            rw [strs_keys]
            exact TDs.keys_inv (by rw [List.map_map]; exact tz)
          rw [this] at hr
          exact q0 r H5 nr e5 hr
        have cat : EvL (tOp rCat (tVar 1) (tLc (iTup K (tOp (rIxT K) (tOp (rIxT K) (tVar 2) (tC (.int 1))) (tC (.int 1)))) (gName 3) (tAnd (tTest (tOp rEq (tOp (rIxT K) (tVar 3) (tC (.int 0))) (tC (.str "var")))) (tTest (tOp (rIn K true) (tOp (rIxT K) (tVar 3) (tC (.int 1))) (tVar 1)))) (tOp (rIxT K) (tVar 3) (tC (.int 1))) [3])) ([some (.ref p), some (.ref q), some y, o3] : L2.St) H3 (fs.map V.str ++ cs.map V.str) := fun H4 e Q0 q0 => ⟨_, rfl, compL H4 e _ fun r H5 nr e5 hr => ⟨q, r, _, _, rfl, rfl, e5 _ _ (e _ _ hq3), hr, by rw [List.length_map, List.length_map]; have zz : sizeLine = 16777216 := sizeLine_eq; omega, fun l hl' => q0 l _ (Evl.fresh_back e5 hl') (e5.trans (Ex.new hl')) upd_same⟩⟩
        refine Evl.s_asgL cat fun r H4 nr e4 hr => ⟨r, _, _, fs ++ cs, rfl, (eH.trans e3).trans e4, by rw [hr, List.map_append], fun x hx => ?_, by rw [List.length_append]; omega⟩
        rcases List.mem_append.mp hx with h | h
        · exact hsub x h
        · exact ⟨a, am, cm x h⟩
      · cases t with
        | val c => exact Evl.et_is (Evl.et_and (a := false) (b := false) (Evl.et_is (et_eqS (a := "value") (b := "var") (ed_ix (ed_var rfl tx) ed_int at0) ed_str) (by decide +kernel)) fun h => absurd h (by decide)) rfl
        | var z => exact Evl.et_is (Evl.et_and (a := true) (b := !decide (z ∈ fs)) (Evl.et_is (et_eqS (a := "var") (b := "var") (ed_ix (ed_var rfl tx) ed_int at0) ed_str) (by decide +kernel)) fun _ => et_inL (neg := true) (a := z) (ed_ix (ed_var rfl tx) ed_int at1) (Evl.ev_var rfl) (e4 _ _ hq3)) (by rw [Bool.true_and])
      · cases t with
        | val c => cases hf
        | var z => exact ed_ix (ed_var rfl tx) ed_int at1
    · rintro σ' H' ⟨q, o2, o3, fs, rfl, eH, hq', hsub, hlen⟩
      have hxl : xs.length = bd.length := by rw [tds.length, List.length_map]
      rw [hxl] at hlen
      have srt : ∀ (Q0 : VK), (∀ (ns : List Str) (r : Addr) (H5 : Hp), H r = none → Ex H H5 → H5 r = some (.lst (ns.map V.str)) → (∀ x ∈ ns, x ∈ fs) → ns.length ≤ 20 → Q0 (.ref r) H5) → tCB (rSortedS K) (tCons (tCall spOnce [] E0 (tCons (tVar 1) tNil)) tNil) [some (.ref p), some (.ref q), o2, o3] H' Q0 := fun Q0 q0 =>
        ⟨_, rfl, q, fs, rfl, hq', by omega, fun r H4 os e4 nr hr hos hol => ⟨r, os, rfl, SqL.of hr, by omega, fun ys l perm _ hl' => q0 ys l _ (Evl.fresh_back (eH.trans e4) hl') ((eH.trans e4).trans (Ex.new hl')) upd_same (fun x hx => hos x (perm.mem_iff.mp hx)) (by rw [perm.length_eq]; omega)⟩⟩
      exact srt _ fun ns r H5 nr e5 hr hns hl5 => k r H5 ns e5 nr hr (fun x hx => hsub x (hns x hx)) (by omega)
end
end K86
end
section
set_option maxRecDepth 100000
set_option maxHeartbeats 4000000
namespace K86
open PySem PySem.Spec PyProof.Rows L2 HF
open Evl (Ex Ev EvT EvL EvU EvA)
/-- a rule of the law's kind, of at most m literals -/
structure LR (m : Nat) (r : Rl) : Prop where
  hn : r.hn = "d4"
  ht : r.ht.length = 2
  b1 : 1 ≤ r.bd.length
  bm : r.bd.length ≤ m
  wid : ∀ a ∈ r.bd, a.2.length = widthOf a.1
  okh : ∀ t ∈ r.ht, Tm.ok t = true
  okb : ∀ a ∈ r.bd, ∀ t ∈ a.2, Tm.ok t = true
  hi : HeadIn r
theorem ok_of_in {ns : List Str} {t : Tm} (hn : ∀ x ∈ ns, PyData.strOk x = true) (h : TmIn ns t) : t.ok = true := by
  cases t with
  | var x => exact hn x (h.1 x rfl)
  | val c =>
    have := h.2 c rfl
    cases c with
    | inl i => rfl
    | inr x => exact this
section
variable {P : Program} {w : World} {K : PySem.W.Frag} {mg : Str → Option Value} {base : Heap} {f : Addr} {fd : FuncData} {σ : L2.St} {H : Hp} {anyA CR CD : Addr} {ta tb te tl : TE}
theorem s_appM {i : Nat} {l : Addr} {xs : List V} {t : TA} {D : Ends} (hs : σ[i]? = some (some (.ref l))) (hl : H l = some (.lst xs)) (h : t σ H fun vs H2 => rAppend (.ref l) vs H2 fun _ H3 => D.nx σ H3) : tDrop (tBM K "list" rAppend (tVar i) t) D σ H := ⟨_, hs, .inl ⟨rfl, xs, SqL.of hl⟩, h⟩
theorem consT {x : V} {ta : TA} {Q : List V → Hp → Prop} (h : tb σ H fun y H1 => [x, y].length ≤ sizeLine ∧ ∀ p, H1 p = none → ta σ (upd H1 p (.tup [x, y])) fun us H3 => Q (.ref p :: us) H3) : tCons (tTup (tCons (tC x) (tCons tb tNil))) ta σ H Q := h
theorem consIxCall {xs : List V} {sp : Sp} {E : XK} {t ta : TA} {Q : List V → Hp → Prop} (h : EvL tl σ H xs) (q : ∀ p H1, H p = none → Ex H H1 → H1 p = some (.lst xs) → t σ H1 fun vs H2 => sp (vs ++ []) H2 (fun y H3 => rIxL K (.ref p) y H3 fun z H4 => ta σ H4 fun us H5 => Q (z :: us) H5) E) : tCons (tOp (rIxL K) tl (tCall sp [] E t)) ta σ H Q := h H (Ex.refl H) _ q
theorem consLst1 {sp : Sp} {E : XK} {t ta : TA} {Q : List V → Hp → Prop} (h : t σ H fun vs H1 => sp (vs ++ []) H1 (fun x H2 => [x].length ≤ sizeLine ∧ ∀ p, H2 p = none → ta σ (upd H2 p (.lst [x])) fun us H3 => Q (.ref p :: us) H3) E) : tCons (tLst (tCons (tCall sp [] E t) tNil)) ta σ H Q := h
theorem consC {x : V} {ta : TA} {Q : List V → Hp → Prop} (h : ta σ H fun us H3 => Q (x :: us) H3) : tCons (tC x) ta σ H Q := h
theorem consOpCall {r : R2} {sp : Sp} {E : XK} {x : V} {t ta : TA} {Q : List V → Hp → Prop} (h : t σ H fun vs H1 => sp (vs ++ []) H1 (fun y H2 => r x y H2 fun z H3 => ta σ H3 fun us H4 => Q (z :: us) H4) E) : tCons (tOp r (tC x) (tCall sp [] E t)) ta σ H Q := h
theorem q_forTake {i sz : Nat} {b : Addr} {z : Int} {g : TG} {tu tz : TS} {D : Ends} {E : XK} (hs : σ[i]? = some (some (.ref b))) (hb : H b = some (.lst [.int z])) (h0 : 0 < sz) (h1 : sz < 1000)
    (q : ∀ d H1, FrB b H H1 → BoxAt H1 b → d < sz → ∃ Pv : Nat → L2.St → Hp → Prop, Pv 0 σ H1 ∧ (∀ i σ' H', i < 1 + d → Pv i σ' H' → g (.int (i : Int)) σ' H' fun σ2 H2 => tu { D with nx := Pv (i + 1), ct := Pv (i + 1), bk := tz D } σ2 H2) ∧ ∀ σ' H', Pv (1 + d) σ' H' → tz D σ' H') :
    tSeq (tFor (iRng1 (tCons (tOp (rI0 fun i j => .int (i + j)) (tC (.int 1)) (tCall spTake [] E (tCons (tVar i) (tCons (tC (.int (sz : Int))) tNil)))) tNil)) g tu) tz D σ H :=
  ⟨_, hs, b, z, sz, rfl, hb, h0, h1, fun d H1 fr bx hd => ⟨1, (d : Int), rfl, rfl, 1 + (d : Int), rfl, by omega, by omega, by
    obtain ⟨Pv, p0, ps, pd⟩ := q d H1 fr bx hd
    rw [show (1 + (d : Int)).toNat = 1 + d by omega]
    refine for_it (walk_range (lo := 0) (n := 1 + d)) Pv p0 (fun _ _ _ _ _ => True.intro) (fun j x σ' H' H'' hj p y => ?_) pd
    obtain ⟨e1, e2⟩ := y
    subst e1
    have e3 : x = .int (j : Int) := by rw [e2]; show V.int (0 + (j : Int)) = _; rw [Int.zero_add]
    subst e3
    exact ps j σ' _ hj p⟩⟩
theorem ed_tupleL {p : Addr} {xs : List V} {ds : List PyData} (h : Ev te σ H (.ref p)) (hp : H p = some (.lst xs)) (ts : TDs K H xs ds) : EvD K (tCB (fun xs H Q => ∃ p ys, xs = [.ref p] ∧ ((SqL K H p ys ∧ ∀ l, H l = none → Q (.ref l) (upd H l (.tup ys))) ∨ (SqT K H p ys ∧ Q (.ref p) H))) (tCons te tNil)) σ H (.tuple ds) := fun H0 e Q q => h H0 e _ fun H1 e1 =>
  ⟨p, xs, rfl, .inl ⟨SqL.of (e1 _ _ (e _ _ hp)), fun l hl => q _ _ (e1.trans (Ex.new hl)) (.tup (.inl upd_same) (ts.mono_ex ((e.trans e1).trans (Ex.new hl))))⟩⟩
/-! ### _law_plain_rule -/
def spPlain (K : PySem.W.Frag) : Sp := fun vs H Q _ => ∃ z : Int, vs = [.int z] ∧ ∀ v r H', Ex H H' → TD K H' v (Rl.d r) → LR 3 r → Q v H'
theorem sc__law_plain_rule : FnScope ["number", "box", "body", "k", "names", "head"] ["number"] (defScope s_law_plain_rule) := C8.fnScope_by (by decide +kernel)
theorem okXYZ : ∀ x ∈ (["X", "Y", "Z"] : List Str), PyData.strOk x = true := by
  intro x hx
  have e1 : PyData.strOk ("X" : Str) = true := by decide +kernel
  have e2 : PyData.strOk ("Y" : Str) = true := by decide +kernel
  have e3 : PyData.strOk ("Z" : Str) = true := by decide +kernel
  simp only [List.mem_cons, List.not_mem_nil, or_false] at hx
  rcases hx with rfl | rfl | rfl
  · exact e1
  · exact e2
  · exact e3
theorem cal__law_plain_rule (F : FnP K "_law_plain_rule" "_law_plain_rule" s_law_plain_rule f fd) (gm : mg "_law_plain_rule" = some (.ref f)) (T : Bl mg) (c__law_take : C8.Cal P w K mg base 1 "_law_take" spTake []) (c__law_atom : C8.Cal P w K mg base 4 "_law_atom" (spAtom K) []) (c__law_names : C8.Cal P w K mg base 2 "_law_names" (spNames K) []) (c__law_term : C8.Cal P w K mg base 3 "_law_term" (spTerm K) []) (c__law_number : C8.Cal P w K mg base 1 "_law_number" (spNumber K) []) : C8.Cal P w K mg base 5 "_law_plain_rule" (spPlain K) [] := by
  refine mkCal F gm sc__law_plain_rule (fun _ _ _ _ _ _ us hl => match us, hl with | [_], _ => rfl) (fun vs H Q E h => ?_) (fun cdv A outer s H vs Q E hr h => ?_)
  · obtain ⟨z, rfl, _⟩ := h
    rfl
  · obtain ⟨z, rfl, k⟩ := h
    refine ⟨_, (pss_cons (ps_set (i := 1) sc__law_plain_rule.nd rfl (Or.inl rfl) (pe_lst (pa_cons (pv 0) pa_nil)))
      (pss_cons (ps_set (i := 2) sc__law_plain_rule.nd rfl (Or.inl rfl) (pe_lst pa_nil))
      (pss_cons (ps_for PassesOwn.never rfl (pi_range1 rfl T.f_range (pa_cons (pe_op op_add pe_int (C8.pe_c c__law_take hr (by decide) rfl (pa_cons (pv 1) (pa_cons pe_int pa_nil)))) pa_nil)) (pg_name (i := 3) sc__law_plain_rule.nd rfl (Or.inl rfl))
      (pss_one (ps_expr (pe_bm PySem.F.plainAttrs_list PySem.F.slot_list_append PySem.F.type_list_append mt_append (pv 2) (pa_cons (pe_tup (pa_cons pe_str (pa_cons (C8.pe_c c__law_atom hr (by decide) rfl (pa_cons (pv 1) (pa_cons (pe_ix ix_list (pe_lst (pa_cons pe_str (pa_cons pe_str (pa_cons pe_str pa_nil)))) (C8.pe_c c__law_take hr (by decide) rfl (pa_cons (pv 1) (pa_cons pe_int pa_nil))) (fun _ _ => rfl)) (pa_cons (pe_lst (pa_cons pe_str (pa_cons pe_str (pa_cons pe_str pa_nil)))) (pa_cons pe_bl pa_nil))))) pa_nil))) pa_nil)))))
      (pss_cons (ps_set (i := 4) sc__law_plain_rule.nd rfl (Or.inr rfl) (C8.pe_c c__law_names hr (by decide) rfl (pa_cons (pv 2) pa_nil)))
      (pss_cons (ps_set (i := 5) sc__law_plain_rule.nd rfl (Or.inl rfl) (pe_callTy call_tuple_of (by rfl) T.f_tuple (by decide +kernel) (pa_cons (pe_lc (own := [("k", 3)]) (g := gName 3) rfl sc__law_plain_rule.nd (pi_range1 rfl T.f_range (pa_cons pe_int pa_nil)) (blkOk_by (own := [("k", 3)]) (N := ["number", "box", "body", "k", "names", "head"]) (sc := defScope s_law_plain_rule) (by decide +kernel)) (fun _ _ _ _ _ => (pg_name (i := 3) sc__law_plain_rule.nd rfl (Or.inl rfl))) (fun _ _ _ _ _ => pts_nil) (fun _ _ _ _ _ => (C8.pe_c c__law_term hr (by decide) rfl (pa_cons (pe_lst (pa_cons (C8.pe_c c__law_number hr (by decide) rfl (pa_cons (pe_lst (pa_cons (pv 0) pa_nil)) (pa_cons (pe_op op_add pe_int (pv 3)) pa_nil))) pa_nil)) (pa_cons (pv 4) (pa_cons pe_bl pa_nil)))))) pa_nil)))
      (pss_one (ps_ret (pe_tup (pa_cons pe_str (pa_cons (pe_tup (pa_cons pe_str (pa_cons (pv 5) pa_nil))) (pa_cons (pe_callTy call_tuple_of (by rfl) T.f_tuple (by decide +kernel) (pa_cons (pv 2) pa_nil)) pa_nil))))))))))), ?_⟩
    refine Evl.q_asgL (xs := [.int z]) (Evl.el_lst (Evl.ea_cons (Evl.ev_var rfl) Evl.ea_nil) (by simp)) fun b H1 nb e1 hb => ?_
    refine Evl.q_asgL (xs := []) (Evl.el_lst Evl.ea_nil (by decide)) fun pb H2 npb e2 hpb => ?_
    have nbp : pb ≠ b := (ne_of_none hb npb).symm
    have npb0 : H pb = none := Evl.fresh_back e1 npb
    have e12 := e1.trans e2
    -- the loop's turn
    let Pv : Nat → L2.St → Hp → Prop := fun i σ' H' => ∃ o3 xs bd, σ' = [some (.int z), some (.ref b), some (.ref pb), o3, none, none] ∧ Ex H H' ∧ BoxAt H' b ∧ H' pb = some (.lst xs) ∧ TDs K H' xs (List.map litD bd) ∧ bd.length = i ∧ ∀ a ∈ bd, a.2.length = widthOf a.1 ∧ ∀ t ∈ a.2, TmIn ["X", "Y", "Z"] t
    refine q_forTake (i := 1) (sz := 3) (b := b) (z := z) rfl (e2 _ _ hb) (by decide) (by decide) fun d H3 fr3 bx3 hd3 => ⟨Pv, ?_, ?_, ?_⟩
    · exact ⟨_, [], [], rfl, fun a o h => fr3 _ _ (e12 _ _ h) (ne_of_none h nb), bx3, fr3 _ _ hpb nbp, .nil, rfl, fun _ z => by cases z⟩
    · rintro i σ' H' hi ⟨o3, xs, bd, rfl, eH, bx, hpb', tds, hlen, hbd⟩
      obtain ⟨z', hz'⟩ := id bx
      have l1 := tds.length
      rw [List.length_map] at l1
      refine s_appM (l := pb) (xs := xs) rfl hpb' (consT (callD (consVar rfl (consIxCall (xs := [.str "p", .str "q", .str "r"]) (Evl.el_lst (Evl.ea_cons Evl.ev_c (Evl.ea_cons Evl.ev_c (Evl.ea_cons Evl.ev_c Evl.ea_nil))) (by simp)) fun pl H4 npl e4 hpl => ?_))))
      have plb : pl ≠ b := fun q => by rw [q, hz'] at npl; cases npl
      refine ⟨_, rfl, b, z', 3, rfl, e4 _ _ hz', by decide, by decide, fun dd H5 fr5 bx5 hdd => ?_⟩
      have nmv : ∃ x : Str, [V.str "p", V.str "q", V.str "r"][dd]? = some (.str x) := by
        match dd, hdd with
        | 0, _ => exact ⟨_, rfl⟩
        | 1, _ => exact ⟨_, rfl⟩
        | 2, _ => exact ⟨_, rfl⟩
      obtain ⟨x, hx⟩ := nmv
      refine ⟨pl, _, (dd : Int), .str x, rfl, rfl, SqL.of (fr5 _ _ hpl plb), atI_nat hx, ?_⟩
      refine consL (xs := (["X", "Y", "Z"] : List Str).map V.str) (Evl.el_lst (Evl.ea_cons Evl.ev_c (Evl.ea_cons Evl.ev_c (Evl.ea_cons Evl.ev_c Evl.ea_nil))) (by simp)) fun pn H6 npn e6 hpn => ?_
      refine ⟨b, x, pn, ["X", "Y", "Z"], rfl, bx5.ex e6, hpn, by simp, fun v a H7 fr7 bx7 tv ha1 ha2 hat => ?_⟩
      refine ⟨Evl.sz_of (by simp), fun pt npt => ?_⟩
      have fr47 : FrB b H' H7 := (((FrB.of_ex e4).trans fr5).trans (FrB.of_ex e6)).trans fr7
      have e8 : Ex H7 (upd H7 pt (.tup [.str "is", v])) := Ex.new npt
      have hpb8 := e8 _ _ (fr47 _ _ hpb' nbp)
      have tlit : TD K (upd H7 pt (.tup [.str "is", v])) (.ref pt) (litD a) := .tup (.inl upd_same) (.cons (.str _) (.cons (tv.mono_ex e8) .nil))
      have zz : sizeLine = 16777216 := sizeLine_eq
      refine ⟨pb, xs, .ref pt, rfl, rfl, hpb8, by omega, ?_⟩
      refine ⟨_, xs ++ [.ref pt], bd ++ [a], rfl, ?_, ?_, upd_same, ?_, by rw [List.length_append, hlen]; rfl, fun a' ha' => ?_⟩
      · exact Ex.mut (fun a o h => e8 _ _ (fr47 _ _ (eH _ _ h) (ne_of_none h nb))) npb0
      · obtain ⟨y, hy⟩ := bx7.ex e8
        exact ⟨y, by rw [upd_ne nbp.symm]; exact hy⟩
      · rw [List.map_append]
        exact ((((tds.mono (fr47.tx bx)).mono_ex e8)).snoc tlit).mono (TX.lst hpb8)
      · rcases List.mem_append.mp ha' with h | h
        · exact hbd a' h
        · have : a' = a := by simpa using h
          rw [this]
          exact ⟨by rw [ha2, ha1], hat⟩
    · rintro σ' H' ⟨o3, xs, bd, rfl, eH, bx, hpb', tds, hlen, hbd⟩
      have al2 : ∀ a ∈ bd, a.2.length ≤ 2 := fun a ha => by rw [(hbd a ha).1]; exact (width_le a.1).2
      refine q_asgCall ⟨_, rfl, pb, xs, bd, rfl, hpb', tds, by omega, al2, fun pn H4 ns e4 npn hpn hns hnl => ?_⟩
      have okn : ∀ x ∈ ns, PyData.strOk x = true := fun x hx => by
        obtain ⟨a, ha, hv⟩ := hns x hx
        exact okXYZ x (((hbd a ha).2 _ hv).1 x rfl)
      -- the head
      have headE : ∀ (Q0 : VK), (∀ (v : V) (ts : List Tm) (H5 : Hp), Ex H4 H5 → TD K H5 v (.tuple (ts.map Tm.d)) → ts.length = 2 → (∀ t ∈ ts, TmIn ns t) → Q0 v H5) → tCB (fun xs H Q => ∃ p ys, xs = [.ref p] ∧ ((SqL K H p ys ∧ ∀ l, H l = none → Q (.ref l) (upd H l (.tup ys))) ∨ (SqT K H p ys ∧ Q (.ref p) H)))
          (tCons (tLc (iRng1 (tCons (tC (.int 2)) tNil)) (gName 3) tYes (tCall (spTerm K) [] E0 (tCons (tLst (tCons (tCall (spNumber K) [] E0 (tCons (tLst (tCons (tVar 0) tNil)) (tCons (tOp (rI0 fun i j => .int (i + j)) (tC (.int 3)) (tVar 3)) tNil))) tNil)) (tCons (tVar 4) (tCons (tC (.bl false)) tNil)))) [3]) tNil) [some (.int z), some (.ref b), some (.ref pb), o3, some (.ref pn), none] H4 Q0 := fun Q0 q0 => by
        refine cb1 ?_
        refine ⟨2, rfl, by decide, by decide, fun D hD => ?_⟩
        rw [show ((2 : Int)).toNat = 2 by decide]
        refine lc_range (lo := 0) (n := 2) (fun i H' => Ex H4 H' ∧ ∃ xs ts, H' D = some (.lst xs) ∧ TDs K H' xs (List.map Tm.d ts) ∧ ts.length = i ∧ ∀ t ∈ ts, TmIn ns t) ⟨Ex.new hD, [], [], upd_same, .nil, rfl, fun _ z => by cases z⟩ (fun i H' hi p => ⟨wipe1 _, ?_⟩) fun H' p => ?_
        · obtain ⟨ex, ys, ts, hD', tds', hl', hts⟩ := p
          refine tt_yes ?_
          refine consLst1 (consL (xs := [.int z]) (Evl.el_lst (Evl.ea_cons (Evl.ev_var rfl) Evl.ea_nil) (by simp)) fun p1 H5 np1 e5 hp1 => ?_)
          refine ⟨_, rfl, 3, (0 : Int) + (i : Int), rfl, rfl, p1, [z], 3 + ((0 : Int) + (i : Int)), rfl, SqL.of hp1, fun num H6 e6 => ?_⟩
          refine ⟨Evl.sz_of (by simp), fun bb nbb => ?_⟩
          have e7 : Ex H6 (upd H6 bb (.lst [.int num])) := Ex.new nbb
          have e47 : Ex H4 (upd H6 bb (.lst [.int num])) := ((ex.trans e5).trans e6).trans e7
          have hDb : D ≠ bb := fun q => by rw [q] at hD'; rw [(e5.trans e6) _ _ hD'] at nbb; cases nbb
          refine ⟨_, rfl, bb, pn, ns, rfl, ⟨num, upd_same⟩, e47 _ _ hpn, by omega, fun v t H8 fr8 bx8 tv ht => ?_⟩
          have hD8 := fr8 _ _ (((e5.trans e6).trans e7) _ _ hD') hDb
          have l1 := tds'.length
          rw [List.length_map] at l1
          have zz : sizeLine = 16777216 := sizeLine_eq
          have nbb4 : H' bb = none := Evl.fresh_back (e5.trans e6) nbb
          have ex8 : Ex H' H8 := fun a o h => fr8 _ _ (((e5.trans e6).trans e7) _ _ h) (ne_of_none h nbb4)
          refine ⟨ys, hD8, by omega, ?_, ys ++ [v], ts ++ [t], upd_same, ?_, by rw [List.length_append, hl']; rfl, fun t' ht' => ?_⟩
          · exact Ex.mut (ex.trans ex8) hD
          · rw [List.map_append]
            exact ((tds'.mono_ex ex8).snoc tv).mono (TX.lst hD8)
          · rcases List.mem_append.mp ht' with h | h
            · exact hts t' h
            · have : t' = t := by simpa using h
              rw [this]
              exact ht
        · obtain ⟨ex, ys, ts, hD', tds', hl', hts⟩ := p
          exact ⟨D, ys, rfl, .inl ⟨SqL.of hD', fun l hl'' => q0 _ ts _ (ex.trans (Ex.new hl'')) (.tup (.inl upd_same) (tds'.mono_ex (Ex.new hl''))) hl' hts⟩⟩
      have asg : ∀ {tz : TS} {D : Ends} {te : TE} {σ0 : L2.St} {H0 : Hp}, te σ0 H0 (fun v H1 => tz D (σ0.set 5 (some v)) H1) → tSeq (tAsg te (gName 5)) tz D σ0 H0 := fun h => h
      refine asg (headE _ fun v ts H5 e5 tv htl hts => ?_)
      have eA := (eH.trans e4).trans e5
      have hpb5 := (e4.trans e5) _ _ hpb'
      refine s_retD (ed_tup (eds_cons ed_str (eds_cons (ed_tup (eds_cons ed_str (eds_cons (ed_var rfl tv) eds_nil)) (by simp)) (eds_cons (ed_tupleL (Evl.ev_var rfl) hpb5 (tds.mono_ex (e4.trans e5))) eds_nil))) (by simp)) fun v' H6 e6 tr => ?_
      refine k v' ⟨"d4", ts, bd⟩ H6 (eA.trans e6) tr ⟨rfl, htl, by show 1 ≤ bd.length; omega, by show bd.length ≤ 3; omega, fun a ha => (hbd a ha).1, fun t ht => ok_of_in okn (hts t ht), fun a ha t ht => ok_of_in okXYZ ((hbd a ha).2 t ht), fun x hx => hns x ((hts _ hx).1 x rfl)⟩
end
end K86
end
section
set_option maxRecDepth 100000
set_option maxHeartbeats 4000000
namespace K86
open PySem PySem.Spec PyProof.Rows L2 HF
open Evl (Ex Ev EvT EvL EvU EvA)
def subT (b : Pl) : Tm → Tm
  | .val c => .val c
  | .var z => (tGet b z).getD (.var z)
theorem tGet_not {b : Pl} {x : Str} (h : x ∉ b.map (·.1)) : tGet b x = none := by
  cases q : tGet b x with
  | none => rfl
  | some t => exact absurd (List.mem_map.mpr ⟨(x, t), tGet_mem q, rfl⟩) h
theorem subT_ok {b : Pl} {t : Tm} (hb : ∀ p ∈ b, p.2.ok = true) (ht : t.ok = true) : (subT b t).ok = true := by
  cases t with
  | val c => exact ht
  | var z =>
    show ((tGet b z).getD (.var z)).ok = true
    cases q : tGet b z with
    | none => exact ht
    | some u => exact hb _ (tGet_mem q)
section
variable {P : Program} {w : World} {K : PySem.W.Frag} {mg : Str → Option Value} {base : Heap} {f : Addr} {fd : FuncData} {σ : L2.St} {H : Hp} {anyA CR CD : Addr} {ta tb te tl : TE}
theorem q_asgNewK {i : Nat} {tz : TS} {D : Ends} (k : ∀ p H1, H p = none → Ex H H1 → H1 p = some (.dK []) → tz D (σ.set i (some (.ref p))) H1) : tSeq (tAsg tDNewK (gName i)) tz D σ H := fun p hp => k p _ hp (Ex.new hp) upd_same
theorem dputIx {r : R2} {ta : TA} {td ty : TE} {sp : Sp} {E : XK} {t : TA} {D : Ends} (h : ta σ H fun xs H1 => xs.length ≤ sizeLine ∧ ∀ p, H1 p = none → t σ (upd H1 p (.lst xs)) fun vs H2 => sp (vs ++ []) H2 (fun y H3 => r (.ref p) y H3 fun z H4 => td σ H4 fun x H5 => ty σ H5 fun y' H6 => ∃ a H7, x = .ref a ∧ DPut H6 a y' z H7 ∧ D.nx σ H7) E) : sDPut td ty (tOp r (tLst ta) (tCall sp [] E t)) D σ H := h
theorem s_appD {l : Addr} {xs : List V} {d : PyData} {D : Ends} (hl : H l = some (.lst xs)) (ha : Ev ta σ H (.ref l)) (h : EvD K te σ H d) (hz : xs.length < 100000) (k : ∀ v H1, Ex H H1 → TD K H1 v d → D.nx σ (upd H1 l (.lst (xs ++ [v])))) : tDrop (tBM K "list" rAppend ta (tCons te tNil)) D σ H := ha H (Ex.refl H) _ fun H1 e1 =>
  ⟨Or.inl ⟨rfl, xs, SqL.of (e1 l _ hl)⟩, h H1 e1 _ fun v H2 e2 tv => ⟨l, xs, v, rfl, rfl, e2 l _ (e1 l _ hl), by have zz : sizeLine = 16777216 := sizeLine_eq; omega, k v H2 (e1.trans e2) tv⟩⟩
theorem retRule3 {x : V} {te2 te3 : TE} {d2 : PyData} {D : Ends} (h2 : EvD K te2 σ H d2) (q : ∀ y H1, Ex H H1 → TD K H1 y d2 → te3 σ H1 fun z H2 => [x, y, z].length ≤ sizeLine ∧ ∀ p, H2 p = none → D.rt (.ref p) (upd H2 p (.tup [x, y, z]))) : tRet (tTup (tCons (tC x) (tCons te2 (tCons te3 tNil)))) D σ H := h2 H (Ex.refl H) _ q
theorem catSl {r : V → Option Int → Option Int → Hp → VK → Prop} {rm : R2} {i : Nat} {l : Addr} {sp : Sp} {E : XK} {t : TA} {tq tB : TE} {Q : VK} (hs : σ[i]? = some (some (.ref l))) (h : t σ H fun vs H1 => sp (vs ++ []) H1 (fun y H2 => tq σ H2 fun w H3 => rm y w H3 fun z H4 => ∃ n, z = .int n ∧ r (.ref l) (some n) none H4 fun x1 H5 => tB σ H5 fun y1 H6 => rCat x1 y1 H6 Q) E) : tOp rCat (tSl r (tVar i) (tPart (tOp rm (tCall sp [] E t) tq)) tNoPart) tB σ H Q := ⟨_, hs, h⟩
theorem ev_gtV {a b : Int} (ha : EvD K ta σ H (.int a)) (hb : EvD K tb σ H (.int b)) : Ev (tOp (rI0 fun i j => V.bl (decide (j < i))) ta tb) σ H (.bl (decide (b < a))) := fun H1 e Q q => ha H1 e _ fun v H2 e2 t2 => hb H2 (e.trans e2) _ fun w H3 e3 t3 => ⟨a, b, t2.int_inv, t3.int_inv, q H3 (e2.trans e3)⟩
theorem ev_int1B {c : Bool} (h : Ev te σ H (.bl c)) : Ev (tCB rInt1 (tCons te tNil)) σ H (.int (if c then 1 else 0)) := fun H1 e Q q => h H1 e _ fun H2 e2 => .inr ⟨c, rfl, q H2 e2⟩
theorem cut_drop {xs : List V} {j : Nat} (h : j ≤ xs.length) : cutV xs (some (j : Int)) none = xs.drop j := by
  unfold cutV
  rw [HT.sIx_nat, HT.sIx_none, Nat.min_eq_left h, List.take_of_length_le (by rw [List.length_drop]; exact Nat.le_refl _)]
theorem cut_take {xs : List V} (h : 1 ≤ xs.length) : cutV xs none (some (1 : Int)) = xs.take 1 := by
  unfold cutV
  rw [HT.sIx_none, show (some (1 : Int)) = some ((1 : Nat) : Int) from rfl, HT.sIx_nat, Nat.min_eq_left h]
  rfl
theorem tds_drop {ds : List PyData} : ∀ (j : Nat) {xs : List V} {ds : List PyData}, TDs K H xs ds → TDs K H (xs.drop j) (ds.drop j)
  | 0, _, _, h => h
  | _ + 1, _, _, .nil => .nil
  | j + 1, _, _, .cons _ h => tds_drop (ds := []) j h
theorem tds_take {ds : List PyData} : ∀ (j : Nat) {xs : List V} {ds : List PyData}, TDs K H xs ds → TDs K H (xs.take j) (ds.take j)
  | 0, _, _, _ => .nil
  | _ + 1, _, _, .nil => .nil
  | j + 1, _, _, .cons a h => .cons a (tds_take (ds := []) j h)
theorem mem_cut {α : Type} {l : List α} {x : α} {j : Nat} (hj : j ≤ 1) (h : x ∈ l) : x ∈ l.drop j ++ l.take 1 := by
  rw [List.mem_append]
  match j, hj with
  | 0, _ => exact .inl h
  | 1, _ =>
    rw [← List.take_append_drop 1 l] at h
    rcases List.mem_append.mp h with h | h
    · exact .inr h
    · exact .inl h
theorem ed_mapped {i j : Nat} {x : V} {pp : Addr} {t : Tm} {b : Pl} (hx : σ[i]? = some (some x)) (tx : TD K H x t.d) (hj : σ[j]? = some (some (.ref pp))) (hp : PlAt K H pp b) :
    EvD K (tOp (rIxL K) (tLst (tCons (tVar i) (tCons (tDGet2 (tVar j) (tOp (rIxT K) (tVar i) (tUn (rU fun i => .int (-i)) (tC (.int 1)))) (tVar i)) tNil))) (tCB rInt1 (tCons (tOp rEq (tOp (rIxT K) (tVar i) (tC (.int 0))) (tC (.str "var"))) tNil))) σ H (subT b t).d := fun H1 e Q q => by
  obtain ⟨kvs, hk1, hk2, _, _⟩ := hp.mono e
  have tx1 := tx.mono_ex e
  have last : ∃ key : Key, EvD K (tOp (rIxT K) (tVar i) (tUn (rU fun i => .int (-i)) (tC (.int 1)))) σ H1 (kD key) ∧ ∀ z, t = .var z → key = .inr z := by
    cases t with
    | var z => exact ⟨.inr z, ed_ix (ed_var hx tx1) (ed_neg ed_int) rfl, fun z' h => by cases h; rfl⟩
    | val c => exact ⟨c, ed_ix (ed_var hx tx1) (ed_neg ed_int) rfl, fun z' h => by cases h⟩
  obtain ⟨key, hkey, hkz⟩ := last
  refine ⟨x, hx, ?_⟩
  refine ⟨_, hj, pp, rfl, .inl ⟨kvs, .inl hk1⟩, ?_⟩
  refine hkey H1 (Ex.refl H1) _ fun y H2 e2 ty => ?_
  rw [ty.key_inv]
  refine ⟨x, hx, valV kvs key, DGet.k (e2 _ _ hk1), ?_⟩
  refine ⟨Evl.sz_of (by simp), fun pl npl => ?_⟩
  have e3 : Ex H2 (upd H2 pl (.lst [x, (valV kvs key).getD x])) := Ex.new npl
  have hpl : (upd H2 pl (.lst [x, (valV kvs key).getD x])) pl = some (.lst [x, (valV kvs key).getD x]) := upd_same
  generalize upd H2 pl (.lst [x, (valV kvs key).getD x]) = H3 at e3 hpl ⊢
  have e13 := e2.trans e3
  cases t with
  | val c =>
    refine (ev_eqSV (K := K) (a := "value") (b := "var") (σ := σ) (H := H3) (ed_ix (ed_var hx (tx1.mono_ex e13)) ed_int at0) ed_str) H3 (Ex.refl H3) _ fun H4 e4 => .inr ⟨_, rfl, ?_⟩
    rw [show decide (("value" : Str) = "var") = false by decide +kernel]
    exact ⟨pl, _, 0, x, rfl, rfl, SqL.of (e4 _ _ hpl), rfl, q x H4 (e13.trans e4) (tx1.mono_ex (e13.trans e4))⟩
  | var z =>
    have ek := hkz z rfl
    subst ek
    refine (ev_eqSV (K := K) (a := "var") (b := "var") (σ := σ) (H := H3) (ed_ix (ed_var hx (tx1.mono_ex e13)) ed_int at0) ed_str) H3 (Ex.refl H3) _ fun H4 e4 => .inr ⟨_, rfl, ?_⟩
    rw [show decide (("var" : Str) = "var") = true by decide +kernel]
    have hv : TD K H1 ((valV kvs (.inr z)).getD x) (subT b (.var z)).d := by
      show TD K H1 _ ((tGet b z).getD (.var z)).d
      rcases hk2.get (.inr z) with ⟨h1, h2⟩ | ⟨v, d, h1, h2, h3⟩
      · rw [ps_get] at h2
        rw [h1, Option.map_eq_none_iff.mp h2]
        exact tx1
      · rw [ps_get] at h2
        obtain ⟨u, hu, rfl⟩ := Option.map_eq_some_iff.mp h2
        rw [h1, hu]
        exact h3
    exact ⟨pl, _, 1, _, rfl, rfl, SqL.of (e4 _ _ hpl), rfl, q _ H4 (e13.trans e4) (hv.mono_ex (e13.trans e4))⟩
/-! ### _law_special -/
def spSpecial (K : PySem.W.Frag) : Sp := fun vs H Q _ => ∃ v z r, vs = [v, .int z] ∧ TD K H v (Rl.d r) ∧ LR 3 r ∧ ∀ v' r' H', Ex H H' → TD K H' v' (Rl.d r') → LR 4 r' → Q v' H'
theorem sc__law_special : FnScope ["rule", "number", "box", "places", "name", "body", "literal", "head", "terms", "term"] ["rule", "number"] (defScope s_law_special) := C8.fnScope_by (by decide +kernel)
theorem okAB : PyData.strOk ("A" : Str) = true ∧ PyData.strOk ("B" : Str) = true := by
  constructor <;> decide +kernel
theorem cal__law_special (F : FnP K "_law_special" "_law_special" s_law_special f fd) (gm : mg "_law_special" = some (.ref f)) (T : Bl mg) (c__law_take : C8.Cal P w K mg base 1 "_law_take" spTake []) (c__law_const : C8.Cal P w K mg base 2 "_law_const" spConst []) : C8.Cal P w K mg base 3 "_law_special" (spSpecial K) [] := by
  refine mkCal F gm sc__law_special (fun _ _ _ _ _ _ us hl => match us, hl with | [_, _], _ => rfl) (fun vs H Q E h => ?_) (fun cdv A outer s H vs Q E hr h => ?_)
  · obtain ⟨v, z, r, rfl, _⟩ := h
    rfl
  · obtain ⟨v, z, r, rfl, tv, lr, k⟩ := h
    have hu := hu_of hr
    refine ⟨_, (pss_cons (ps_set (i := 2) sc__law_special.nd rfl (Or.inl rfl) (pe_lst (pa_cons (pv 1) pa_nil)))
      (pss_cons (ps_set (i := 3) sc__law_special.nd rfl (Or.inr rfl) pe_dnewK)
      (pss_cons (ps_for PassesOwn.never rfl (pi_list (pe_lst (pa_cons pe_str (pa_cons pe_str (pa_cons pe_str pa_nil))))) (pg_name (i := 4) sc__law_special.nd rfl (Or.inl rfl))
      (pss_one (ps_dput hu (pv 3) (pv 4) (pe_ix ix_list (pe_lst (pa_cons (pe_tup (pa_cons pe_str (pa_cons pe_str pa_nil))) (pa_cons (pe_tup (pa_cons pe_str (pa_cons pe_str pa_nil))) (pa_cons (pe_tup (pa_cons pe_str (pa_cons (C8.pe_c c__law_const hr (by decide) rfl (pa_cons (pv 2) pa_nil)) pa_nil))) pa_nil)))) (C8.pe_c c__law_take hr (by decide) rfl (pa_cons (pv 2) (pa_cons pe_int pa_nil))) (fun _ _ => rfl)) rfl)))
      (pss_cons (ps_set (i := 5) sc__law_special.nd rfl (Or.inl rfl) (pe_lst pa_nil))
      (pss_cons (ps_for PassesOwn.never rfl (pi_tup (pe_ix ix_tup (pv 0) (pe_un un_neg pe_int) (fun _ _ => rfl))) (pg_name (i := 6) sc__law_special.nd rfl (Or.inl rfl))
      (pss_cons (ps_set (i := 8) sc__law_special.nd rfl (Or.inl rfl) (pe_callTy call_tuple_of (by rfl) T.f_tuple (by decide +kernel) (pa_cons (pe_lc (own := [("term", 9)]) (g := gName 9) rfl sc__law_special.nd (pi_tup (pe_ix ix_tup (pe_ix ix_tup (pv 6) pe_int (fun _ _ => rfl)) pe_int (fun _ _ => rfl))) (blkOk_by (own := [("term", 9)]) (N := ["rule", "number", "box", "places", "name", "body", "literal", "head", "terms", "term"]) (sc := defScope s_law_special) (by decide +kernel)) (fun _ _ _ _ _ => (pg_name (i := 9) sc__law_special.nd rfl (Or.inl rfl))) (fun _ _ _ _ _ => pts_nil) (fun _ _ _ _ _ => (pe_ix (r := rIxL K) ix_list (pe_lst (pa_cons (pv 9) (pa_cons (pe_dget2 (td := tVar 3) (ty := tOp (rIxT K) (tVar 9) (tUn (rU fun i => .int (-i)) (tC (.int 1)))) (tx := tVar 9) hu (pv 3) (pe_ix (r := rIxT K) ix_tup (pv 9) (pe_un un_neg pe_int) (fun _ _ => rfl)) (pv 9) ⟨rfl, rfl, rfl, rfl⟩) pa_nil))) (pe_callTy call_int1 (by rfl) T.f_int (by decide +kernel) (pa_cons (pe_cmpR op_eq (pe_ix (r := rIxT K) ix_tup (pv 9) pe_int (fun _ _ => rfl)) pe_str (nomark _)) pa_nil)) (fun _ _ => rfl)))) pa_nil)))
        (pss_one (ps_expr (pe_bm PySem.F.plainAttrs_list PySem.F.slot_list_append PySem.F.type_list_append mt_append (pv 5) (pa_cons (pe_tup (pa_cons pe_str (pa_cons (pe_tup (pa_cons (pe_ix ix_tup (pe_ix ix_tup (pv 6) pe_int (fun _ _ => rfl)) pe_int (fun _ _ => rfl)) (pa_cons (pv 8) pa_nil))) pa_nil))) pa_nil))))))
      (pss_cons (ps_set (i := 7) sc__law_special.nd rfl (Or.inl rfl) (pe_callTy call_tuple_of (by rfl) T.f_tuple (by decide +kernel) (pa_cons (pe_lc (own := [("term", 9)]) (g := gName 9) rfl sc__law_special.nd (pi_tup (pe_ix ix_tup (pe_ix ix_tup (pv 0) pe_int (fun _ _ => rfl)) pe_int (fun _ _ => rfl))) (blkOk_by (own := [("term", 9)]) (N := ["rule", "number", "box", "places", "name", "body", "literal", "head", "terms", "term"]) (sc := defScope s_law_special) (by decide +kernel)) (fun _ _ _ _ _ => (pg_name (i := 9) sc__law_special.nd rfl (Or.inl rfl))) (fun _ _ _ _ _ => pts_nil) (fun _ _ _ _ _ => (pe_ix (r := rIxL K) ix_list (pe_lst (pa_cons (pv 9) (pa_cons (pe_dget2 (td := tVar 3) (ty := tOp (rIxT K) (tVar 9) (tUn (rU fun i => .int (-i)) (tC (.int 1)))) (tx := tVar 9) hu (pv 3) (pe_ix (r := rIxT K) ix_tup (pv 9) (pe_un un_neg pe_int) (fun _ _ => rfl)) (pv 9) ⟨rfl, rfl, rfl, rfl⟩) pa_nil))) (pe_callTy call_int1 (by rfl) T.f_int (by decide +kernel) (pa_cons (pe_cmpR op_eq (pe_ix (r := rIxT K) ix_tup (pv 9) pe_int (fun _ _ => rfl)) pe_str (nomark _)) pa_nil)) (fun _ _ => rfl)))) pa_nil)))
      (pss_one (ps_ret (pe_tup (pa_cons pe_str (pa_cons (pe_tup (pa_cons pe_str (pa_cons (pv 7) pa_nil))) (pa_cons (pe_callTy call_tuple_of (by rfl) T.f_tuple (by decide +kernel) (pa_cons (pe_op op_cat (pe_slice sl_list (pv 5) (po_some (pe_op op_mul (C8.pe_c c__law_take hr (by decide) rfl (pa_cons (pv 2) (pa_cons pe_int pa_nil))) (pe_callTy call_int1 (by rfl) T.f_int (by decide +kernel) (pa_cons (pe_cmpR op_gt (pe_callB call_len (by rfl) T.f_len PySem.boot_len (pa_cons (pv 5) pa_nil)) pe_int (nomark _)) pa_nil)))) po_none) (pe_slice sl_list (pv 5) po_none (po_some pe_int))) pa_nil)) pa_nil)))))))))))), ?_⟩
    refine Evl.q_asgL (xs := [.int z]) (Evl.el_lst (Evl.ea_cons (Evl.ev_var rfl) Evl.ea_nil) (by simp)) fun b H1 nb e1 hb => ?_
    refine q_asgNewK fun pp H2 npp e2 hpp => ?_
    have npp0 : H pp = none := Evl.fresh_back e1 npp
    have ppb : pp ≠ b := (ne_of_none hb npp).symm
    have e12 := e1.trans e2
    -- places
    refine Evl.q_forNLn (xs := (["X", "Y", "Z"] : List Str).map V.str) (Evl.el_lst (Evl.ea_cons Evl.ev_c (Evl.ea_cons Evl.ev_c (Evl.ea_cons Evl.ev_c Evl.ea_nil))) (by simp)) (fun pn i σ' H' => ∃ o4 bp, σ' = [some v, some (.int z), some (.ref b), some (.ref pp), o4, none, none, none, none, none] ∧ Ex H H' ∧ BoxAt H' b ∧ pn ≠ b ∧ H' pn = some (.lst ((["X", "Y", "Z"] : List Str).map V.str)) ∧ PlAt K H' pp bp ∧ bp.map (·.1) = (["X", "Y", "Z"] : List Str).take i) (fun pn H3 npn e3 hpn => ?_) (fun pn i σ' H' _ pv => ?_) (fun pn i y σ' H' hy pv => ?_) ?_
    · exact ⟨_, [], rfl, e12.trans e3, ⟨z, (e2.trans e3) _ _ hb⟩, (fun q => by rw [q, e2 _ _ hb] at npn; cases npn), hpn, ⟨[], e3 _ _ hpp, .nil, List.nodup_nil, fun _ z => by cases z⟩, rfl⟩
    · obtain ⟨_, _, _, _, _, _, h, _⟩ := pv
      exact SqL.of h
    · obtain ⟨o4, bp, rfl, eH, bx, pnb, hpn, hpl, hnames⟩ := pv
      rw [List.getElem?_map] at hy
      obtain ⟨x, hx, rfl⟩ := Option.map_eq_some_iff.mp hy
      have il : i < 3 := (List.getElem?_eq_some_iff.mp hx).1
      obtain ⟨kvs, hk1, hk2, hk3, hk4⟩ := hpl
      refine dputIx (consT ?_)
      refine ⟨Evl.sz_of (by simp), fun q1 n1 => consT ?_⟩
      refine ⟨Evl.sz_of (by simp), fun q2 n2 => consT ?_⟩
      have f1 : Ex H' (upd H' q1 (.tup [.str "var", .str "A"])) := Ex.new n1
      have f2 : Ex (upd H' q1 (.tup [.str "var", .str "A"])) (upd (upd H' q1 (.tup [.str "var", .str "A"])) q2 (.tup [.str "var", .str "B"])) := Ex.new n2
      have t1 : (upd (upd H' q1 (.tup [.str "var", .str "A"])) q2 (.tup [.str "var", .str "B"])) q1 = some (.tup [.str "var", .str "A"]) := f2 _ _ upd_same
      have t2 : (upd (upd H' q1 (.tup [.str "var", .str "A"])) q2 (.tup [.str "var", .str "B"])) q2 = some (.tup [.str "var", .str "B"]) := upd_same
      have f12 := f1.trans f2
      refine ⟨_, rfl, b, rfl, bx.ex f12, fun c H4 fr4 bx4 okc => ?_⟩
      have fr04 : FrB b H' H4 := (FrB.of_ex f12).trans fr4
      have tn : ∀ {p : Addr} {xs : List V}, (upd (upd H' q1 (.tup [.str "var", .str "A"])) q2 (.tup [.str "var", .str "B"])) p = some (.tup xs) → H4 p = some (.tup xs) := fun {p xs} h => fr4.tx (bx.ex f12) _ _ h
      refine ⟨Evl.sz_of (by simp), fun q3 n3 => ?_⟩
      refine ⟨Evl.sz_of (by simp), fun pl npl => ?_⟩
      have f5 : Ex H4 (upd H4 q3 (.tup [.str "value", kV c])) := Ex.new n3
      have f6 : Ex (upd H4 q3 (.tup [.str "value", kV c])) (upd (upd H4 q3 (.tup [.str "value", kV c])) pl (.lst [.ref q1, .ref q2, .ref q3])) := Ex.new npl
      have f56 := f5.trans f6
      obtain ⟨z6, hz6⟩ := bx4.ex f56
      have plb : pl ≠ b := fun q => by
        obtain ⟨y, hy⟩ := bx4.ex f5
        rw [q, hy] at npl
        cases npl
      refine ⟨_, rfl, b, z6, 3, rfl, hz6, by decide, by decide, fun d H7 fr7 bx7 hd => ?_⟩
      have bx6 : BoxAt (upd (upd H4 q3 (.tup [.str "value", kV c])) pl (.lst [.ref q1, .ref q2, .ref q3])) b := ⟨z6, hz6⟩
      have tx67 := fr7.tx bx6
      have val : ∃ (u : Tm) (q : Addr), [V.ref q1, V.ref q2, V.ref q3][d]? = some (.ref q) ∧ TD K H7 (.ref q) u.d ∧ u.ok = true := by
        match d, hd with
        | 0, _ => exact ⟨.var "A", q1, rfl, (tdVar (f56 _ _ (tn t1))).mono tx67, okAB.1⟩
        | 1, _ => exact ⟨.var "B", q2, rfl, (tdVar (f56 _ _ (tn t2))).mono tx67, okAB.2⟩
        | 2, _ => exact ⟨.val c, q3, rfl, (tdVal (f6 _ _ upd_same)).mono tx67, by cases c with
          | inl j => rfl
          | inr x => exact okc⟩
      obtain ⟨u, q, hq, tu, oku⟩ := val
      have fr07 : FrB b H' H7 := (fr04.trans (FrB.of_ex f56)).trans fr7
      refine ⟨pl, _, (d : Int), .ref q, rfl, rfl, SqL.of (fr7 _ _ upd_same plb), atI_nat hq, ?_⟩
      have hk7 := fr07 _ _ hk1 ppb
      have kd7 : KvD K H7 kvs (psOf bp) := hk2.mono (fr07.tx bx)
      have hxn : x ∉ bp.map (·.1) := by
        rw [hnames]
        exact not_before (xs := (["X", "Y", "Z"] : List Str)) (by decide +kernel) hx
      have hst : stepT (.var x) u bp = some (bp ++ [(x, u)]) := by
        unfold stepT
        simp only
        rw [tGet_not hxn]
      obtain ⟨g1, g2⟩ := kvd_put tu kd7 hk3 hst
      have kl : kvs.length ≤ 3 := by
        have h1 := kd7.length
        have h2 : (psOf bp).length = bp.length := by unfold psOf; rw [List.length_map]
        have h3 : bp.length = (bp.map (·.1)).length := by rw [List.length_map]
        have h4 : ((["X", "Y", "Z"] : List Str).take i).length ≤ 3 := by rw [List.length_take]; exact Nat.min_le_right _ _
        rw [hnames] at h3
        omega
      have zz : sizeLine = 16777216 := sizeLine_eq
      refine ⟨_, rfl, _, rfl, pp, _, rfl, DPut.k (k := Sum.inr x) hk7 (by omega), ?_⟩
      refine ⟨_, bp ++ [(x, u)], rfl, ?_, ?_, pnb, ?_, ⟨_, upd_same, g1.mono (TX.dK hk7), g2, step_ok oku hk4 hst⟩, ?_⟩
      · exact Ex.mut (fun a o h => fr07 _ _ (eH _ _ h) (ne_of_none h nb)) npp0
      · obtain ⟨y, hy⟩ := bx7
        exact ⟨y, by rw [upd_ne ppb.symm]; exact hy⟩
      · rw [upd_ne (ne_of hpn hk1 fun z => by cases z)]
        exact fr07 _ _ hpn pnb
      · rw [List.map_append, hnames, List.take_add_one, hx]
        rfl
    rintro pn σ' H3 ⟨o4, bp, rfl, eH3, bx3, _, _, hpl3, _⟩
    refine Evl.q_asgL (xs := []) (Evl.el_lst Evl.ea_nil (by decide)) fun pb H4 npb e4 hpb => ?_
    have npb0 : H pb = none := Evl.fresh_back eH3 npb
    have pbb : pb ≠ b := fun q => by
      obtain ⟨y, hy⟩ := bx3
      rw [q, hy] at npb
      cases npb
    have okpl : ∀ p ∈ bp, p.2.ok = true := let ⟨_, _, _, _, h⟩ := hpl3; h
    have mapped : ∀ {σ0 : L2.St} {H0 : Hp} {ts : List Tm} {tl : TE}, σ0[3]? = some (some (.ref pp)) → σ0.length = 10 → PlAt K H0 pp bp → ts.length ≤ 100 → EvD K tl σ0 H0 (.tuple (ts.map Tm.d)) → EvD K (tCB (fun xs H Q => ∃ p ys, xs = [.ref p] ∧ ((SqL K H p ys ∧ ∀ l, H l = none → Q (.ref l) (upd H l (.tup ys))) ∨ (SqT K H p ys ∧ Q (.ref p) H))) (tCons (tLc (iTup K tl) (gName 9) tYes (tOp (rIxL K) (tLst (tCons (tVar 9) (tCons (tDGet2 (tVar 3) (tOp (rIxT K) (tVar 9) (tUn (rU fun i => .int (-i)) (tC (.int 1)))) (tVar 9)) tNil))) (tCB rInt1 (tCons (tOp rEq (tOp (rIxT K) (tVar 9) (tC (.int 0))) (tC (.str "var"))) tNil))) [9]) tNil)) σ0 H0 (.tuple ((ts.map (subT bp)).map Tm.d)) := fun {σ0 H0 ts tl} h3 hl10 hpl hlen htl => by
      have key := eld_lcT (K := K) (σ := σ0) (H := H0) (ts := ts) (enc := Tm.d) (j := 9) (vs := [9]) (tl := tl) (tt := tYes) (te := tOp (rIxL K) (tLst (tCons (tVar 9) (tCons (tDGet2 (tVar 3) (tOp (rIxT K) (tVar 9) (tUn (rU fun i => .int (-i)) (tC (.int 1)))) (tVar 9)) tNil))) (tCB rInt1 (tCons (tOp rEq (tOp (rIxT K) (tVar 9) (tC (.int 0))) (tC (.str "var"))) tNil))) (fun _ => true) (fun t => (subT bp t).d) htl (by omega) wipe1 (fun _ _ _ _ _ _ => et_yes) fun t x H1 _ e1 tx _ => ed_mapped (i := 9) (j := 3) (by
          show ((σ0.set 9 none).set 9 (some x))[9]? = _
          rw [List.set_set, List.getElem?_set_self (by omega)]) tx (by
          show ((σ0.set 9 none).set 9 (some x))[3]? = _
          rw [List.set_set, List.getElem?_set_ne (by decide)]
          exact h3) (hpl.mono e1)
      rw [filter_yes] at key
      exact ed_tupleOf (by rw [List.map_map]; exact key)
    -- the body
    refine q_forD (ds := r.bd.map litD) (ed_ix (ed_var rfl (tv.mono_ex (eH3.trans e4))) (ed_neg ed_int) at3) (fun G i σ' H' => ∃ o6 o8 xs, σ' = [some v, some (.int z), some (.ref b), some (.ref pp), o4, some (.ref pb), o6, none, o8, none] ∧ TX G H' ∧ Ex H3 H' ∧ H' pb = some (.lst xs) ∧ TDs K H' xs (((r.bd.take i).map fun a => (a.1, a.2.map (subT bp))).map litD)) (fun G e5 => ⟨_, _, [], rfl, TX.refl _, e4.trans e5, e5 _ _ hpb, by rw [List.take_zero]; exact .nil⟩) (fun G i σ' H' pv => let ⟨_, _, _, _, t, _⟩ := pv; t) ?_ ?_
    · rintro G i d x σ' H' hd tx ⟨o6, o8, xs, rfl, tG, e5, hpb5, tds⟩
      rw [List.getElem?_map] at hd
      obtain ⟨a, ha, rfl⟩ := Option.map_eq_some_iff.mp hd
      have am : a ∈ r.bd := List.mem_of_getElem? ha
      have al : a.2.length ≤ 2 := by rw [lr.wid a am]; exact (width_le a.1).2
      have tk : (r.bd.take (i + 1)).map (fun a => (a.1, a.2.map (subT bp))) = (r.bd.take i).map (fun a => (a.1, a.2.map (subT bp))) ++ [(a.1, a.2.map (subT bp))] := by
        rw [List.take_add_one, ha, Option.toList_some, List.map_append] <;> rfl
      have l1 := tds.length
      rw [List.length_map, List.length_map, List.length_take] at l1
      have bm := lr.bm
      refine q_asgD (mapped (ts := a.2) rfl rfl (hpl3.mono e5) (by omega) (ed_atT (ed_var rfl tx))) fun v8 H6 e6 t8 => ?_
      refine s_appD (l := pb) (xs := xs) (e6 _ _ hpb5) (Evl.ev_var rfl) (d := litD (a.1, a.2.map (subT bp))) (ed_tup (eds_cons ed_str (eds_cons (ed_tup (eds_cons (show EvD K _ _ _ (.str a.1) from ed_atN (a := a) (ed_var rfl (tx.mono_ex e6))) (eds_cons (ed_var rfl t8) eds_nil)) (by simp)) eds_nil)) (by simp)) (by omega) fun v9 H7 e7 t9 => ?_
      have hpb7 := (e6.trans e7) _ _ hpb5
      refine ⟨_, _, xs ++ [v9], rfl, (tG.trans (TX.of_ex (e6.trans e7))).trans (TX.lst hpb7), Ex.mut (e5.trans (e6.trans e7)) npb, upd_same, ?_⟩
      rw [tk, List.map_append]
      exact ((tds.mono_ex (e6.trans e7)).snoc t9).mono (TX.lst hpb7)
    · rintro G σ' H5 ⟨o6, o8, xs, rfl, tG, e5, hpb5, tds⟩
      rw [List.length_map, List.take_length] at tds
      generalize hbd : (r.bd.map fun a => (a.1, a.2.map (subT bp))) = bd at tds
      have eH5 := eH3.trans e5
      refine q_asgD (mapped (ts := r.ht) rfl rfl (hpl3.mono e5) (by rw [lr.ht]; decide) (ed_rHt (ed_var rfl (tv.mono_ex eH5)))) fun v7 H6 e6 t7 => ?_
      have bl : bd.length = r.bd.length := by rw [← hbd, List.length_map]
      have xl : xs.length = bd.length := by rw [tds.length, List.length_map]
      have hb1 := lr.b1
      have hbm := lr.bm
      refine retRule3 (d2 := .tuple [.str "d4", .tuple ((r.ht.map (subT bp)).map Tm.d)]) (ed_tup (eds_cons ed_str (eds_cons (ed_var rfl t7) eds_nil)) (by simp)) fun y H7 e7 ty => ?_
      have e57 := e6.trans e7
      obtain ⟨z7, hz7⟩ := bx3.ex (e5.trans e57)
      have hpb7 := e57 _ _ hpb5
      refine cb1 (catSl (l := pb) rfl ?_)
      refine ⟨_, rfl, b, z7, 2, rfl, hz7, by decide, by decide, fun d H8 fr8 bx8 hd => ?_⟩
      have hpb8 := fr8 _ _ hpb7 pbb
      refine (ev_int1B (ev_gtV (K := K) (ta := tCB (rLenV K) (tCons (tVar 5) tNil)) (tb := tC (.int 1)) (σ := [some v, some (.int z), some (.ref b), some (.ref pp), o4, some (.ref pb), o6, some v7, o8, none]) (H := H8) (ed_lenL (Evl.ev_var rfl) hpb8) ed_int)) H8 (Ex.refl H8) _ fun H9 e9 => ?_
      obtain ⟨j, hj, hj1⟩ : ∃ j : Nat, (d : Int) * (if decide ((1 : Int) < (xs.length : Int)) = true then 1 else 0) = (j : Int) ∧ j ≤ 1 := by
        by_cases q : decide ((1 : Int) < (xs.length : Int)) = true
        · exact ⟨d, by rw [if_pos q, Int.mul_one], by omega⟩
        · exact ⟨0, by rw [if_neg q, Int.mul_zero]; rfl, by omega⟩
      refine ⟨_, _, rfl, rfl, .inl ⟨by omega, by omega⟩, (j : Int), congrArg V.int hj, ?_⟩
      have hpb9 := e9 _ _ hpb8
      refine ⟨pb, xs, rfl, SqL.of hpb9, fun p1 np1 => ?_⟩
      rw [cut_drop (by omega)]
      have e10 : Ex H9 (upd H9 p1 (.lst (xs.drop j))) := Ex.new np1
      have hp1 : (upd H9 p1 (.lst (xs.drop j))) p1 = some (.lst (xs.drop j)) := upd_same
      generalize upd H9 p1 (.lst (xs.drop j)) = H10 at e10 hp1 ⊢
      refine (Evl.el_sl (K := K) (te := tVar 5) (tl := tNoPart) (th := tPart (tC (.int 1))) (σ := [some v, some (.int z), some (.ref b), some (.ref pp), o4, some (.ref pb), o6, some v7, o8, none]) (H := H10) (a := pb) (xs := xs) (lo := none) (hi := some 1) (Evl.ev_var rfl) Evl.eo_none (Evl.eo_some Evl.ev_c) (SqL.of (e10 _ _ hpb9))) H10 (Ex.refl H10) _ fun p2 H11 np2 e11 hp2 => ?_
      rw [cut_take (by omega)] at hp2
      have zz : sizeLine = 16777216 := sizeLine_eq
      refine ⟨p1, p2, xs.drop j, xs.take 1, rfl, rfl, e11 _ _ hp1, hp2, by rw [List.length_drop, List.length_take]; omega, fun pc npc => ?_⟩
      have e12' : Ex H11 (upd H11 pc (.lst (xs.drop j ++ xs.take 1))) := Ex.new npc
      have hpc : (upd H11 pc (.lst (xs.drop j ++ xs.take 1))) pc = some (.lst (xs.drop j ++ xs.take 1)) := upd_same
      generalize upd H11 pc (.lst (xs.drop j ++ xs.take 1)) = H12 at e12' hpc ⊢
      refine ⟨pc, _, rfl, .inl ⟨SqL.of hpc, fun l nl => ?_⟩⟩
      refine ⟨Evl.sz_of (by simp), fun pr_ npr => ?_⟩
      have e13 : Ex H12 (upd H12 l (.tup (xs.drop j ++ xs.take 1))) := Ex.new nl
      have e14 : Ex (upd H12 l (.tup (xs.drop j ++ xs.take 1))) (upd (upd H12 l (.tup (xs.drop j ++ xs.take 1))) pr_ (.tup [.str "rule", y, .ref l])) := Ex.new npr
      have e8e : Ex H8 (upd (upd H12 l (.tup (xs.drop j ++ xs.take 1))) pr_ (.tup [.str "rule", y, .ref l])) := ((((e9.trans e10).trans e11).trans e12').trans e13).trans e14
      have tx78 : TX H7 H8 := fr8.tx ⟨z7, hz7⟩
      have tdE : TDs K (upd (upd H12 l (.tup (xs.drop j ++ xs.take 1))) pr_ (.tup [.str "rule", y, .ref l])) (xs.drop j ++ xs.take 1) ((bd.drop j ++ bd.take 1).map litD) := by
        have t0 := ((tds.mono_ex e57).mono tx78).mono_ex e8e
        rw [List.map_append, List.map_drop, List.map_take]
        exact (tds_drop (ds := []) j t0).app (tds_take (ds := []) 1 t0)
      refine k _ ⟨"d4", r.ht.map (subT bp), bd.drop j ++ bd.take 1⟩ _ (fun a o h => e8e _ _ (fr8 _ _ ((eH5.trans e57) _ _ h) (ne_of_none h nb))) (.tup (.inl upd_same) (.cons (.str _) (.cons ((ty.mono tx78).mono_ex e8e) (.cons (.tup (.inl (e14 _ _ upd_same)) tdE) .nil)))) ?_
      have inbd : ∀ a ∈ bd.drop j ++ bd.take 1, ∃ a0 ∈ r.bd, a = (a0.1, a0.2.map (subT bp)) := fun a ha => by
        have : a ∈ bd := by
          rcases List.mem_append.mp ha with h | h
          · exact List.mem_of_mem_drop h
          · exact List.mem_of_mem_take h
        rw [← hbd] at this
        obtain ⟨a0, h0, rfl⟩ := List.mem_map.mp this
        exact ⟨a0, h0, rfl⟩
      refine ⟨rfl, by show (r.ht.map (subT bp)).length = 2; rw [List.length_map]; exact lr.ht, ?_, ?_, fun a ha => ?_, fun t ht => ?_, fun a ha t ht => ?_, fun x hx => ?_⟩
      · show 1 ≤ (bd.drop j ++ bd.take 1).length
        rw [List.length_append, List.length_drop, List.length_take]
        omega
      · show (bd.drop j ++ bd.take 1).length ≤ 4
        rw [List.length_append, List.length_drop, List.length_take]
        omega
      · obtain ⟨a0, h0, rfl⟩ := inbd a ha
        show (a0.2.map (subT bp)).length = widthOf a0.1
        rw [List.length_map]
        exact lr.wid a0 h0
      · obtain ⟨t0, h0, rfl⟩ := List.mem_map.mp ht
        exact subT_ok okpl (lr.okh t0 h0)
      · obtain ⟨a0, h0, rfl⟩ := inbd a ha
        obtain ⟨t0, h1, rfl⟩ := List.mem_map.mp ht
        exact subT_ok okpl (lr.okb a0 h0 t0 h1)
      · obtain ⟨t0, h0, e0⟩ := List.mem_map.mp hx
        cases t0 with
        | val c => cases e0
        | var y0 =>
          obtain ⟨a0, h1, h2⟩ := lr.hi y0 h0
          refine ⟨(a0.1, a0.2.map (subT bp)), mem_cut hj1 ?_, ?_⟩
          · rw [← hbd]
            exact List.mem_map.mpr ⟨a0, h1, rfl⟩
          · rw [← e0]
            exact List.mem_map.mpr ⟨_, h2, rfl⟩
end
end K86
end
section
set_option maxRecDepth 100000
set_option maxHeartbeats 4000000
namespace K86
open PySem PySem.Spec PyProof.Rows L2 HF
open Evl (Ex Ev EvT EvL EvU EvA)
theorem widthOf_le (x : Str) : widthOf x ≤ 2 := by
  unfold widthOf
  split <;> omega
theorem pairLR {m n : Nat} {r1 r2 : Rl} (a : LR m r1) (b : LR n r2) (h : n ^ m ≤ 200) (hm : m ≤ 4) : Pair r1 r2 := by
  have hn : 1 ≤ n := Nat.le_trans b.b1 b.bm
  refine ⟨by rw [a.ht, b.ht], by rw [a.ht]; omega, a.okh, b.okh, a.okb, b.okb, fun x hx c hc e => ?_, fun x hx => ?_, ?_, b.b1, ?_⟩
  · rw [a.wid x hx, b.wid c hc, e]
  · rw [a.wid x hx]
    have := widthOf_le x.1
    omega
  · have := a.bm
    omega
  · exact Nat.le_trans (Nat.pow_le_pow_left b.bm _) (Nat.le_trans (Nat.pow_le_pow_right hn a.bm) h)
theorem LR.up {m n : Nat} {r : Rl} (a : LR m r) (h : m ≤ n) : LR n r := ⟨a.hn, a.ht, a.b1, Nat.le_trans a.bm h, a.wid, a.okh, a.okb, a.hi⟩
theorem LR.wl {m : Nat} {r : Rl} (a : LR m r) : ∀ x ∈ r.bd, x.2.length ≤ 20 := fun x hx => by
  rw [a.wid x hx]
  have := widthOf_le x.1
  omega
/-! the two rules that the law writes out -/
def wideR : Rl := ⟨"d4", [.var "X", .var "Y"], [("p", [.var "X", .var "Y"])]⟩
def narrowR : Rl := ⟨"d4", [.var "X", .var "X"], [("p", [.var "X", .var "X"])]⟩
theorem lrWide : LR 1 wideR := by
  refine ⟨rfl, rfl, by decide, by decide, by decide +kernel, by decide +kernel, by decide +kernel, fun x hx => ?_⟩
  exact ⟨_, List.mem_cons_self .., hx⟩
theorem lrNarrow : LR 1 narrowR := by
  refine ⟨rfl, rfl, by decide, by decide, by decide +kernel, by decide +kernel, by decide +kernel, fun x hx => ?_⟩
  exact ⟨_, List.mem_cons_self .., hx⟩
theorem sub_wn : SubP wideR narrowR := by
  refine ⟨rfl, [("X", .var "X"), ("Y", .var "X")], [("X", .var "X"), ("Y", .var "X")], by decide +kernel, _, List.mem_cons_self .., [("X", .var "X"), ("Y", .var "X")], by decide +kernel, rfl⟩
theorem sub_nw : ¬ SubP narrowR wideR := fun h => by
  obtain ⟨_, b0, b, h0, _⟩ := h
  have e : stepZ (narrowR.ht.zip wideR.ht) (some []) = none := by decide +kernel
  rw [e] at h0
  cases h0
section
variable {P : Program} {w : World} {K : PySem.W.Frag} {mg : Str → Option Value} {base : Heap} {f : Addr} {fd : FuncData} {σ : L2.St} {H H' : Hp} {anyA CR CD : Addr}
theorem eld_lst {t : TA} {ds : List PyData} (h : EvDs K t σ H ds) (hl : ds.length ≤ 100000) : EvLD K (tLst t) σ H ds := fun H1 e Q q => h H1 e _ fun vs H2 e2 ts =>
  ⟨by have := ts.length; have zz : sizeLine = 16777216 := sizeLine_eq; omega, fun p np => q p vs _ (Evl.fresh_back e2 np) (e2.trans (Ex.new np)) upd_same (ts.mono_ex (Ex.new np))⟩
theorem sqL_rf {a : Addr} {xs : List V} (h : SqL K H a xs) (r : Rf H H') : SqL K H' a xs := h.imp (fun h => h.elim (fun h => .inl (r _ _ h fun φ z => by cases z)) fun ⟨o, h⟩ => .inr ⟨o, r _ _ h fun φ z => by cases z⟩) id
theorem q_forLD {tl : TE} {ds : List PyData} {g : TG} {tu tz : TS} {D : Ends} (h : EvLD K tl σ H ds)
    (q : ∀ p xs H1, H1 p = some (.lst xs) → Ex H H1 → TDs K H1 xs ds → ∃ Pv : Nat → L2.St → Hp → Prop, Pv 0 σ H1 ∧ (∀ i σ' H', Pv i σ' H' → SqL K H' p xs) ∧ (∀ i x σ' H', xs[i]? = some x → Pv i σ' H' → g x σ' H' fun σ2 H2 => tu { D with nx := Pv (i + 1), ct := Pv (i + 1), bk := tz D } σ2 H2) ∧ ∀ σ' H', Pv xs.length σ' H' → tz D σ' H') :
    tSeq (tFor (iList K tl) g tu) tz D σ H := h H (Ex.refl H) _ fun p xs H1 np e hp ts => by
  obtain ⟨Pw, p0, pl, ps, pd⟩ := q p xs H1 hp e ts
  exact ⟨p, rfl, ⟨xs, SqL.of hp⟩, for_list Pw p0 (fun i σ' H' _ v => pl i σ' H' v) ps pd⟩
theorem s_forLD {tl : TE} {ds : List PyData} {g : TG} {tu : TS} {D : Ends} (h : EvLD K tl σ H ds)
    (q : ∀ p xs H1, H1 p = some (.lst xs) → Ex H H1 → TDs K H1 xs ds → ∃ Pv : Nat → L2.St → Hp → Prop, Pv 0 σ H1 ∧ (∀ i σ' H', Pv i σ' H' → SqL K H' p xs) ∧ (∀ i x σ' H', xs[i]? = some x → Pv i σ' H' → g x σ' H' fun σ2 H2 => tu { D with nx := Pv (i + 1), ct := Pv (i + 1), bk := D.nx } σ2 H2) ∧ ∀ σ' H', Pv xs.length σ' H' → D.nx σ' H') :
    tFor (iList K tl) g tu D σ H := h H (Ex.refl H) _ fun p xs H1 np e hp ts => by
  obtain ⟨Pw, p0, pl, ps, pd⟩ := q p xs H1 hp e ts
  exact ⟨p, rfl, ⟨xs, SqL.of hp⟩, for_list Pw p0 (fun i σ' H' _ v => pl i σ' H' v) ps pd⟩
theorem ex_of_frb {b : Addr} {H2 : Hp} (nb : H b = none) (e : Ex H H') (f : FrB b H' H2) : Ex H H2 := fun a o h => f a o (e a o h) (ne_of_none h nb)
theorem q_ifCallGt {r : R2} {sp : Sp} {E : XK} {x : V} {t : TA} {tu tw tz : TS} {D : Ends} (h : t σ H fun vs H1 => sp (vs ++ []) H1 (fun v H2 => r v x H2 fun y H3 => ∃ c, y = .bl c ∧ if c = true then tu { D with nx := tz D } σ H3 else tw { D with nx := tz D } σ H3) E) : tSeq (tIfS (tTest (tOp r (tCall sp [] E t) (tC x))) tu tw) tz D σ H := h
theorem q_ifTT {T : TT} {tu tw tz : TS} {D : Ends} (h : T σ H fun c H1 => if c = true then tu { D with nx := tz D } σ H1 else tw { D with nx := tz D } σ H1) : tSeq (tIfS T tu tw) tz D σ H := h
theorem s_ifTT {T : TT} {tu tw : TS} {D : Ends} (h : T σ H fun c H1 => if c = true then tu D σ H1 else tw D σ H1) : tIfS T tu tw D σ H := h
theorem ifAsgR {c : Bool} {te : TE} {i : Nat} {D : Ends} {v0 : V} {G : V → Hp → Prop} (rest : ∀ v H1, G v H1 → D.nx (σ.set i (some v)) H1) (h0 : σ.set i (some v0) = σ) (hg : c = false → G v0 H) (h1 : c = true → ∀ Q : VK, (∀ v H1, G v H1 → Q v H1) → te σ H Q) :
    if c = true then tAsg te (gName i) D σ H else tNext D σ H := by
  cases c with
  | true => exact iteT (h1 rfl _ rest)
  | false =>
    refine iteF ?_
    have g := rest v0 H (hg rfl)
    rw [h0] at g
    exact g
section
variable {i j n : Nat} {v u : V} {r1 r2 : Rl} {E : XK} {t : TT} {Q : Bool → Hp → Prop}
theorem or_notMakes (hi : σ[i]? = some (some v)) (hj : σ[j]? = some (some u)) (tv : TD K H v r1.d) (tu : TD K H u r2.d) (pr : Pair r1 r2) (h1 : HeadIn r1) (h2 : HeadIn r2) (h3 : r2.bd.length ≤ 20) (h4 : ∀ a ∈ r2.bd, a.2.length ≤ 20) (s : SubP r1 r2) (k : ∀ H1, Rf H H1 → t σ H1 Q) :
    tOr (tNot (tB (tCall (spMakes K) [] E (tCons (tVar i) (tCons (tVar j) tNil))))) t σ H Q := ⟨v, hi, u, hj, v, u, r1, r2, rfl, tv, tu, pr, h1, h2, h3, h4, fun r H1 f hr => ⟨r, rfl, by
    rw [hr.mpr s]
    exact iteF (k H1 f)⟩⟩
theorem or_makes (hi : σ[i]? = some (some v)) (hj : σ[j]? = some (some u)) (tv : TD K H v r1.d) (tu : TD K H u r2.d) (pr : Pair r1 r2) (h1 : HeadIn r1) (h2 : HeadIn r2) (h3 : r2.bd.length ≤ 20) (h4 : ∀ a ∈ r2.bd, a.2.length ≤ 20) (s : ¬ SubP r1 r2) (k : ∀ H1, Rf H H1 → t σ H1 Q) :
    tOr (tB (tCall (spMakes K) [] E (tCons (tVar i) (tCons (tVar j) tNil)))) t σ H Q := ⟨v, hi, u, hj, v, u, r1, r2, rfl, tv, tu, pr, h1, h2, h3, h4, fun r H1 f hr => ⟨r, rfl, by
    rw [Bool.eq_false_iff.mpr fun e => s (hr.mp e)]
    exact iteF (k H1 f)⟩⟩
theorem or_notSub (hi : σ[i]? = some (some v)) (hj : σ[j]? = some (some u)) (tv : TD K H v r1.d) (tu : TD K H u r2.d) (pr : Pair r1 r2) (s : SubP r1 r2) (k : ∀ H1, Ex H H1 → t σ H1 Q) :
    tOr (tNot (tB (tCall (spSub K) [] E (tCons (tVar i) (tCons (tVar j) tNil))))) t σ H Q := ⟨v, hi, u, hj, v, u, r1, r2, rfl, tv, tu, pr, fun r H1 f hr => ⟨r, rfl, by
    rw [hr.mpr s]
    exact iteF (k H1 f)⟩⟩
theorem t_sub (hi : σ[i]? = some (some v)) (hj : σ[j]? = some (some u)) (tv : TD K H v r1.d) (tu : TD K H u r2.d) (pr : Pair r1 r2) (s : ¬ SubP r1 r2) (k : ∀ H1, Ex H H1 → Q false H1) :
    tB (tCall (spSub K) [] E (tCons (tVar i) (tCons (tVar j) tNil))) σ H Q := ⟨v, hi, u, hj, v, u, r1, r2, rfl, tv, tu, pr, fun r H1 f hr => ⟨r, rfl, by
    rw [Bool.eq_false_iff.mpr fun e => s (hr.mp e)]
    exact k H1 f⟩⟩
theorem or_notIsB {b : Bool} (hi : σ[i]? = some (some (.bl b))) (k : t σ H Q) : tOr (tNot (tB (tCB (rIsi K) (tCons (tVar i) (tCons (tC (.ty "bool")) tNil))))) t σ H Q := ⟨.bl b, hi, .bl b, .ty "bool", .type "bool", .type "bool", true, rfl, .ty _, .base (.bl b), kit_ty (by decide +kernel), true, rfl, iteF k⟩
theorem ne_makes {b : Bool} (hn : σ[n]? = some (some (.bl b))) (hi : σ[i]? = some (some v)) (hj : σ[j]? = some (some u)) (tv : TD K H v r1.d) (tu : TD K H u r2.d) (pr : Pair r1 r2) (h1 : HeadIn r1) (h2 : HeadIn r2) (h3 : r2.bd.length ≤ 20) (h4 : ∀ a ∈ r2.bd, a.2.length ≤ 20) (s : b = true ↔ SubP r1 r2) (k : ∀ H1, Rf H H1 → Q false H1) :
    tTest (tOp rNe (tVar n) (tCall (spMakes K) [] E (tCons (tVar i) (tCons (tVar j) tNil)))) σ H Q := ⟨.bl b, hn, v, hi, u, hj, v, u, r1, r2, rfl, tv, tu, pr, h1, h2, h3, h4, fun r H1 f hr => ⟨rfl, false, by
    have e : b = r := Bool.eq_iff_iff.mpr (s.trans hr.symm)
    rw [e]
    simp, k H1 f⟩⟩
end
def spLaw (K : PySem.W.Frag) : Sp := fun vs H Q _ => ∃ (a : Addr) (ns : List Int), vs = [.ref a] ∧ SqL K H a (ns.map V.int) ∧ ∀ H', Q (.bl true) H'
theorem sc_law : FnScope ["script", "pair", "wide", "twins", "narrow", "k", "number", "rule", "other", "one", "two", "told"] ["script"] (defScope slaw) := C8.fnScope_by (by decide +kernel)
theorem mkOk {x qual : Str} {st : Stmt} {N ps : List Str} {k : Nat} {sp : Sp} (F : FnP K x qual st f fd) (S : FnScope N ps (defScope st))
    (len : ∀ vs H Q E, sp vs H Q E → vs.length = ps.length)
    (hbody : ∀ (cdv : Value) (A : Around) (outer : List Env) (s : Shared) (H : Hp) (vs : List V) (Q : VK) (E : XK), Room k (A.deeper (envOfC qual (defScope st) s.heap.objs.size f cdv)) → sp vs H Q E →
      ∃ t, PSs (cxOf CX0 P w K mg base N qual (defScope st) f cdv A outer s H E).nox (defBody st) t ∧ t { nx := fun _ H' => Q .non H', rt := Q } (start N vs) H) : FnOk P w K mg base CX0 (k + 1) f fd ps sp :=
  F.ok S len fun cdv A outer s H vs Q E hr hsp => by
    obtain ⟨t, h, q⟩ := hbody cdv A outer s H vs Q E hr hsp
    exact ⟨t, h.nox, q⟩
theorem ok_law (F : FnP K "law" "law" slaw f fd) (T0 : Bl mg)
    (c_makes_all : C8.Cal P w K mg base 9 "makes_all" (spMakes K) []) (c_subsumes : C8.Cal P w K mg base 5 "subsumes" (spSub K) []) (c__law_number : C8.Cal P w K mg base 1 "_law_number" (spNumber K) []) (c__law_take : C8.Cal P w K mg base 1 "_law_take" spTake [])
    (c__law_plain_rule : C8.Cal P w K mg base 5 "_law_plain_rule" (spPlain K) []) (c__law_special : C8.Cal P w K mg base 3 "_law_special" (spSpecial K) []) : FnOk P w K mg base CX0 10 f fd ["script"] (spLaw K) := by
  refine mkOk F sc_law (fun vs H Q E h => ?_) (fun cdv A outer s H vs Q E hr h => ?_)
  · obtain ⟨a, ns, rfl, _⟩ := h
    rfl
  · obtain ⟨a, ns, rfl, hS, k⟩ := h
    refine ⟨_, (pss_cons (ps_set (i := 1) sc_law.nd rfl (Or.inl rfl) (pe_tup (pa_cons pe_str (pa_cons (pe_tup (pa_cons (pe_tup (pa_cons pe_str (pa_cons pe_str pa_nil))) (pa_cons (pe_tup (pa_cons pe_str (pa_cons pe_str pa_nil))) pa_nil))) pa_nil))))
      (pss_cons (ps_set (i := 2) sc_law.nd rfl (Or.inl rfl) (pe_tup (pa_cons pe_str (pa_cons (pv 1) (pa_cons (pe_tup (pa_cons (pe_tup (pa_cons pe_str (pa_cons (pe_tup (pa_cons pe_str (pa_cons (pe_ix ix_tup (pv 1) pe_int (fun _ _ => rfl)) pa_nil))) pa_nil))) pa_nil)) pa_nil)))))
      (pss_cons (ps_set (i := 3) sc_law.nd rfl (Or.inl rfl) (pe_tup (pa_cons (pe_tup (pa_cons pe_str (pa_cons pe_str pa_nil))) (pa_cons (pe_tup (pa_cons pe_str (pa_cons pe_str pa_nil))) pa_nil))))
      (pss_cons (ps_set (i := 4) sc_law.nd rfl (Or.inl rfl) (pe_tup (pa_cons pe_str (pa_cons (pe_tup (pa_cons pe_str (pa_cons (pv 3) pa_nil))) (pa_cons (pe_tup (pa_cons (pe_tup (pa_cons pe_str (pa_cons (pe_tup (pa_cons pe_str (pa_cons (pv 3) pa_nil))) pa_nil))) pa_nil)) pa_nil)))))
      (pss_cons (ps_if (PW.pt (pw_or (pt_not (pt_val (C8.pe_c c_makes_all hr (by decide) rfl (pa_cons (pv 2) (pa_cons (pv 4) pa_nil))))) (pw_or (pt_val (C8.pe_c c_makes_all hr (by decide) rfl (pa_cons (pv 4) (pa_cons (pv 2) pa_nil)))) (pw_or (pt_not (pt_val (C8.pe_c c_subsumes hr (by decide) rfl (pa_cons (pv 2) (pa_cons (pv 4) pa_nil))))) (pw_or1 (pt_val (C8.pe_c c_subsumes hr (by decide) rfl (pa_cons (pv 4) (pa_cons (pv 2) pa_nil))))))))) (pss_one (ps_ret pe_bl))
      pss_nil)
      (pss_cons (ps_for PassesOwn.never rfl (pi_range1 rfl T0.f_range (pa_cons pe_int pa_nil)) (pg_name (i := 5) sc_law.nd rfl (Or.inl rfl))
      (pss_cons (ps_set (i := 6) sc_law.nd rfl (Or.inl rfl) (C8.pe_c c__law_number hr (by decide) rfl (pa_cons (pv 0) (pa_cons (pv 5) pa_nil))))
        (pss_cons (ps_set (i := 7) sc_law.nd rfl (Or.inl rfl) (C8.pe_c c__law_plain_rule hr (by decide) rfl (pa_cons (pv 6) pa_nil)))
        (pss_cons (ps_set (i := 8) sc_law.nd rfl (Or.inl rfl) (C8.pe_c c__law_plain_rule hr (by decide) rfl (pa_cons (C8.pe_c c__law_number hr (by decide) rfl (pa_cons (pe_lst (pa_cons (pv 6) pa_nil)) (pa_cons pe_int pa_nil))) pa_nil)))
        (pss_cons (ps_if (pt_cmpR op_gt (C8.pe_c c__law_take hr (by decide) rfl (pa_cons (pe_lst (pa_cons (pv 6) pa_nil)) (pa_cons pe_int pa_nil))) pe_int (nomark _)) (pss_one (ps_set (i := 8) sc_law.nd rfl (Or.inl rfl) (C8.pe_c c__law_special hr (by decide) rfl (pa_cons (pv 7) (pa_cons (C8.pe_c c__law_number hr (by decide) rfl (pa_cons (pe_lst (pa_cons (pv 6) pa_nil)) (pa_cons pe_int pa_nil))) pa_nil)))))
        pss_nil)
        (pss_one (ps_for PassesOwn.never rfl (pi_list (pe_lst (pa_cons (pe_tup (pa_cons (pv 7) (pa_cons (pv 8) pa_nil))) (pa_cons (pe_tup (pa_cons (pv 8) (pa_cons (pv 7) pa_nil))) (pa_cons (pe_tup (pa_cons (pv 7) (pa_cons (pv 7) pa_nil))) pa_nil))))) (pg_tup rfl (pgs_cons (pg_name (i := 9) sc_law.nd rfl (Or.inl rfl)) (pgs_cons (pg_name (i := 10) sc_law.nd rfl (Or.inl rfl)) pgs_nil)))
        (pss_cons (ps_set (i := 11) sc_law.nd rfl (Or.inl rfl) (C8.pe_c c_subsumes hr (by decide) rfl (pa_cons (pv 9) (pa_cons (pv 10) pa_nil))))
          (pss_one (ps_if (PW.pt (pw_or (pt_not (pt_val (pe_callB call_isi (by rfl) T0.f_isinstance (by decide +kernel) (pa_cons (pv 11) (pa_cons (pe_bltn (v := .ty "bool") (u := .type "bool") (by rfl) T0.f_bool (by decide +kernel) rfl) pa_nil))))) (pw_or1 (pt_cmpR op_ne (pv 11) (C8.pe_c c_makes_all hr (by decide) rfl (pa_cons (pv 9) (pa_cons (pv 10) pa_nil))) (nomark _))))) (pss_one (ps_ret pe_bl))
          pss_nil))))))))))
      (pss_one (ps_ret pe_bl)))))))), ?_⟩
    refine q_asgD (K := K) (d := .tuple [.str "d4", .tuple [.tuple [.str "var", .str "X"], .tuple [.str "var", .str "Y"]]]) (ed_tup (eds_cons ed_str (eds_cons (ed_tup (eds_cons (ed_tup (eds_cons ed_str (eds_cons ed_str eds_nil)) (by simp)) (eds_cons (ed_tup (eds_cons ed_str (eds_cons ed_str eds_nil)) (by simp)) eds_nil)) (by simp)) eds_nil)) (by simp)) fun vp H1 e1 tp => ?_
    refine q_asgD (K := K) (d := wideR.d) (ed_tup (eds_cons ed_str (eds_cons (ed_var rfl tp) (eds_cons (ed_tup (eds_cons (ed_tup (eds_cons ed_str (eds_cons (ed_tup (eds_cons ed_str (eds_cons (ed_ix (ed_var rfl tp) ed_int at1) eds_nil)) (by simp)) eds_nil)) (by simp)) eds_nil) (by show 1 ≤ 100000; decide)) eds_nil))) (by simp)) fun vw H2 e2 tw => ?_
    refine q_asgD (K := K) (d := .tuple [.tuple [.str "var", .str "X"], .tuple [.str "var", .str "X"]]) (ed_tup (eds_cons (ed_tup (eds_cons ed_str (eds_cons ed_str eds_nil)) (by simp)) (eds_cons (ed_tup (eds_cons ed_str (eds_cons ed_str eds_nil)) (by simp)) eds_nil)) (by simp)) fun vt H3 e3 tt => ?_
    refine q_asgD (K := K) (d := narrowR.d) (ed_tup (eds_cons ed_str (eds_cons (ed_tup (eds_cons ed_str (eds_cons (ed_var rfl tt) eds_nil)) (by simp)) (eds_cons (ed_tup (eds_cons (ed_tup (eds_cons ed_str (eds_cons (ed_tup (eds_cons ed_str (eds_cons (ed_var rfl tt) eds_nil)) (by simp)) eds_nil)) (by simp)) eds_nil) (by show 1 ≤ 100000; decide)) eds_nil))) (by simp)) fun vn H4 e4 tn => ?_
    have tw4 := tw.mono_ex (e3.trans e4)
    have pwn : Pair wideR narrowR := pairLR lrWide lrNarrow (by decide) (by decide)
    have pnw : Pair narrowR wideR := pairLR lrNarrow lrWide (by decide) (by decide)
    refine q_ifTT ?_
    refine or_notMakes rfl rfl tw4 tn pwn lrWide.hi lrNarrow.hi (by decide) lrNarrow.wl sub_wn fun H5 f5 => ?_
    refine or_makes rfl rfl (tn.mono f5.tx) (tw4.mono f5.tx) pnw lrNarrow.hi lrWide.hi (by decide) lrWide.wl sub_nw fun H6 f6 => ?_
    have f46 := f5.trans f6
    refine or_notSub rfl rfl (tw4.mono f46.tx) (tn.mono f46.tx) pwn sub_wn fun H7 e7 => ?_
    have f47 := f46.trans (Rf.of_ex e7)
    refine t_sub rfl rfl (tn.mono f47.tx) (tw4.mono f47.tx) pnw sub_nw fun H8 e8 => ?_
    have f08 : Rf H H8 := (Rf.of_ex (((e1.trans e2).trans e3).trans e4)).trans (f47.trans (Rf.of_ex e8))
    refine iteF ?_
    show tSeq _ _ _ _ _
    refine Evl.q_forR1 (Evl.ea_cons Evl.ev_c Evl.ea_nil) (by decide) (fun _ σ' H' => ∃ o5 o6 o7 o8 o9 o10 o11, σ' = [some (.ref a), some vp, some vw, some vt, some vn, o5, o6, o7, o8, o9, o10, o11] ∧ SqL K H' a (ns.map V.int)) (fun H9 e9 => ⟨_, _, _, _, _, _, _, rfl, sqL_rf hS (f08.trans (Rf.of_ex e9))⟩) (fun i σ' H' hi pv => ?_) fun σ' H' _ => ?_
    · obtain ⟨o5, o6, o7, o8, o9, o10, o11, rfl, hS'⟩ := pv
      refine q_asgCall (consVar rfl (consVar rfl ?_))
      refine ⟨a, ns, _, rfl, hS', fun z H1 e1 => ?_⟩
      refine q_asgCall (consVar rfl ?_)
      refine ⟨z, rfl, fun vr r H2 e2 tr lr => ?_⟩
      refine q_asgCall (consCall ?_)
      refine consL (xs := [.int z]) (Evl.el_lst (Evl.ea_cons (Evl.ev_var rfl) Evl.ea_nil) (by simp)) fun p1 H3 np1 e3 hp1 => ?_
      refine ⟨p1, [z], 31, rfl, SqL.of hp1, fun z2 H4 e4 => ?_⟩
      refine ⟨z2, rfl, fun vo ro H5 e5 to lo => ?_⟩
      have e25 : Ex H2 H5 := (e3.trans e4).trans e5
      refine q_ifCallGt ?_
      refine consL (xs := [.int z]) (Evl.el_lst (Evl.ea_cons (Evl.ev_var rfl) Evl.ea_nil) (by simp)) fun p2 H6 np2 e6 hp2 => ?_
      refine ⟨p2, z, 3, rfl, hp2, by decide, by decide, fun d H7 fr7 bx7 hd => ?_⟩
      have e57 : Ex H5 H7 := ex_of_frb np2 e6 fr7
      refine ⟨_, _, rfl, rfl, _, rfl, ?_⟩
      refine ifAsgR (v0 := vo) (G := fun v H8 => Ex H7 H8 ∧ ∃ r', TD K H8 v (Rl.d r') ∧ LR 4 r') (fun v H8 g => ?_) rfl (fun _ => ⟨Ex.refl H7, ro, to.mono_ex e57, lo.up (by decide)⟩) (fun _ Q0 q0 => ?_)
      · obtain ⟨e8, r', tv, lr'⟩ := g
        have tr8 := tr.mono_ex ((e25.trans e57).trans e8)
        refine s_forLD (K := K) (ds := [.tuple [r.d, r'.d], .tuple [r'.d, r.d], .tuple [r.d, r.d]]) (eld_lst (eds_cons (ed_tup (eds_cons (ed_var rfl tr8) (eds_cons (ed_var rfl tv) eds_nil)) (by simp)) (eds_cons (ed_tup (eds_cons (ed_var rfl tv) (eds_cons (ed_var rfl tr8) eds_nil)) (by simp)) (eds_cons (ed_tup (eds_cons (ed_var rfl tr8) (eds_cons (ed_var rfl tr8) eds_nil)) (by simp)) eds_nil))) (by simp)) fun p xs H9 hp e9 ts => ?_
        have allp : ∀ x ∈ xs, ∃ r1 r2, TD K H9 x (.tuple [Rl.d r1, Rl.d r2]) ∧ Pair r1 r2 ∧ HeadIn r1 ∧ HeadIn r2 ∧ r2.bd.length ≤ 20 ∧ ∀ a ∈ r2.bd, a.2.length ≤ 20 := fun x hx => by
          have b3 := lr.bm
          have b4 := lr'.bm
          cases ts with
          | cons t1 ts =>
            cases ts with
            | cons t2 ts =>
              cases ts with
              | cons t3 ts =>
                cases ts
                simp only [List.mem_cons, List.not_mem_nil, or_false] at hx
                rcases hx with rfl | rfl | rfl
                · exact ⟨r, r', t1, pairLR lr lr' (by decide) (by decide), lr.hi, lr'.hi, by omega, lr'.wl⟩
                · exact ⟨r', r, t2, pairLR lr' lr (by decide) (by decide), lr'.hi, lr.hi, by omega, lr.wl⟩
                · exact ⟨r, r, t3, pairLR lr lr (by decide) (by decide), lr.hi, lr.hi, by omega, lr.wl⟩
        have hS9 : SqL K H9 a (ns.map V.int) := sqL_rf hS' (Rf.of_ex ((((e1.trans e2).trans (e25.trans e57)).trans e8).trans e9))
        refine ⟨fun _ σ2 H2 => (∃ o9 o10 o11, σ2 = [some (.ref a), some vp, some vw, some vt, some vn, some (.int (i : Int)), some (.int z), some vr, some v, o9, o10, o11]) ∧ Rf H9 H2, ⟨⟨_, _, _, rfl⟩, Rf.refl _⟩, fun j σ2 H2 q => SqL.of (q.2 _ _ hp fun φ z => by cases z), fun j x σ2 H2 hx q => ?_, fun σ2 H2 q => ?_⟩
        · obtain ⟨⟨o9, o10, o11, rfl⟩, rf⟩ := q
          obtain ⟨r1, r2, tx, pr, h1, h2, h3, h4⟩ := allp x (List.mem_of_getElem? hx)
          obtain ⟨q, ys, rfl, tq, tys⟩ := tx.tup_inv
          cases tys with
          | @cons v1 _ _ _ tv1 tys =>
            cases tys with
            | @cons v2 _ _ _ tv2 tys =>
              cases tys
              refine ⟨q, [v1, v2], rfl, (tq.mono rf.tx).sq, rfl, v1, [v2], rfl, v2, [], rfl, rfl, ?_⟩
              refine q_asgCall (consVar rfl (consVar rfl ?_))
              refine ⟨v1, v2, r1, r2, rfl, tv1.mono rf.tx, tv2.mono rf.tx, pr, fun b H3 e3 hb => ?_⟩
              have rf3 := rf.trans (Rf.of_ex e3)
              refine s_ifTT ?_
              refine or_notIsB rfl ?_
              refine ne_makes rfl rfl rfl (tv1.mono rf3.tx) (tv2.mono rf3.tx) pr h1 h2 h3 h4 hb fun H4 f4 => ?_
              refine iteF ?_
              exact ⟨⟨_, _, _, rfl⟩, rf3.trans f4⟩
        · obtain ⟨⟨o9, o10, o11, rfl⟩, rf⟩ := q
          exact ⟨_, _, _, _, _, _, _, rfl, sqL_rf hS9 rf⟩
      · refine callD (consVar rfl (consCall ?_))
        refine consL (xs := [.int z]) (Evl.el_lst (Evl.ea_cons (Evl.ev_var rfl) Evl.ea_nil) (by simp)) fun p3 H8 np3 e8 hp3 => ?_
        refine ⟨p3, [z], 32, rfl, SqL.of hp3, fun z3 H9 e9 => ?_⟩
        refine ⟨vr, z3, r, rfl, tr.mono_ex (((e25.trans e57).trans e8).trans e9), lr, fun v' r' H10 e10 tv' lr' => q0 _ _ ⟨(e8.trans e9).trans e10, r', tv', lr'⟩⟩
    · exact k _

end
end K86
end
section
set_option maxRecDepth 100000
set_option maxHeartbeats 0
namespace K86
open PySem PySem.Spec PyProof.Rows L2
def dnames_of : He.DefD := ⟨("names_of", none), "names_of", "names_of", defArgs snames_of, defBody snames_of, defScope snames_of, [], []⟩
def dterms_of : He.DefD := ⟨("terms_of", none), "terms_of", "terms_of", defArgs sterms_of, defBody sterms_of, defScope sterms_of, [], []⟩
def dnames_in : He.DefD := ⟨("names_in", none), "names_in", "names_in", defArgs snames_in, defBody snames_in, defScope snames_in, [], []⟩
def dresolved : He.DefD := ⟨("resolved", none), "resolved", "resolved", defArgs sresolved, defBody sresolved, defScope sresolved, [], []⟩
def dpattern_of : He.DefD := ⟨("pattern_of", none), "pattern_of", "pattern_of", defArgs spattern_of, defBody spattern_of, defScope spattern_of, [], []⟩
def dbody_of : He.DefD := ⟨("body_of", none), "body_of", "body_of", defArgs sbody_of, defBody sbody_of, defScope sbody_of, [], []⟩
def dnames_in_body : He.DefD := ⟨("names_in_body", none), "names_in_body", "names_in_body", defArgs snames_in_body, defBody snames_in_body, defScope snames_in_body, [], []⟩
def drow_of : He.DefD := ⟨("row_of", none), "row_of", "row_of", defArgs srow_of, defBody srow_of, defScope srow_of, [], []⟩
def drows_made : He.DefD := ⟨("rows_made", none), "rows_made", "rows_made", defArgs srows_made, defBody srows_made, defScope srows_made, [], []⟩
def dis_ready : He.DefD := ⟨("is_ready", none), "is_ready", "is_ready", defArgs sis_ready, defBody sis_ready, defScope sis_ready, [], []⟩
def dbound_terms : He.DefD := ⟨("bound_terms", none), "bound_terms", "bound_terms", defArgs sbound_terms, defBody sbound_terms, defScope sbound_terms, [], []⟩
def dnext_literal : He.DefD := ⟨("next_literal", none), "next_literal", "next_literal", defArgs snext_literal, defBody snext_literal, defScope snext_literal, [], []⟩
def dorder_of : He.DefD := ⟨("order_of", none), "order_of", "order_of", defArgs sorder_of, defBody sorder_of, defScope sorder_of, [], []⟩
def dmatched : He.DefD := ⟨("matched", none), "matched", "matched", defArgs smatched, defBody smatched, defScope smatched, [], []⟩
def dwith_rows : He.DefD := ⟨("with_rows", none), "with_rows", "with_rows", defArgs swith_rows, defBody swith_rows, defScope swith_rows, [], []⟩
def dbehind : He.DefD := ⟨("behind", none), "behind", "behind", defArgs sbehind, defBody sbehind, defScope sbehind, [], []⟩
def dsolutions : He.DefD := ⟨("solutions", none), "solutions", "solutions", defArgs ssolutions, defBody ssolutions, defScope ssolutions, [], []⟩
def danswers : He.DefD := ⟨("answers", none), "answers", "answers", defArgs sanswers, defBody sanswers, defScope sanswers, [], []⟩
def dspots_of : He.DefD := ⟨("spots_of", none), "spots_of", "spots_of", defArgs sspots_of, defBody sspots_of, defScope sspots_of, [], []⟩
def dpicked : He.DefD := ⟨("picked", none), "picked", "picked", defArgs spicked, defBody spicked, defScope spicked, [], []⟩
def dRelation___init__ : He.DefD := ⟨("Relation", some "__init__"), "__init__", "Relation.__init__", defArgs sRelation___init__, defBody sRelation___init__, defScope sRelation___init__, [.adr (He.dflAt ("Relation", some "__init__") 0)], []⟩
def dRelation_add : He.DefD := ⟨("Relation", some "add"), "add", "Relation.add", defArgs sRelation_add, defBody sRelation_add, defScope sRelation_add, [], []⟩
def dRelation_index_on : He.DefD := ⟨("Relation", some "index_on"), "index_on", "Relation.index_on", defArgs sRelation_index_on, defBody sRelation_index_on, defScope sRelation_index_on, [], []⟩
def dRelation_match : He.DefD := ⟨("Relation", some "match"), "match", "Relation.match", defArgs sRelation_match, defBody sRelation_match, defScope sRelation_match, [], []⟩
def dDatabase___init__ : He.DefD := ⟨("Database", some "__init__"), "__init__", "Database.__init__", defArgs sDatabase___init__, defBody sDatabase___init__, defScope sDatabase___init__, [], []⟩
def dDatabase_relation : He.DefD := ⟨("Database", some "relation"), "relation", "Database.relation", defArgs sDatabase_relation, defBody sDatabase_relation, defScope sDatabase_relation, [], []⟩
def dDatabase_add : He.DefD := ⟨("Database", some "add"), "add", "Database.add", defArgs sDatabase_add, defBody sDatabase_add, defScope sDatabase_add, [], []⟩
def dDatabase_match : He.DefD := ⟨("Database", some "match"), "match", "Database.match", defArgs sDatabase_match, defBody sDatabase_match, defScope sDatabase_match, [], []⟩
def dcheck_plain : He.DefD := ⟨("check_plain", none), "check_plain", "check_plain", defArgs scheck_plain, defBody scheck_plain, defScope scheck_plain, [], []⟩
def dvalues_in : He.DefD := ⟨("values_in", none), "values_in", "values_in", defArgs svalues_in, defBody svalues_in, defScope svalues_in, [], []⟩
def dfresh_values : He.DefD := ⟨("fresh_values", none), "fresh_values", "fresh_values", defArgs sfresh_values, defBody sfresh_values, defScope sfresh_values, [], []⟩
def dfrozen_body : He.DefD := ⟨("frozen_body", none), "frozen_body", "frozen_body", defArgs sfrozen_body, defBody sfrozen_body, defScope sfrozen_body, [], []⟩
def dmakes_all : He.DefD := ⟨("makes_all", none), "makes_all", "makes_all", defArgs smakes_all, defBody smakes_all, defScope smakes_all, [], []⟩
def dwith_term : He.DefD := ⟨("with_term", none), "with_term", "with_term", defArgs swith_term, defBody swith_term, defScope swith_term, [], []⟩
def dwith_terms : He.DefD := ⟨("with_terms", none), "with_terms", "with_terms", defArgs swith_terms, defBody swith_terms, defScope swith_terms, [], []⟩
def dwith_atom : He.DefD := ⟨("with_atom", none), "with_atom", "with_atom", defArgs swith_atom, defBody swith_atom, defScope swith_atom, [], []⟩
def dwith_literal : He.DefD := ⟨("with_literal", none), "with_literal", "with_literal", defArgs swith_literal, defBody swith_literal, defScope swith_literal, [], []⟩
def dsubsumes : He.DefD := ⟨("subsumes", none), "subsumes", "subsumes", defArgs ssubsumes, defBody ssubsumes, defScope ssubsumes, [], []⟩
def d_law_number : He.DefD := ⟨("_law_number", none), "_law_number", "_law_number", defArgs s_law_number, defBody s_law_number, defScope s_law_number, [], []⟩
def d_law_take : He.DefD := ⟨("_law_take", none), "_law_take", "_law_take", defArgs s_law_take, defBody s_law_take, defScope s_law_take, [], []⟩
def d_law_once : He.DefD := ⟨("_law_once", none), "_law_once", "_law_once", defArgs s_law_once, defBody s_law_once, defScope s_law_once, [], []⟩
def d_law_width : He.DefD := ⟨("_law_width", none), "_law_width", "_law_width", defArgs s_law_width, defBody s_law_width, defScope s_law_width, [], []⟩
def d_law_const : He.DefD := ⟨("_law_const", none), "_law_const", "_law_const", defArgs s_law_const, defBody s_law_const, defScope s_law_const, [], []⟩
def d_law_term : He.DefD := ⟨("_law_term", none), "_law_term", "_law_term", defArgs s_law_term, defBody s_law_term, defScope s_law_term, [], []⟩
def d_law_atom : He.DefD := ⟨("_law_atom", none), "_law_atom", "_law_atom", defArgs s_law_atom, defBody s_law_atom, defScope s_law_atom, [], []⟩
def d_law_names : He.DefD := ⟨("_law_names", none), "_law_names", "_law_names", defArgs s_law_names, defBody s_law_names, defScope s_law_names, [], []⟩
def d_law_plain_rule : He.DefD := ⟨("_law_plain_rule", none), "_law_plain_rule", "_law_plain_rule", defArgs s_law_plain_rule, defBody s_law_plain_rule, defScope s_law_plain_rule, [], []⟩
def d_law_special : He.DefD := ⟨("_law_special", none), "_law_special", "_law_special", defArgs s_law_special, defBody s_law_special, defScope s_law_special, [], []⟩
def dlaw : He.DefD := ⟨("law", none), "law", "law", defArgs slaw, defBody slaw, defScope slaw, [], []⟩
def fn : List He.DefD := [dnames_of, dterms_of, dnames_in, dresolved, dpattern_of, dbody_of, dnames_in_body, drow_of, drows_made, dis_ready, dbound_terms, dnext_literal, dorder_of, dmatched, dwith_rows, dbehind, dsolutions, danswers, dspots_of, dpicked, dRelation___init__, dRelation_add, dRelation_index_on, dRelation_match, dDatabase___init__, dDatabase_relation, dDatabase_add, dDatabase_match, dcheck_plain, dvalues_in, dfresh_values, dfrozen_body, dmakes_all, dwith_term, dwith_terms, dwith_atom, dwith_literal, dsubsumes, d_law_number, d_law_take, d_law_once, d_law_width, d_law_const, d_law_term, d_law_atom, d_law_names, d_law_plain_rule, d_law_special, dlaw]
def fa : List He.Fa := [.glo "names_of", .glo "terms_of", .glo "names_in", .glo "resolved", .glo "pattern_of", .glo "body_of", .glo "names_in_body", .glo "row_of", .glo "rows_made", .glo "is_ready", .glo "bound_terms", .glo "next_literal", .glo "order_of", .glo "matched", .glo "with_rows", .glo "behind", .glo "solutions", .glo "answers", .glo "spots_of", .glo "picked", .glo "Relation", .glo "Database", .glo "check_plain", .glo "values_in", .glo "fresh_values", .glo "frozen_body", .glo "makes_all", .glo "with_term", .glo "with_terms", .glo "with_atom", .glo "with_literal", .glo "subsumes", .glo "_law_number", .glo "_law_take", .glo "_law_once", .glo "_law_width", .glo "_law_const", .glo "_law_term", .glo "_law_atom", .glo "_law_names", .glo "_law_plain_rule", .glo "_law_special", .glo "ANY", .glo "law", .free "len", .free "range", .free "list", .free "dict", .free "tuple", .free "zip", .free "all", .free "any", .free "sum", .free "sorted", .free "int", .free "isinstance", .free "bool", .free "str", .int "MOST_WAYS" 200, .cls "Relation", .mkr "Relation", .cls "Database", .mkr "Database", .noat "Relation" "members", .noat "Relation" "indexes", .noat "Database" "tables", .meth "Relation" "add", .meth "Relation" "index_on", .meth "Relation" "match", .meth "Database" "relation", .meth "Database" "add", .meth "Database" "match"]
def dflT (K : PySem.W.Frag) : Bool := match K.lookup (He.dflAt ("Relation", some "__init__") 0 K) with
  | some ⟨.type c, _, .seq its _, _⟩ => decide (c = "tuple") && decide (its.size = 0)
  | _ => false
theorem dflT_ok {K : PySem.W.Frag} (h : dflT K = true) : HF.WT K (He.dflAt ("Relation", some "__init__") 0 K) [] := by
  unfold dflT at h
  cases q : K.lookup (He.dflAt ("Relation", some "__init__") 0 K) with
  | none =>
    rw [q] at h
    cases h
  | some o =>
    obtain ⟨oc, od, dt, osl⟩ := o
    rw [q] at h
    cases oc with
    | type c =>
      cases dt with
      | seq its n =>
        obtain ⟨h1, h2⟩ := He.ba (show (decide (c = "tuple") && decide (its.size = 0)) = true from h)
        have hz : its.size = 0 := of_decide_eq_true h2
        have e : its.toList = [] := List.eq_nil_of_length_eq_zero (by rw [Array.length_toList]; exact hz)
        exact ⟨_, its, n, q, congrArg Value.type (of_decide_eq_true h1), rfl, by rw [hz]; exact Nat.zero_le _, by rw [e]; exact .nil⟩
      | _ => cases h
    | _ => cases dt <;> cases h
def ex (K : PySem.W.Frag) : Bool := He.tupB K "ANY" [.str "any"] && dflT K
abbrev R : PySem.W.OpenRow := PySem.W.OpenLaw.row PySem.Challenge.rw_herefrom_k86_whole_containment_is_a_mapp
abbrev hk : PySem.W.Hook := He.hookX 5 fa fn [] [] ex
def loose0 : List PySem.Str := ["_wall", "MOST_INTEGER", "MOST_SIGNS", "BARRED", "is_sign", "is_integer", "is_value", "value_order", "row_order", "sorted_rows", "calculated", "holds", "ANY", "names_of", "terms_of", "names_in", "resolved", "pattern_of", "body_of", "names_in_body", "FollowError", "OutOfRange", "row_of", "groups_of", "folded", "rows_made", "is_ready", "bound_terms", "next_literal", "order_of"]
def loose1 : List PySem.Str := ["matched", "with_rows", "with_let", "behind", "solutions", "answers", "spots_of", "picked", "Relation", "Database", "check_plain", "values_in", "fresh_values", "frozen_body", "makes_all", "MOST_WAYS", "with_term", "with_terms", "wild_spots", "with_atom", "with_literal", "subsumes", "_law_number", "_law_take", "_law_once", "_law_width", "_law_const", "_law_term", "_law_atom", "_law_names"]
def loose2 : List PySem.Str := ["_law_plain_rule", "_law_special"]
def loose : List PySem.Str := loose0 ++ loose1 ++ loose2
def lawAt : Nat := 74
def ob (s : PySem.W.SharedT) : He.AlX := He.obsX 5 fa fn [] [] ex (HandSHeadRun.getT s)
theorem ob_eq (s : PySem.W.SharedT) : ob s = hk.obs s.abs := He.obsX_eq (HandSHeadRun.getT_eq s)
theorem run (w : World) : HandSHeadRun.RunEq R (PySem.W.view R.prog [lawAt]) hk ob 4000 loose w := by
  intro os
  kernel_rfl
end K86
end
section
set_option maxRecDepth 100000
set_option maxHeartbeats 4000000
--BODY
namespace K86
open PySem PySem.Spec PyProof.Rows L2 HF
theorem allDefs {P : Program} {w : World} {K : PySem.W.Frag} {h base : Heap} {mg : Str → Option Value} {fd : FuncData} (X : K.In h) (G : h.Ns mainGlobals mg) (c : He.SaysD fa fn K) (m : ex K = true)
    (FL : FnP K "law" "law" slaw (He.ga K "law") fd) : FnOk P w K mg base CX0 10 (He.ga K "law") fd ["script"] (spLaw K) := by
  obtain ⟨m1, m2⟩ := He.ba m
  have WT0 := dflT_ok m2
  have TB : Bl mg := ⟨He.free_ok X G (c.fact 44 (f := .free "len") rfl), He.free_ok X G (c.fact 45 (f := .free "range") rfl), He.free_ok X G (c.fact 46 (f := .free "list") rfl), He.free_ok X G (c.fact 47 (f := .free "dict") rfl), He.free_ok X G (c.fact 48 (f := .free "tuple") rfl), He.free_ok X G (c.fact 49 (f := .free "zip") rfl), He.free_ok X G (c.fact 50 (f := .free "all") rfl), He.free_ok X G (c.fact 51 (f := .free "any") rfl), He.free_ok X G (c.fact 52 (f := .free "sum") rfl), He.free_ok X G (c.fact 53 (f := .free "sorted") rfl), He.free_ok X G (c.fact 54 (f := .free "int") rfl), He.free_ok X G (c.fact 55 (f := .free "isinstance") rfl), He.free_ok X G (c.fact 56 (f := .free "bool") rfl), He.free_ok X G (c.fact 57 (f := .free "str") rfl)⟩
  have WA : WT K (He.ga K "ANY") [.str "any"] := by
    rcases He.tupB_ok m1 (fun _ => none) with q | q
    · rcases q with q | ⟨_, q⟩ <;> cases q
    · exact q
  obtain ⟨_, mw⟩ := He.int_ok X G (c.fact 58 (f := .int "MOST_WAYS" 200) rfl)
  have GV : Gv K mg (He.ga K "ANY") := ⟨⟨_, (He.glo_ok X G (c.fact 42 (f := .glo "ANY") rfl)), rfl⟩, WA, ⟨_, mw, ⟨_, rfl⟩⟩⟩
  have KL : Kl K (He.ga K "Relation") (He.ga K "Database") := ⟨He.cls_ok (c.fact 59 (f := .cls "Relation") rfl), He.noat_ok (c.fact 63 (f := .noat "Relation" "members") rfl), He.noat_ok (c.fact 64 (f := .noat "Relation" "indexes") rfl), He.cls_ok (c.fact 61 (f := .cls "Database") rfl), He.noat_ok (c.fact 65 (f := .noat "Database" "tables") rfl)⟩
  obtain ⟨f_dnames_of, F_dnames_of⟩ := c.def_ 0 (d := dnames_of) rfl
  obtain ⟨f_dterms_of, F_dterms_of⟩ := c.def_ 1 (d := dterms_of) rfl
  obtain ⟨f_dnames_in, F_dnames_in⟩ := c.def_ 2 (d := dnames_in) rfl
  obtain ⟨f_dresolved, F_dresolved⟩ := c.def_ 3 (d := dresolved) rfl
  obtain ⟨f_dpattern_of, F_dpattern_of⟩ := c.def_ 4 (d := dpattern_of) rfl
  obtain ⟨f_dbody_of, F_dbody_of⟩ := c.def_ 5 (d := dbody_of) rfl
  obtain ⟨f_dnames_in_body, F_dnames_in_body⟩ := c.def_ 6 (d := dnames_in_body) rfl
  obtain ⟨f_drow_of, F_drow_of⟩ := c.def_ 7 (d := drow_of) rfl
  obtain ⟨f_drows_made, F_drows_made⟩ := c.def_ 8 (d := drows_made) rfl
  obtain ⟨f_dis_ready, F_dis_ready⟩ := c.def_ 9 (d := dis_ready) rfl
  obtain ⟨f_dbound_terms, F_dbound_terms⟩ := c.def_ 10 (d := dbound_terms) rfl
  obtain ⟨f_dnext_literal, F_dnext_literal⟩ := c.def_ 11 (d := dnext_literal) rfl
  obtain ⟨f_dorder_of, F_dorder_of⟩ := c.def_ 12 (d := dorder_of) rfl
  obtain ⟨f_dmatched, F_dmatched⟩ := c.def_ 13 (d := dmatched) rfl
  obtain ⟨f_dwith_rows, F_dwith_rows⟩ := c.def_ 14 (d := dwith_rows) rfl
  obtain ⟨f_dbehind, F_dbehind⟩ := c.def_ 15 (d := dbehind) rfl
  obtain ⟨f_dsolutions, F_dsolutions⟩ := c.def_ 16 (d := dsolutions) rfl
  obtain ⟨f_danswers, F_danswers⟩ := c.def_ 17 (d := danswers) rfl
  obtain ⟨f_dspots_of, F_dspots_of⟩ := c.def_ 18 (d := dspots_of) rfl
  obtain ⟨f_dpicked, F_dpicked⟩ := c.def_ 19 (d := dpicked) rfl
  obtain ⟨f_dRelation___init__, F_dRelation___init__⟩ := c.def_ 20 (d := dRelation___init__) rfl
  obtain ⟨f_dRelation_add, F_dRelation_add⟩ := c.def_ 21 (d := dRelation_add) rfl
  obtain ⟨f_dRelation_index_on, F_dRelation_index_on⟩ := c.def_ 22 (d := dRelation_index_on) rfl
  obtain ⟨f_dRelation_match, F_dRelation_match⟩ := c.def_ 23 (d := dRelation_match) rfl
  obtain ⟨f_dDatabase___init__, F_dDatabase___init__⟩ := c.def_ 24 (d := dDatabase___init__) rfl
  obtain ⟨f_dDatabase_relation, F_dDatabase_relation⟩ := c.def_ 25 (d := dDatabase_relation) rfl
  obtain ⟨f_dDatabase_add, F_dDatabase_add⟩ := c.def_ 26 (d := dDatabase_add) rfl
  obtain ⟨f_dDatabase_match, F_dDatabase_match⟩ := c.def_ 27 (d := dDatabase_match) rfl
  obtain ⟨f_dcheck_plain, F_dcheck_plain⟩ := c.def_ 28 (d := dcheck_plain) rfl
  obtain ⟨f_dvalues_in, F_dvalues_in⟩ := c.def_ 29 (d := dvalues_in) rfl
  obtain ⟨f_dfresh_values, F_dfresh_values⟩ := c.def_ 30 (d := dfresh_values) rfl
  obtain ⟨f_dfrozen_body, F_dfrozen_body⟩ := c.def_ 31 (d := dfrozen_body) rfl
  obtain ⟨f_dmakes_all, F_dmakes_all⟩ := c.def_ 32 (d := dmakes_all) rfl
  obtain ⟨f_dwith_term, F_dwith_term⟩ := c.def_ 33 (d := dwith_term) rfl
  obtain ⟨f_dwith_terms, F_dwith_terms⟩ := c.def_ 34 (d := dwith_terms) rfl
  obtain ⟨f_dwith_atom, F_dwith_atom⟩ := c.def_ 35 (d := dwith_atom) rfl
  obtain ⟨f_dwith_literal, F_dwith_literal⟩ := c.def_ 36 (d := dwith_literal) rfl
  obtain ⟨f_dsubsumes, F_dsubsumes⟩ := c.def_ 37 (d := dsubsumes) rfl
  obtain ⟨f_d_law_number, F_d_law_number⟩ := c.def_ 38 (d := d_law_number) rfl
  obtain ⟨f_d_law_take, F_d_law_take⟩ := c.def_ 39 (d := d_law_take) rfl
  obtain ⟨f_d_law_once, F_d_law_once⟩ := c.def_ 40 (d := d_law_once) rfl
  obtain ⟨f_d_law_width, F_d_law_width⟩ := c.def_ 41 (d := d_law_width) rfl
  obtain ⟨f_d_law_const, F_d_law_const⟩ := c.def_ 42 (d := d_law_const) rfl
  obtain ⟨f_d_law_term, F_d_law_term⟩ := c.def_ 43 (d := d_law_term) rfl
  obtain ⟨f_d_law_atom, F_d_law_atom⟩ := c.def_ 44 (d := d_law_atom) rfl
  obtain ⟨f_d_law_names, F_d_law_names⟩ := c.def_ 45 (d := d_law_names) rfl
  obtain ⟨f_d_law_plain_rule, F_d_law_plain_rule⟩ := c.def_ 46 (d := d_law_plain_rule) rfl
  obtain ⟨f_d_law_special, F_d_law_special⟩ := c.def_ 47 (d := d_law_special) rfl
  have c_names_of : C8.Cal P w K mg base 1 "names_of" (spNamesOf K) [] := cal_names_of F_dnames_of (He.glo_ok X G (c.fact 0 (f := .glo "names_of") rfl))
  have c_terms_of : C8.Cal P w K mg base 1 "terms_of" (spData K rTermsOf) [] := cal_terms_of F_dterms_of (He.glo_ok X G (c.fact 1 (f := .glo "terms_of") rfl))
  have c_body_of : C8.Cal P w K mg base 1 "body_of" (spData K rBodyOf) [] := cal_body_of F_dbody_of (He.glo_ok X G (c.fact 5 (f := .glo "body_of") rfl))
  have c_names_in : C8.Cal P w K mg base 2 "names_in" (spNamesIn K) [] := cal_names_in F_dnames_in (He.glo_ok X G (c.fact 2 (f := .glo "names_in") rfl)) c_names_of c_terms_of
  have c_resolved : C8.Cal P w K mg base 1 "resolved" (spResolved K) [] := cal_resolved F_dresolved (He.glo_ok X G (c.fact 3 (f := .glo "resolved") rfl))
  have c_pattern_of : C8.Cal P w K mg base 2 "pattern_of" (spPatternOf K) [] := cal_pattern_of F_dpattern_of (He.glo_ok X G (c.fact 4 (f := .glo "pattern_of") rfl)) TB c_resolved
  have c_row_of : C8.Cal P w K mg base 2 "row_of" (spRowOf K) [] := cal_row_of F_drow_of (He.glo_ok X G (c.fact 7 (f := .glo "row_of") rfl)) TB c_resolved
  have c_names_in_body : C8.Cal P w K mg base 3 "names_in_body" (spNamesBody K) [] := cal_names_in_body F_dnames_in_body (He.glo_ok X G (c.fact 6 (f := .glo "names_in_body") rfl)) c_names_in
  have c_is_ready : C8.Cal P w K mg base 1 "is_ready" (spReady K) [] := cal_is_ready F_dis_ready (He.glo_ok X G (c.fact 9 (f := .glo "is_ready") rfl))
  have c_bound_terms : C8.Cal P w K mg base 2 "bound_terms" (spBoundTerms K) [] := cal_bound_terms F_dbound_terms (He.glo_ok X G (c.fact 10 (f := .glo "bound_terms") rfl)) TB c_terms_of
  have c_next_literal : C8.Cal P w K mg base 3 "next_literal" (spNext K) [] := cal_next_literal F_dnext_literal (He.glo_ok X G (c.fact 11 (f := .glo "next_literal") rfl)) c_is_ready c_bound_terms
  have c_order_of : C8.Cal P w K mg base 4 "order_of" (spOrder K) [] := cal_order_of F_dorder_of (He.glo_ok X G (c.fact 12 (f := .glo "order_of") rfl)) TB c_next_literal c_names_in
  have c_with_term : C8.Cal P w K mg base 1 "with_term" (spWithTerm K) [] := cal_with_term F_dwith_term (He.glo_ok X G (c.fact 27 (f := .glo "with_term") rfl)) TB GV
  have c_with_terms : C8.Cal P w K mg base 2 "with_terms" (spWithTerms K) [] := cal_with_terms F_dwith_terms (He.glo_ok X G (c.fact 28 (f := .glo "with_terms") rfl)) TB c_with_term
  have c_with_atom : C8.Cal P w K mg base 3 "with_atom" (spWithLit K) [] := cal_with_atom F_dwith_atom (He.glo_ok X G (c.fact 29 (f := .glo "with_atom") rfl)) TB c_with_terms
  have c_with_literal : C8.Cal P w K mg base 4 "with_literal" (spWithLit K) [] := cal_with_literal F_dwith_literal (He.glo_ok X G (c.fact 30 (f := .glo "with_literal") rfl)) TB c_with_atom
  have c_subsumes : C8.Cal P w K mg base 5 "subsumes" (spSub K) [] := cal_subsumes F_dsubsumes (He.glo_ok X G (c.fact 31 (f := .glo "subsumes") rfl)) TB GV c_with_terms c_with_literal c_body_of
  have c_spots_of : C8.Cal P w K mg base 1 "spots_of" spSpotsOf [] := cal_spots_of F_dspots_of (He.glo_ok X G (c.fact 18 (f := .glo "spots_of") rfl)) TB
  have c_picked : C8.Cal P w K mg base 1 "picked" spPicked [] := cal_picked F_dpicked (He.glo_ok X G (c.fact 19 (f := .glo "picked") rfl)) TB
  have c_matched : C8.Cal P w K mg base 1 "matched" (spMatched K) [] := cal_matched F_dmatched (He.glo_ok X G (c.fact 13 (f := .glo "matched") rfl)) TB
  have k_Relation : C8.Mak P w K mg base 1 "Relation" (He.ga K "Relation") (spRelInit P w (He.ga K "Relation") (He.dflAt ("Relation", some "__init__") 0 K)) [.ref (He.dflAt ("Relation", some "__init__") 0 K)] := mak_Relation F_dRelation___init__ (He.mkr_ok (c.fact 60 (f := .mkr "Relation") rfl)) (He.glo_ok X G (c.fact 20 (f := .glo "Relation") rfl)) WT0 KL
  have m_CR_add : C8.Met P w K mg base 1 (He.ga K "Relation") "add" (spRelAdd P w (He.ga K "Relation")) [] := met_Relation_add F_dRelation_add (He.meth_ok (c.fact 66 (f := .meth "Relation" "add") rfl)) KL
  have m_CR_index_on : C8.Met P w K mg base 2 (He.ga K "Relation") "index_on" (spIndexOn P w (He.ga K "Relation")) [] := met_Relation_index_on F_dRelation_index_on (He.meth_ok (c.fact 67 (f := .meth "Relation" "index_on") rfl)) KL TB c_picked
  have m_CR_match : C8.Met P w K mg base 3 (He.ga K "Relation") "match" (spRelMatch P w (He.ga K "Relation")) [] := met_Relation_match F_dRelation_match (He.meth_ok (c.fact 68 (f := .meth "Relation" "match") rfl)) KL TB c_spots_of c_picked m_CR_index_on
  have m_CD_match : C8.Met P w K mg base 4 (He.ga K "Database") "match" (spDbMatch P w (He.ga K "Database") (He.ga K "Relation")) [] := met_Database_match F_dDatabase_match (He.meth_ok (c.fact 71 (f := .meth "Database" "match") rfl)) KL m_CR_match
  have k_Database : C8.Mak P w K mg base 1 "Database" (He.ga K "Database") (spDbInit (He.ga K "Database")) [] := mak_Database F_dDatabase___init__ (He.mkr_ok (c.fact 62 (f := .mkr "Database") rfl)) (He.glo_ok X G (c.fact 21 (f := .glo "Database") rfl)) KL
  have m_CD_relation : C8.Met P w K mg base 3 (He.ga K "Database") "relation" (spDbRelation P w (He.ga K "Database") (He.ga K "Relation")) [] := met_Database_relation F_dDatabase_relation (He.meth_ok (c.fact 69 (f := .meth "Database" "relation") rfl)) KL k_Relation
  have m_CD_add : C8.Met P w K mg base 4 (He.ga K "Database") "add" (spDbAdd P w (He.ga K "Database") (He.ga K "Relation")) [] := met_Database_add F_dDatabase_add (He.meth_ok (c.fact 70 (f := .meth "Database" "add") rfl)) KL m_CD_relation m_CR_add
  have c_with_rows : C8.Cal P w K mg base 5 "with_rows" (spRows P w K (He.ga K "Database") (He.ga K "Relation") atD) [] := cal_with_rows F_dwith_rows (He.glo_ok X G (c.fact 14 (f := .glo "with_rows") rfl)) TB c_pattern_of c_matched m_CD_match
  have c_behind : C8.Cal P w K mg base 6 "behind" (spRows P w K (He.ga K "Database") (He.ga K "Relation") litD) [] := cal_behind F_dbehind (He.glo_ok X G (c.fact 15 (f := .glo "behind") rfl)) c_with_rows
  have c_solutions : C8.Cal P w K mg base 7 "solutions" (spSolve P w K (He.ga K "Database") (He.ga K "Relation")) [] := cal_solutions F_dsolutions (He.glo_ok X G (c.fact 16 (f := .glo "solutions") rfl)) TB c_order_of c_behind
  have c_answers : C8.Cal P w K mg base 8 "answers" (spAnswers P w K (He.ga K "Database") (He.ga K "Relation")) [] := cal_answers F_danswers (He.glo_ok X G (c.fact 17 (f := .glo "answers") rfl)) TB c_solutions
  have c_rows_made : C8.Cal P w K mg base 3 "rows_made" (spRowsMade K) [] := cal_rows_made F_drows_made (He.glo_ok X G (c.fact 8 (f := .glo "rows_made") rfl)) TB c_row_of
  have c_check_plain : C8.Cal P w K mg base 2 "check_plain" (spCheck K) [] := cal_check_plain F_dcheck_plain (He.glo_ok X G (c.fact 22 (f := .glo "check_plain") rfl)) TB c_body_of
  have c_values_in : C8.Cal P w K mg base 2 "values_in" (spValuesIn K) [] := cal_values_in F_dvalues_in (He.glo_ok X G (c.fact 23 (f := .glo "values_in") rfl)) TB c_body_of
  have c_fresh_values : C8.Cal P w K mg base 1 "fresh_values" spFresh [] := cal_fresh_values F_dfresh_values (He.glo_ok X G (c.fact 24 (f := .glo "fresh_values") rfl)) TB
  have c_frozen_body : C8.Cal P w K mg base 5 "frozen_body" (spFrozen P w K (He.ga K "Database") (He.ga K "Relation")) [] := cal_frozen_body F_dfrozen_body (He.glo_ok X G (c.fact 25 (f := .glo "frozen_body") rfl)) TB GV k_Database m_CD_add
  have c_makes_all : C8.Cal P w K mg base 9 "makes_all" (spMakes K) [] := cal_makes_all F_dmakes_all (He.glo_ok X G (c.fact 26 (f := .glo "makes_all") rfl)) TB GV c_check_plain c_body_of c_names_in_body c_fresh_values c_values_in c_frozen_body c_row_of c_rows_made c_answers
  have c__law_number : C8.Cal P w K mg base 1 "_law_number" (spNumber K) [] := cal__law_number F_d_law_number (He.glo_ok X G (c.fact 32 (f := .glo "_law_number") rfl)) TB
  have c__law_take : C8.Cal P w K mg base 1 "_law_take" spTake [] := cal__law_take F_d_law_take (He.glo_ok X G (c.fact 33 (f := .glo "_law_take") rfl)) TB
  have c__law_width : C8.Cal P w K mg base 1 "_law_width" (spWidth K) [] := cal__law_width F_d_law_width (He.glo_ok X G (c.fact 35 (f := .glo "_law_width") rfl)) TB
  have c__law_const : C8.Cal P w K mg base 2 "_law_const" spConst [] := cal__law_const F_d_law_const (He.glo_ok X G (c.fact 36 (f := .glo "_law_const") rfl)) c__law_take
  have c__law_term : C8.Cal P w K mg base 3 "_law_term" (spTerm K) [] := cal__law_term F_d_law_term (He.glo_ok X G (c.fact 37 (f := .glo "_law_term") rfl)) TB c__law_take c__law_const
  have c__law_atom : C8.Cal P w K mg base 4 "_law_atom" (spAtom K) [] := cal__law_atom F_d_law_atom (He.glo_ok X G (c.fact 38 (f := .glo "_law_atom") rfl)) TB c__law_width c__law_term
  have c__law_once : C8.Cal P w K mg base 1 "_law_once" spOnce [] := cal__law_once F_d_law_once (He.glo_ok X G (c.fact 34 (f := .glo "_law_once") rfl)) TB
  have c__law_names : C8.Cal P w K mg base 2 "_law_names" (spNames K) [] := cal__law_names F_d_law_names (He.glo_ok X G (c.fact 39 (f := .glo "_law_names") rfl)) TB c__law_once
  have c__law_plain_rule : C8.Cal P w K mg base 5 "_law_plain_rule" (spPlain K) [] := cal__law_plain_rule F_d_law_plain_rule (He.glo_ok X G (c.fact 40 (f := .glo "_law_plain_rule") rfl)) TB c__law_take c__law_atom c__law_names c__law_term c__law_number
  have c__law_special : C8.Cal P w K mg base 3 "_law_special" (spSpecial K) [] := cal__law_special F_d_law_special (He.glo_ok X G (c.fact 41 (f := .glo "_law_special") rfl)) TB c__law_take c__law_const
  exact ok_law FL TB c_makes_all c_subsumes c__law_number c__law_take c__law_plain_rule c__law_special
theorem facts {P : Program} {w : World} {K : PySem.W.Frag} {h : Heap} {mg : Str → Option Value} {f : Addr} (X : K.In h) (G : h.Ns mainGlobals mg) (hfa : mg ("law" : Str) = some (.ref f)) (c : He.SaysD fa fn K) (m : ex K = true) :
    ∃ fd : FuncData, (∀ (s : Shared) (v : Value), BindsTo s fd ⟨[v], []⟩ [("script", v)]) ∧ ∀ base : Heap, K.In base → base.Ns mainGlobals mg → FnOk P w K mg base CX0 10 f fd ["script"] (spLaw K) := by
  obtain ⟨fd, F⟩ := c.def_ 48 (d := dlaw) rfl
  have e := hfa.symm.trans (He.glo_ok X G (c.fact 43 (f := .glo "law") rfl))
  cases e
  have b := FunD.bindsA (ps := ["script"]) F fun _ _ _ _ _ _ us hl => match us, hl with | [_], _ => rfl
  exact ⟨fd, fun s v => b s [v] rfl, fun base _ _ => allDefs X G c m F⟩
end K86
open PySem PySem.W PySem.Calls PyProof.Rows
theorem PySem.Challenge.cw_herefrom_k86_whole_containment_is_a_mapp_holds : PySem.Challenge.rw_herefrom_k86_whole_containment_is_a_mapp.Holds := by
  w_on; o_law
  refine HandSHeadRun.head_any (r := OpenLaw.row PySem.Challenge.rw_herefrom_k86_whole_containment_is_a_mapp) (q := view (OpenLaw.row PySem.Challenge.rw_herefrom_k86_whole_containment_is_a_mapp).prog [K86.lawAt]) (H := K86.hk) (ob := K86.ob) (M := 4000) (loose := K86.loose) (d := HandSHeadRun.topDef (OpenLaw.row PySem.Challenge.rw_herefrom_k86_whole_containment_is_a_mapp).prog K86.lawAt) (kwd := []) K86.ob_eq
    (by kernel_rfl) (fun s => by kernel_rfl) K86.run (by kernel_rfl) (by kernel_rfl) (by kernel_rfl) (by rfl) (by first | assumption | decide +kernel) (by decide +kernel) ⟨rfl, rfl, rfl, rfl, rfl, by decide +kernel⟩ ?hw ?hc
  case hw => w_witness2
  case hc =>
    refine L2.walk_ofE (l := PySem.Challenge.rw_herefrom_k86_whole_containment_is_a_mapp) (n := 63) (k := 10) (x := "script") (CX := L2.CX0) rfl (by decide) (by kernel_rfl) ⟨rfl, by decide, by decide⟩ ?F (fun _ _ _ _ z => z)
    intro w mg fa h Y G hmg0
    obtain ⟨K, KX, c⟩ := Y
    have hmg : mg ("law" : PySem.Str) = some (.ref fa) := by
      have e : (HandSHeadRun.topDef (OpenLaw.row PySem.Challenge.rw_herefrom_k86_whole_containment_is_a_mapp).prog K86.lawAt).name = ("law" : PySem.Str) := by kernel_rfl
      rw [← e]
      exact hmg0
    obtain ⟨fd, hb, hF⟩ := K86.facts (P := (PySem.Challenge.rw_herefrom_k86_whole_containment_is_a_mapp).prog) (w := w) KX G hmg c.t.d c.more
    exact ⟨K, fd, K86.spLaw K, KX, hb, fun H a ns hl _ hS => ⟨a, ns, rfl, hS, fun _ => rfl⟩, hF⟩
end
