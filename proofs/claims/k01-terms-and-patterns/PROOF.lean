import PyProof.Rows.All
import Wide.All
import OpenK.AllK
import Wide.FinOn
import HandS.ForMost
import HandS.Defaults
import HandS.IsInst
import HandS.TupAny
import HandS.TupMul
import HandS.Conv
import HandS.Flow
import HandS.Walk
import KE.KUnpackStar
import HandS.Steps
import PySem.Challenge.RW_likematch_k01_terms_and_patterns
set_option Elab.async false
set_option linter.all false
set_option maxRecDepth 100000
set_option maxHeartbeats 4000000
/-! The data layer: Python data as plain trees over the hand layer's heap. -/
namespace DL
open PySem L2

/-- plain data -/
inductive D where
  | non
  | bl (b : Bool)
  | int (i : Int)
  | str (x : Str)
  | tup (xs : List D)
  | lst (xs : List D)
  | dct (kvs : List (Key × D))
  | ref (a : Addr)
  | ty (n : String)

abbrev Own := Addr → Prop

mutual
/-- the value v stands for the data d; no list or dict of it is one that own names -/
inductive Is (own : Own) (H : Hp) : V → D → Prop
  | non : Is own H .non .non
  | bl (b : Bool) : Is own H (.bl b) (.bl b)
  | int (i : Int) : Is own H (.int i) (.int i)
  | str (x : Str) : Is own H (.str x) (.str x)
  | tup {a : Addr} {vs : List V} {ds : List D} : H a = some (.tup vs) → ¬ own a → IsAll own H vs ds → Is own H (.ref a) (.tup ds)
  | lst {a : Addr} {vs : List V} {ds : List D} : H a = some (.lst vs) → ¬ own a → IsAll own H vs ds → Is own H (.ref a) (.lst ds)
  | dct {a : Addr} {kvs : List (Key × V)} {ds : List (Key × D)} : H a = some (.dK kvs) → ¬ own a → IsKV own H kvs ds → Is own H (.ref a) (.dct ds)
  | ref (a : Addr) : Is own H (.ref a) (.ref a)
  | ty (n : String) : Is own H (.ty n) (.ty n)
inductive IsAll (own : Own) (H : Hp) : List V → List D → Prop
  | nil : IsAll own H [] []
  | cons {v : V} {vs : List V} {d : D} {ds : List D} : Is own H v d → IsAll own H vs ds → IsAll own H (v :: vs) (d :: ds)
inductive IsKV (own : Own) (H : Hp) : List (Key × V) → List (Key × D) → Prop
  | nil : IsKV own H [] []
  | cons {k : Key} {v : V} {vs : List (Key × V)} {d : D} {ds : List (Key × D)} : Is own H v d → IsKV own H vs ds → IsKV own H ((k, v) :: vs) ((k, d) :: ds)
end

/-- what own does not name stands as it stood, and is not named later -/
def Kp (own : Own) (H : Hp) (own' : Own) (H' : Hp) : Prop := ∀ a o, H a = some o → ¬ own a → H' a = some o ∧ ¬ own' a
theorem Kp.refl {own : Own} {H : Hp} : Kp own H own H := fun _ _ h n => ⟨h, n⟩
theorem Kp.trans {o1 o2 o3 : Own} {H1 H2 H3 : Hp} (a : Kp o1 H1 o2 H2) (b : Kp o2 H2 o3 H3) : Kp o1 H1 o3 H3 := fun x o h n => by
  obtain ⟨h2, n2⟩ := a x o h n
  exact b x o h2 n2
theorem Kp.same {own : Own} {H H' : Hp} (e : Same H H') : Kp own H own H' := fun a o h n => ⟨e a o h, n⟩

mutual
theorem Is.mono {own own' : Own} {H H' : Hp} (k : Kp own H own' H') : ∀ (d : D) {v : V}, Is own H v d → Is own' H' v d
  | .non, _, h => by cases h; exact .non
  | .bl b, _, h => by cases h; exact .bl b
  | .int i, _, h => by cases h; exact .int i
  | .str x, _, h => by cases h; exact .str x
  | .ref a, _, h => by cases h; exact .ref a
  | .ty n, _, h => by cases h; exact .ty n
  | .tup ds, _, h => by
    cases h with
    | tup ha n hs => exact .tup (k _ _ ha n).1 (k _ _ ha n).2 (IsAll.mono k ds hs)
  | .lst ds, _, h => by
    cases h with
    | lst ha n hs => exact .lst (k _ _ ha n).1 (k _ _ ha n).2 (IsAll.mono k ds hs)
  | .dct ds, _, h => by
    cases h with
    | dct ha n hs => exact .dct (k _ _ ha n).1 (k _ _ ha n).2 (IsKV.mono k ds hs)
theorem IsAll.mono {own own' : Own} {H H' : Hp} (k : Kp own H own' H') : ∀ (ds : List D) {vs : List V}, IsAll own H vs ds → IsAll own' H' vs ds
  | [], _, h => by cases h; exact .nil
  | d :: ds, _, h => by
    cases h with
    | cons h1 h2 => exact .cons (Is.mono k d h1) (IsAll.mono k ds h2)
theorem IsKV.mono {own own' : Own} {H H' : Hp} (k : Kp own H own' H') : ∀ (ds : List (Key × D)) {vs : List (Key × V)}, IsKV own H vs ds → IsKV own' H' vs ds
  | [], _, h => by cases h; exact .nil
  | (_, d) :: ds, _, h => by
    cases h with
    | cons h1 h2 => exact .cons (Is.mono k d h1) (IsKV.mono k ds h2)
end
section
variable {own own' : Own} {H H' : Hp} {v : V} {d : D} {vs ws : List V} {ds es : List D}
theorem Is.kp (h : Is own H v d) (k : Kp own H own' H') : Is own' H' v d := Is.mono k d h
theorem Is.same (h : Is own H v d) (e : Same H H') : Is own H' v d := Is.mono (Kp.same e) d h
theorem IsAll.kp (h : IsAll own H vs ds) (k : Kp own H own' H') : IsAll own' H' vs ds := IsAll.mono k ds h
theorem IsAll.same (h : IsAll own H vs ds) (e : Same H H') : IsAll own H' vs ds := IsAll.mono (Kp.same e) ds h
theorem IsAll.length : ∀ {vs : List V} {ds : List D}, IsAll own H vs ds → vs.length = ds.length
  | _, _, .nil => rfl
  | _, _, .cons _ t => congrArg Nat.succ t.length
theorem IsAll.get : ∀ {vs : List V} {ds : List D} {i : Nat} {d : D}, IsAll own H vs ds → ds[i]? = some d → ∃ v, vs[i]? = some v ∧ Is own H v d
  | _, _, _, _, .nil, e => by simp at e
  | _, _, 0, _, .cons r _, e => by simp at e; subst e; exact ⟨_, rfl, r⟩
  | _, _, i + 1, d, .cons _ t, e => by
    obtain ⟨v, h1, h2⟩ := IsAll.get (i := i) (d := d) t (by simpa using e)
    exact ⟨v, by simpa using h1, h2⟩
theorem IsAll.getV : ∀ {vs : List V} {ds : List D} {i : Nat} {v : V}, IsAll own H vs ds → vs[i]? = some v → ∃ d, ds[i]? = some d ∧ Is own H v d
  | _, _, _, _, .nil, e => by simp at e
  | _, _, 0, _, .cons r _, e => by simp at e; subst e; exact ⟨_, rfl, r⟩
  | _, _, i + 1, d, .cons _ t, e => by
    obtain ⟨v, h1, h2⟩ := IsAll.getV (i := i) (v := d) t (by simpa using e)
    exact ⟨v, by simpa using h1, h2⟩
theorem IsAll.append : ∀ {vs ws : List V} {ds es : List D}, IsAll own H vs ds → IsAll own H ws es → IsAll own H (vs ++ ws) (ds ++ es)
  | _, _, _, _, .nil, s => s
  | _, _, _, _, .cons r t, s => .cons r (t.append s)
theorem IsAll.take : ∀ {vs : List V} {ds : List D} (n : Nat), IsAll own H vs ds → IsAll own H (vs.take n) (ds.take n)
  | _, _, 0, _ => .nil
  | _, _, _ + 1, .nil => .nil
  | _, _, n + 1, .cons r t => .cons r (t.take n)
theorem IsAll.drop : ∀ {vs : List V} {ds : List D} (n : Nat), IsAll own H vs ds → IsAll own H (vs.drop n) (ds.drop n)
  | _, _, 0, r => r
  | _, _, _ + 1, .nil => .nil
  | _, _, n + 1, .cons _ t => t.drop n
theorem IsAll.one (h : Is own H v d) : IsAll own H [v] [d] := .cons h .nil
theorem IsAll.set : ∀ {vs : List V} {ds : List D} (i : Nat), Is own H v d → IsAll own H vs ds → IsAll own H (vs.set i v) (ds.set i d)
  | _, _, _, _, .nil => .nil
  | _, _, 0, h, .cons _ t => .cons h t
  | _, _, i + 1, h, .cons q t => .cons q (t.set i h)
theorem IsAll.rep (h : IsAll own H vs ds) : ∀ n : Nat, IsAll own H (List.replicate n vs).flatten (List.replicate n ds).flatten
  | 0 => .nil
  | n + 1 => by
    rw [List.replicate_succ, List.replicate_succ, List.flatten_cons, List.flatten_cons]
    exact h.append (IsAll.rep h n)
theorem IsAll.ints : ∀ {vs : List V} {ns : List Int}, IsAll own H vs (ns.map D.int) → vs = ns.map V.int
  | _, [], h => by cases h; rfl
  | _, n :: ns, h => by
    cases h with
    | cons h1 h2 =>
      cases h1
      rw [IsAll.ints h2, List.map_cons]
theorem IsAll.bls : ∀ {vs : List V} {bs : List Bool}, IsAll own H vs (bs.map D.bl) → vs = bs.map V.bl
  | _, [], h => by cases h; rfl
  | _, n :: ns, h => by
    cases h with
    | cons h1 h2 =>
      cases h1
      rw [IsAll.bls h2, List.map_cons]
theorem IsAll.strs : ∀ {vs : List V} {bs : List Str}, IsAll own H vs (bs.map D.str) → vs = bs.map V.str
  | _, [], h => by cases h; rfl
  | _, n :: ns, h => by
    cases h with
    | cons h1 h2 =>
      cases h1
      rw [IsAll.strs h2, List.map_cons]
theorem IsAll.ofInts : ∀ (ns : List Int), IsAll own H (ns.map V.int) (ns.map D.int)
  | [] => .nil
  | n :: ns => .cons (.int n) (IsAll.ofInts ns)
theorem IsAll.ofBls : ∀ (ns : List Bool), IsAll own H (ns.map V.bl) (ns.map D.bl)
  | [] => .nil
  | n :: ns => .cons (.bl n) (IsAll.ofBls ns)
theorem IsAll.ofStrs : ∀ (ns : List Str), IsAll own H (ns.map V.str) (ns.map D.str)
  | [] => .nil
  | n :: ns => .cons (.str n) (IsAll.ofStrs ns)
/-- own names what stands -/
def OwnOk (own : Own) (H : Hp) : Prop := ∀ a, own a → H a ≠ none
theorem OwnOk.new {a : Addr} (o : OwnOk own H) (h : H a = none) : ¬ own a := fun q => o a q h
theorem OwnOk.same (o : OwnOk own H) (e : Same H H') : OwnOk own H' := fun a q h => by
  cases x : H a with
  | none => exact o a q x
  | some u => rw [e a u x] at h; cases h
theorem same_new {p : Addr} {o : HO} (h : H p = none) : Same H (upd H p o) := fun b u q => by
  rw [upd_ne (ne_of_none q h)]
  exact q
theorem Is.newTup {p : Addr} (o : OwnOk own H) (h : H p = none) (hs : IsAll own H vs ds) : Is own (upd H p (.tup vs)) (.ref p) (.tup ds) :=
  .tup upd_same (o.new h) (hs.same (same_new h))
theorem Is.newLst {p : Addr} (o : OwnOk own H) (h : H p = none) (hs : IsAll own H vs ds) : Is own (upd H p (.lst vs)) (.ref p) (.lst ds) :=
  .lst upd_same (o.new h) (hs.same (same_new h))
end

/-! ### the slots -/
abbrev Env := List (Option D)
inductive EnvR (own : Own) (H : Hp) : L2.St → Env → Prop
  | nil : EnvR own H [] []
  | skip {o : Option V} {σ : L2.St} {δ : Env} : EnvR own H σ δ → EnvR own H (o :: σ) (none :: δ)
  | cons {v : V} {d : D} {σ : L2.St} {δ : Env} : Is own H v d → EnvR own H σ δ → EnvR own H (some v :: σ) (some d :: δ)
section
variable {own own' : Own} {H H' : Hp} {σ : L2.St} {δ : Env} {v : V} {d : D}
theorem EnvR.kp (k : Kp own H own' H') : ∀ {σ : L2.St} {δ : Env}, EnvR own H σ δ → EnvR own' H' σ δ
  | _, _, .nil => .nil
  | _, _, .skip t => .skip (EnvR.kp k t)
  | _, _, .cons h t => .cons (h.kp k) (EnvR.kp k t)
theorem EnvR.same (h : EnvR own H σ δ) (e : Same H H') : EnvR own H' σ δ := h.kp (Kp.same e)
theorem EnvR.get : ∀ {σ : L2.St} {δ : Env} {i : Nat} {d : D}, EnvR own H σ δ → δ[i]? = some (some d) → ∃ v, σ[i]? = some (some v) ∧ Is own H v d
  | _, _, _, _, .nil, e => by simp at e
  | _, _, 0, _, .skip _, e => by simp at e
  | _, _, 0, _, .cons h _, e => by simp at e; subst e; exact ⟨_, rfl, h⟩
  | _, _, i + 1, d, .skip t, e => by
    obtain ⟨v, h1, h2⟩ := EnvR.get (i := i) (d := d) t (by simpa using e)
    exact ⟨v, by simpa using h1, h2⟩
  | _, _, i + 1, d, .cons _ t, e => by
    obtain ⟨v, h1, h2⟩ := EnvR.get (i := i) (d := d) t (by simpa using e)
    exact ⟨v, by simpa using h1, h2⟩
theorem EnvR.set : ∀ {σ : L2.St} {δ : Env} (i : Nat), Is own H v d → EnvR own H σ δ → EnvR own H (σ.set i (some v)) (δ.set i (some d))
  | _, _, _, _, .nil => .nil
  | _, _, 0, h, .skip t => .cons h t
  | _, _, 0, h, .cons _ t => .cons h t
  | _, _, i + 1, h, .skip t => .skip (t.set i h)
  | _, _, i + 1, h, .cons q t => .cons q (t.set i h)
theorem EnvR.drop : ∀ {σ : L2.St} {δ : Env} (i : Nat), EnvR own H σ δ → EnvR own H (σ.set i none) (δ.set i none)
  | _, _, _, .nil => .nil
  | _, _, 0, .skip t => .skip t
  | _, _, 0, .cons _ t => .skip t
  | _, _, i + 1, .skip t => .skip (t.drop i)
  | _, _, i + 1, .cons q t => .cons q (t.drop i)
/-- a slot is forgotten -/
theorem EnvR.forget : ∀ {σ : L2.St} {δ : Env} (i : Nat), EnvR own H σ δ → EnvR own H σ (δ.set i none)
  | _, _, _, .nil => .nil
  | _, _, 0, .skip t => .skip t
  | _, _, 0, .cons _ t => .skip t
  | _, _, i + 1, .skip t => .skip (t.forget i)
  | _, _, i + 1, .cons q t => .cons q (t.forget i)
def wipeD (δ : Env) : List Nat → Env
  | [] => δ
  | v :: vs => (wipeD δ vs).set v none
theorem EnvR.wipe (h : EnvR own H σ δ) : ∀ vs : List Nat, EnvR own H (L2.wipe σ vs) (wipeD δ vs)
  | [] => h
  | v :: vs => (EnvR.wipe h vs).drop v
theorem EnvR.start : ∀ {vs : List V} {ds : List D}, IsAll own H vs ds → ∀ n : Nat, EnvR own H (vs.map some ++ List.replicate n none) (ds.map some ++ List.replicate n none)
  | _, _, .nil, 0 => .nil
  | _, _, .nil, n + 1 => .skip (EnvR.start .nil n)
  | _, _, .cons h t, n => .cons h (EnvR.start t n)
end
end DL

set_option Elab.async false
set_option linter.all false
set_option maxRecDepth 100000
set_option maxHeartbeats 4000000
namespace DL
open PySem L2

/-! ### pure readings: what t gives, nothing being changed -/
def EvP (t : TE) (δ : Env) (d : D) : Prop := ∀ (own : Own) (σ : L2.St) (H : Hp), OwnOk own H → EnvR own H σ δ → ∀ Q : VK, (∀ v H', Same H H' → Is own H' v d → Q v H') → t σ H Q
def EtP (t : TT) (δ : Env) (b : Bool) : Prop := ∀ (own : Own) (σ : L2.St) (H : Hp), OwnOk own H → EnvR own H σ δ → ∀ Q : Bool → Hp → Prop, (∀ H', Same H H' → Q b H') → t σ H Q
def EaP (t : TA) (δ : Env) (ds : List D) : Prop := ∀ (own : Own) (σ : L2.St) (H : Hp), OwnOk own H → EnvR own H σ δ → ∀ Q : List V → Hp → Prop, (∀ vs H', Same H H' → IsAll own H' vs ds → Q vs H') → t σ H Q
def EoP (t : TO) (δ : Env) (o : Option Int) : Prop := ∀ (own : Own) (σ : L2.St) (H : Hp), OwnOk own H → EnvR own H σ δ → ∀ Q : Option Int → Hp → Prop, (∀ H', Same H H' → Q o H') → t σ H Q
/-- an operation on values, a call on values, a slice -/
def RvP (r : R2) (d e z : D) : Prop := ∀ (own : Own) (H : Hp) (x y : V), OwnOk own H → Is own H x d → Is own H y e → ∀ Q : VK, (∀ v H', Same H H' → Is own H' v z → Q v H') → r x y H Q
def RuP (r : V → Hp → VK → Prop) (d z : D) : Prop := ∀ (own : Own) (H : Hp) (x : V), OwnOk own H → Is own H x d → ∀ Q : VK, (∀ v H', Same H H' → Is own H' v z → Q v H') → r x H Q
def RcP (r : List V → Hp → VK → Prop) (ds : List D) (z : D) : Prop := ∀ (own : Own) (H : Hp) (xs : List V), OwnOk own H → IsAll own H xs ds → ∀ Q : VK, (∀ v H', Same H H' → Is own H' v z → Q v H') → r xs H Q
def RsP (r : V → Option Int → Option Int → Hp → VK → Prop) (d : D) (lo hi : Option Int) (z : D) : Prop := ∀ (own : Own) (H : Hp) (x : V), OwnOk own H → Is own H x d → ∀ Q : VK, (∀ v H', Same H H' → Is own H' v z → Q v H') → r x lo hi H Q
def RmP (r : V → List V → Hp → VK → Prop) (d : D) (ds : List D) (z : D) : Prop := ∀ (own : Own) (H : Hp) (x : V) (xs : List V), OwnOk own H → Is own H x d → IsAll own H xs ds → ∀ Q : VK, (∀ v H', Same H H' → Is own H' v z → Q v H') → r x xs H Q

section
variable {δ : Env} {ta tb tc te : TE} {t u : TT} {d e z : D} {ds : List D} {b c : Bool} {r r' : R2}
theorem p_var {i : Nat} (h : δ[i]? = some (some d)) : EvP (tVar i) δ d := fun own σ H _ E Q q => by
  obtain ⟨v, hv, hi⟩ := E.get h
  exact ⟨v, hv, q v H (Same.refl H) hi⟩
theorem p_int {i : Int} : EvP (tC (.int i)) δ (.int i) := fun _ _ H _ _ _ q => q _ H (Same.refl H) (.int i)
theorem p_str {x : Str} : EvP (tC (.str x)) δ (.str x) := fun _ _ H _ _ _ q => q _ H (Same.refl H) (.str x)
theorem p_bl {x : Bool} : EvP (tC (.bl x)) δ (.bl x) := fun _ _ H _ _ _ q => q _ H (Same.refl H) (.bl x)
theorem p_non : EvP (tC .non) δ .non := fun _ _ H _ _ _ q => q _ H (Same.refl H) .non
theorem p_is (h : EvP te δ d) (e' : d = e) : EvP te δ e := e' ▸ h
theorem pt_is (h : EtP t δ b) (e' : b = c) : EtP t δ c := e' ▸ h
theorem p_op (ha : EvP ta δ d) (hb : EvP tb δ e) (hr : RvP r d e z) : EvP (tOp r ta tb) δ z := fun own σ H o E Q q =>
  ha own σ H o E _ fun v H1 s1 i1 => hb own σ H1 (o.same s1) (E.same s1) _ fun u H2 s2 i2 =>
    hr own H2 v u ((o.same s1).same s2) (i1.same s2) i2 Q fun w H3 s3 i3 => q w H3 ((s1.trans s2).trans s3) i3
theorem p_un {r : V → Hp → VK → Prop} (ha : EvP ta δ d) (hr : RuP r d z) : EvP (tUn r ta) δ z := fun own σ H o E Q q =>
  ha own σ H o E _ fun v H1 s1 i1 => hr own H1 v (o.same s1) i1 Q fun w H3 s3 i3 => q w H3 (s1.trans s3) i3
/-- a op b op c -/
theorem p_chain {f : D} (ha : EvP ta δ d) (hb : EvP tb δ e) (hr : RvP r d e (.bl b)) (hc : b = true → EvP tc δ f ∧ RvP r' e f (.bl c)) : EvP (tChain r r' ta tb tc) δ (.bl (b && c)) := fun own σ H o E Q q =>
  ha own σ H o E _ fun v H1 s1 i1 => hb own σ H1 (o.same s1) (E.same s1) _ fun u H2 s2 i2 => by
    have o2 := (o.same s1).same s2
    refine hr own H2 v u o2 (i1.same s2) i2 _ fun w H3 s3 i3 => ?_
    cases i3
    refine ⟨b, rfl, ?_⟩
    cases b with
    | false => exact q _ H3 ((s1.trans s2).trans s3) (.bl false)
    | true =>
      obtain ⟨hc1, hc2⟩ := hc rfl
      show tc σ H3 _
      exact hc1 own σ H3 (o2.same s3) (((E.same s1).same s2).same s3) _ fun w' H4 s4 i4 =>
        hc2 own H4 u w' ((o2.same s3).same s4) ((i2.same s3).same s4) i4 Q fun y H5 s5 i5 => q y H5 ((((s1.trans s2).trans s3).trans s4).trans s5) i5
theorem pt_test (h : EvP te δ (.bl b)) : EtP (tTest te) δ b := fun own σ H o E Q q => h own σ H o E _ fun v H1 s1 i1 => by
  cases i1
  exact ⟨b, rfl, q H1 s1⟩
theorem pt_B (h : EvP te δ (.bl b)) : EtP (tB te) δ b := fun own σ H o E Q q => h own σ H o E _ fun v H1 s1 i1 => by
  cases i1
  exact ⟨b, rfl, q H1 s1⟩
theorem pt_notP (h : EtP t δ b) : EtP (tNot t) δ (!b) := fun own σ H o E Q q => h own σ H o E _ fun H1 s1 => q H1 s1
theorem pt_and (h1 : EtP t δ b) (h2 : b = true → EtP u δ c) : EtP (tAnd t u) δ (b && c) := fun own σ H o E Q q => h1 own σ H o E _ fun H1 s1 => by
  cases b with
  | true => exact h2 rfl own σ H1 (o.same s1) (E.same s1) Q fun H2 s2 => q H2 (s1.trans s2)
  | false => exact q H1 s1
theorem pt_or (h1 : EtP t δ b) (h2 : b = false → EtP u δ c) : EtP (tOr t u) δ (b || c) := fun own σ H o E Q q => h1 own σ H o E _ fun H1 s1 => by
  cases b with
  | false => exact h2 rfl own σ H1 (o.same s1) (E.same s1) Q fun H2 s2 => q H2 (s1.trans s2)
  | true => exact q H1 s1
theorem p_and (h1 : EvP ta δ (.bl b)) (h2 : b = true → EvP tb δ (.bl c)) : EvP (tAndV ta tb) δ (.bl (b && c)) := fun own σ H o E Q q => h1 own σ H o E _ fun v H1 s1 i1 => by
  cases i1
  refine ⟨b, rfl, ?_⟩
  cases b with
  | true => exact h2 rfl own σ H1 (o.same s1) (E.same s1) Q fun w H2 s2 i2 => q w H2 (s1.trans s2) i2
  | false => exact q _ H1 s1 (.bl false)
theorem p_or (h1 : EvP ta δ (.bl b)) (h2 : b = false → EvP tb δ (.bl c)) : EvP (tOrV ta tb) δ (.bl (b || c)) := fun own σ H o E Q q => h1 own σ H o E _ fun v H1 s1 i1 => by
  cases i1
  refine ⟨b, rfl, ?_⟩
  cases b with
  | false => exact h2 rfl own σ H1 (o.same s1) (E.same s1) Q fun w H2 s2 i2 => q w H2 (s1.trans s2) i2
  | true => exact q _ H1 s1 (.bl true)
theorem p_not (h1 : EvP ta δ (.bl b)) : EvP (tNotV ta) δ (.bl (!b)) := fun own σ H o E Q q => h1 own σ H o E _ fun v H1 s1 i1 => by
  cases i1
  exact ⟨b, rfl, q _ H1 s1 (.bl _)⟩
theorem p_if (h : EtP t δ b) (h1 : b = true → EvP ta δ d) (h2 : b = false → EvP tb δ d) : EvP (tIf t ta tb) δ d := fun own σ H o E Q q => h own σ H o E _ fun H1 s1 => by
  cases b with
  | true => exact h1 rfl own σ H1 (o.same s1) (E.same s1) Q fun w H2 s2 i2 => q w H2 (s1.trans s2) i2
  | false => exact h2 rfl own σ H1 (o.same s1) (E.same s1) Q fun w H2 s2 i2 => q w H2 (s1.trans s2) i2
theorem a_nil : EaP tNil δ [] := fun own σ H o E Q q => q [] H (Same.refl H) .nil
theorem a_cons {ta : TE} {tr : TA} (h : EvP ta δ d) (hr : EaP tr δ ds) : EaP (tCons ta tr) δ (d :: ds) := fun own σ H o E Q q =>
  h own σ H o E _ fun v H1 s1 i1 => hr own σ H1 (o.same s1) (E.same s1) _ fun vs H2 s2 i2 => q _ H2 (s1.trans s2) (.cons (i1.same s2) i2)
theorem p_tup {ta : TA} (h : EaP ta δ ds) (hl : ds.length ≤ sizeLine) : EvP (tTup ta) δ (.tup ds) := fun own σ H o E Q q =>
  h own σ H o E _ fun vs H1 s1 i1 => ⟨by rw [i1.length]; exact hl, fun p hp => q _ _ (s1.trans (same_new hp)) (Is.newTup (o.same s1) hp i1)⟩
theorem p_lst {ta : TA} (h : EaP ta δ ds) (hl : ds.length ≤ sizeLine) : EvP (tLst ta) δ (.lst ds) := fun own σ H o E Q q =>
  h own σ H o E _ fun vs H1 s1 i1 => ⟨by rw [i1.length]; exact hl, fun p hp => q _ _ (s1.trans (same_new hp)) (Is.newLst (o.same s1) hp i1)⟩
theorem p_cb {r : List V → Hp → VK → Prop} {ta : TA} (h : EaP ta δ ds) (hr : RcP r ds z) : EvP (tCB r ta) δ z := fun own σ H o E Q q =>
  h own σ H o E _ fun vs H1 s1 i1 => hr own H1 vs (o.same s1) i1 Q fun w H2 s2 i2 => q w H2 (s1.trans s2) i2
theorem o_none : EoP tNoPart δ none := fun own σ H o E Q q => q H (Same.refl H)
theorem o_some {i : Int} (h : EvP te δ (.int i)) : EoP (tPart te) δ (some i) := fun own σ H o E Q q => h own σ H o E _ fun v H1 s1 i1 => by
  cases i1
  exact ⟨i, rfl, q H1 s1⟩
theorem p_slice {r : V → Option Int → Option Int → Hp → VK → Prop} {tl th : TO} {lo hi : Option Int} (h : EvP te δ d) (hl : EoP tl δ lo) (hh : EoP th δ hi) (hr : RsP r d lo hi z) : EvP (tSl r te tl th) δ z := fun own σ H o E Q q =>
  h own σ H o E _ fun v H1 s1 i1 => hl own σ H1 (o.same s1) (E.same s1) _ fun H2 s2 => hh own σ H2 ((o.same s1).same s2) ((E.same s1).same s2) _ fun H3 s3 =>
    hr own H3 v (((o.same s1).same s2).same s3) ((i1.same s2).same s3) Q fun w H4 s4 i4 => q w H4 (((s1.trans s2).trans s3).trans s4) i4
theorem p_then {k : V → Hp → VK → Prop} (h : EvP ta δ d) (hr : RuP k d z) : EvP (tThen ta k) δ z := fun own σ H o E Q q =>
  h own σ H o E _ fun v H1 s1 i1 => hr own H1 v (o.same s1) i1 Q fun w H2 s2 i2 => q w H2 (s1.trans s2) i2

/-! ### operations -/
theorem rv_int {g : Int → Int → Int} {i j : Int} : RvP (rI0 fun i j => .int (g i j)) (.int i) (.int j) (.int (g i j)) := fun own H x y o hx hy Q q => by
  cases hx; cases hy
  exact ⟨i, j, rfl, rfl, q _ H (Same.refl H) (.int _)⟩
theorem rv_intB {g : Int → Int → Bool} {i j : Int} : RvP (rI0 fun i j => .bl (g i j)) (.int i) (.int j) (.bl (g i j)) := fun own H x y o hx hy Q q => by
  cases hx; cases hy
  exact ⟨i, j, rfl, rfl, q _ H (Same.refl H) (.bl _)⟩
theorem rv_intC {C : Int → Int → Prop} {g : Int → Int → Int} {i j : Int} (h : C i j) : RvP (rI C fun i j => .int (g i j)) (.int i) (.int j) (.int (g i j)) := fun own H x y o hx hy Q q => by
  cases hx; cases hy
  exact ⟨i, j, rfl, rfl, h, q _ H (Same.refl H) (.int _)⟩
theorem rv_inl (h : RvP r d e z) : RvP (fun x y H Q => r x y H Q ∨ r' x y H Q) d e z := fun own H x y o hx hy Q q => .inl (h own H x y o hx hy Q q)
theorem rv_inr (h : RvP r' d e z) : RvP (fun x y H Q => r x y H Q ∨ r' x y H Q) d e z := fun own H x y o hx hy Q q => .inr (h own H x y o hx hy Q q)

/-! ### + -/
def rStrAdd : R2 := fun x y H Q => ∃ i j, x = .str i ∧ y = .str j ∧ i.length + j.length ≤ sizeLine ∧ Q (.str (i ++ j)) H
def rAddA (K : PySem.W.Frag) : R2 := fun x y H Q => (rI0 fun i j => .int (i + j)) x y H Q ∨ (rStrAdd x y H Q ∨ (rCat x y H Q ∨ rCatA K x y H Q))
theorem op_addA {X : Cx} : OpR X (binaryOp .Add) (rAddA X.K) := op_add.or ((show OpR X (binaryOp .Add) rStrAdd from op_add_str).or (op_cat.or op_catA))
variable {K : PySem.W.Frag}
theorem add_int {i j : Int} : RvP (rAddA K) (.int i) (.int j) (.int (i + j)) := rv_inl rv_int
theorem add_str {x y : Str} (hl : x.length + y.length ≤ sizeLine) : RvP (rAddA K) (.str x) (.str y) (.str (x ++ y)) := rv_inr (rv_inl fun own H _ _ o hx hy Q q => by
  cases hx; cases hy
  exact ⟨x, y, rfl, rfl, hl, q _ H (Same.refl H) (.str _)⟩)
theorem add_lst {xs ys : List D} (hl : xs.length + ys.length ≤ sizeLine) : RvP (rAddA K) (.lst xs) (.lst ys) (.lst (xs ++ ys)) := rv_inr (rv_inr (rv_inl fun own H _ _ o hx hy Q q => by
  cases hx with
  | lst h1 n1 a1 =>
    cases hy with
    | lst h2 n2 a2 =>
      exact ⟨_, _, _, _, rfl, rfl, h1, h2, by rw [a1.length, a2.length]; exact hl, fun p hp => q _ _ (same_new hp) (Is.newLst o hp (a1.append a2))⟩))
theorem add_tup {xs ys : List D} (hl : xs.length + ys.length ≤ sizeLine) : RvP (rAddA K) (.tup xs) (.tup ys) (.tup (xs ++ ys)) := rv_inr (rv_inr (rv_inr fun own H x y o hx hy Q q => by
  have hx' := hx
  have hy' := hy
  cases hx with
  | tup h1 n1 a1 =>
    cases hy with
    | tup h2 n2 a2 =>
      refine ⟨_, _, _, _, rfl, rfl, SqT.of h1, SqT.of h2, by rw [a1.length, a2.length]; exact hl, fun e => ?_, fun _ e => ?_, fun _ _ p hp => q _ _ (same_new hp) (Is.newTup o hp (a1.append a2))⟩
      · subst e
        cases a1
        exact q _ H (Same.refl H) hy'
      · subst e
        cases a2
        rw [List.append_nil] at q
        exact q _ H (Same.refl H) hx'))

/-! ### comparisons -/
mutual
def toPy : D → PyData
  | .non => .none
  | .bl b => .bool b
  | .int i => .int i
  | .str x => .str x
  | .tup xs => .tuple (toPys xs)
  | .lst xs => .list (toPys xs)
  | .dct _ => .none
  | .ref _ => .none
  | .ty _ => .none
def toPys : List D → List PyData
  | [] => []
  | x :: xs => toPy x :: toPys xs
end
mutual
/-- it has no dict and no object, and its texts are of Python's signs -/
def plain : D → Bool
  | .non => true
  | .bl _ => true
  | .int _ => true
  | .str x => PyData.strOk x
  | .tup xs => plains xs
  | .lst xs => plains xs
  | .dct _ => false
  | .ref _ => false
  | .ty _ => false
def plains : List D → Bool
  | [] => true
  | x :: xs => plain x && plains xs
end
mutual
def deepD : D → Nat
  | .non => 0
  | .bl _ => 0
  | .int _ => 0
  | .str _ => 0
  | .tup xs => deepDs xs + 1
  | .lst xs => deepDs xs + 1
  | .dct _ => 0
  | .ref _ => 0
  | .ty _ => 0
def deepDs : List D → Nat
  | [] => 0
  | x :: xs => max (deepD x) (deepDs xs)
end
mutual
theorem Is.dp {own : Own} {H : Hp} : ∀ (d : D) {v : V}, plain d = true → Is own H v d → Dp K H v (toPy d)
  | .non, _, _, h => by cases h; exact .non
  | .bl b, _, _, h => by cases h; exact .bl b
  | .int i, _, _, h => by cases h; exact .int i
  | .str x, _, _, h => by cases h; exact .str x
  | .ref a, _, p, h => by simp [plain] at p
  | .ty a, _, p, h => by simp [plain] at p
  | .dct ds, _, p, h => by simp [plain] at p
  | .tup ds, _, p, h => by
    cases h with
    | tup ha n hs => exact .tup (SqT.of ha) (IsAll.dp ds (by simpa [plain] using p) hs)
  | .lst ds, _, p, h => by
    cases h with
    | lst ha n hs => exact .lst (SqL.of ha) (IsAll.dp ds (by simpa [plain] using p) hs)
theorem IsAll.dp {own : Own} {H : Hp} : ∀ (ds : List D) {vs : List V}, plains ds = true → IsAll own H vs ds → DpAll K H vs (toPys ds)
  | [], _, _, h => by cases h; exact .nil
  | d :: ds, _, p, h => by
    have p' : plain d = true ∧ plains ds = true := by simpa [plains] using p
    cases h with
    | cons h1 h2 => exact .cons (Is.dp d p'.1 h1) (IsAll.dp ds p'.2 h2)
end
mutual
theorem canLay_toPy : ∀ d : D, plain d = true → (toPy d).canLay0 = true
  | .non, _ => by simp [toPy, PyData.canLay0]
  | .bl b, _ => by simp [toPy, PyData.canLay0]
  | .int i, _ => by simp [toPy, PyData.canLay0]
  | .str x, p => by simpa [toPy, PyData.canLay0, plain] using p
  | .ref a, p => by simp [plain] at p
  | .ty a, p => by simp [plain] at p
  | .dct ds, p => by simp [plain] at p
  | .tup ds, p => by
    have := canLay_toPys ds (by simpa [plain] using p)
    simpa [toPy, PyData.canLay0] using this
  | .lst ds, p => by
    have := canLay_toPys ds (by simpa [plain] using p)
    simpa [toPy, PyData.canLay0] using this
theorem canLay_toPys : ∀ ds : List D, plains ds = true → PyData.canLayAll0 (toPys ds) = true
  | [], _ => by simp [toPys, PyData.canLayAll0]
  | d :: ds, p => by
    have p' : plain d = true ∧ plains ds = true := by simpa [plains] using p
    simp [toPys, PyData.canLayAll0, canLay_toPy d p'.1, canLay_toPys ds p'.2]
end
mutual
theorem depth_toPy : ∀ d : D, (toPy d).depth = deepD d
  | .non => by simp [toPy, PyData.depth, deepD]
  | .bl b => by simp [toPy, PyData.depth, deepD]
  | .int i => by simp [toPy, PyData.depth, deepD]
  | .str x => by simp [toPy, PyData.depth, deepD]
  | .ref a => by simp [toPy, PyData.depth, deepD]
  | .ty a => by simp [toPy, PyData.depth, deepD]
  | .dct ds => by simp [toPy, PyData.depth, deepD]
  | .tup ds => by simp [toPy, PyData.depth, deepD, depth_toPys ds]
  | .lst ds => by simp [toPy, PyData.depth, deepD, depth_toPys ds]
theorem depth_toPys : ∀ ds : List D, PyData.depthAll (toPys ds) = deepDs ds
  | [] => by simp [toPys, PyData.depthAll, deepDs]
  | d :: ds => by simp [toPys, PyData.depthAll, deepDs, depth_toPy d, depth_toPys ds]
end
/-- it may be compared -/
def cmpOk (d : D) : Prop := plain d = true ∧ deepD d ≤ 64
theorem cmpOk.shaped (h : cmpOk d) : SeqAt.shaped (toPy d) = true := by
  unfold SeqAt.shaped
  rw [canLay_toPy d h.1, depth_toPy d, decide_eq_true h.2]
  rfl
def eqD (d e : D) : Bool := PyData.eqv (toPy d) (toPy e)
theorem eq_data (h1 : cmpOk d) (h2 : cmpOk e) : RvP (rEqD K) d e (.bl (eqD d e)) := fun own H x y o hx hy Q q =>
  ⟨toPy d, toPy e, Is.dp d h1.1 hx, Is.dp e h2.1 hy, h1.shaped, h2.shaped, q _ H (Same.refl H) (.bl _)⟩
theorem ne_data (h1 : cmpOk d) (h2 : cmpOk e) : RvP (rNeD K) d e (.bl (!eqD d e)) := fun own H x y o hx hy Q q =>
  ⟨toPy d, toPy e, Is.dp d h1.1 hx, Is.dp e h2.1 hy, h1.shaped, h2.shaped, q _ H (Same.refl H) (.bl _)⟩
/-- scalars -/
def rEqA (K : PySem.W.Frag) : R2 := fun x y H Q => rEq x y H Q ∨ rEqD K x y H Q
def rNeA (K : PySem.W.Frag) : R2 := fun x y H Q => rNe x y H Q ∨ rNeD K x y H Q
theorem op_eqA {X : Cx} (hu : X.A.units + 64 < cLine) : OpR X (compareOp .Eq) (rEqA X.K) := op_eq.or (op_eqD hu)
theorem op_neA {X : Cx} (hu : X.A.units + 64 < cLine) : OpR X (compareOp .NotEq) (rNeA X.K) := op_ne.or (op_neD hu)
theorem eq_int {i j : Int} : RvP (rEqA K) (.int i) (.int j) (.bl (decide (i = j))) := fun own H x y o hx hy Q q => by
  cases hx; cases hy
  refine .inl ⟨rfl, ?_⟩
  have e' : decide (V.int i = V.int j) = decide (i = j) := by rw [Bool.eq_iff_iff]; simp
  rw [e']
  exact q _ H (Same.refl H) (.bl _)
theorem ne_int {i j : Int} : RvP (rNeA K) (.int i) (.int j) (.bl (!decide (i = j))) := fun own H x y o hx hy Q q => by
  cases hx; cases hy
  refine .inl ⟨rfl, ?_⟩
  have e' : decide (V.int i = V.int j) = decide (i = j) := by rw [Bool.eq_iff_iff]; simp
  rw [e']
  exact q _ H (Same.refl H) (.bl _)
theorem eq_str {i j : Str} : RvP (rEqA K) (.str i) (.str j) (.bl (decide (i = j))) := fun own H x y o hx hy Q q => by
  cases hx; cases hy
  refine .inl ⟨rfl, ?_⟩
  have e' : decide (V.str i = V.str j) = decide (i = j) := by rw [Bool.eq_iff_iff]; simp
  rw [e']
  exact q _ H (Same.refl H) (.bl _)
theorem ne_str {i j : Str} : RvP (rNeA K) (.str i) (.str j) (.bl (!decide (i = j))) := fun own H x y o hx hy Q q => by
  cases hx; cases hy
  refine .inl ⟨rfl, ?_⟩
  have e' : decide (V.str i = V.str j) = decide (i = j) := by rw [Bool.eq_iff_iff]; simp
  rw [e']
  exact q _ H (Same.refl H) (.bl _)
theorem eq_deep (h1 : cmpOk d) (h2 : cmpOk e) : RvP (rEqA K) d e (.bl (eqD d e)) := rv_inr (eq_data h1 h2)
theorem ne_deep (h1 : cmpOk d) (h2 : cmpOk e) : RvP (rNeA K) d e (.bl (!eqD d e)) := rv_inr (ne_data h1 h2)
/-- in -/
def rInSg : R2 := fun x y H Q => ∃ (c : Nat) (z : Str), x = .str ⟨#[c]⟩ ∧ y = .str z ∧ Q (.bl (decide (c ∈ z.cps.toList))) H
def rNotInSg : R2 := fun x y H Q => ∃ (c : Nat) (z : Str), x = .str ⟨#[c]⟩ ∧ y = .str z ∧ Q (.bl (!decide (c ∈ z.cps.toList))) H
def rInA (K : PySem.W.Frag) : R2 := fun x y H Q => rInSg x y H Q ∨ rIn K false x y H Q
def rNotInA (K : PySem.W.Frag) : R2 := fun x y H Q => rNotInSg x y H Q ∨ rIn K true x y H Q
theorem op_inA {X : Cx} : OpR X (compareOp .In) (rInA X.K) := (show OpR X (compareOp .In) rInSg from op_in_sign).or op_in_seq
theorem op_notInA {X : Cx} : OpR X (compareOp .NotIn) (rNotInA X.K) := (show OpR X (compareOp .NotIn) rNotInSg from op_notIn_sign).or op_notIn_seq
theorem in_sign {c : Nat} {z : Str} : RvP (rInA K) (.str ⟨#[c]⟩) (.str z) (.bl (decide (c ∈ z.cps.toList))) := rv_inl fun own H x y o hx hy Q q => by
  cases hx; cases hy
  exact ⟨c, z, rfl, rfl, q _ H (Same.refl H) (.bl _)⟩
theorem notIn_sign {c : Nat} {z : Str} : RvP (rNotInA K) (.str ⟨#[c]⟩) (.str z) (.bl (!decide (c ∈ z.cps.toList))) := rv_inl fun own H x y o hx hy Q q => by
  cases hx; cases hy
  exact ⟨c, z, rfl, rfl, q _ H (Same.refl H) (.bl _)⟩
theorem inV_ints (i : Int) : ∀ ns : List Int, inV (.int i) (ns.map V.int) = ns.contains i
  | [] => rfl
  | n :: ns => by
    have ih := inV_ints i ns
    unfold inV at ih ⊢
    rw [List.map_cons, List.any_cons, ih, List.contains_cons]
    show ((n == i) || _) = ((i == n) || _)
    rw [BEq.comm]
theorem flat_ints : ∀ ns : List Int, (ns.map V.int).all flatV = true
  | [] => rfl
  | n :: ns => by rw [List.map_cons, List.all_cons, flat_ints ns]; rfl
theorem in_ints {i : Int} {ns : List Int} : RvP (rInA K) (.int i) (.lst (ns.map D.int)) (.bl (ns.contains i)) := rv_inr fun own H x y o hx hy Q q => by
  cases hx
  cases hy with
  | lst h1 n1 a1 =>
    have e' := a1.ints
    subst e'
    refine ⟨_, _, rfl, .inl (SqL.of h1), rfl, flat_ints ns, ?_⟩
    show Q (.bl (inV (.int i) (ns.map V.int))) H
    rw [inV_ints]
    exact q _ H (Same.refl H) (.bl _)

/-! ### items, slices -/
theorem at_tup {xs : List D} {i : Int} (h : atI xs i = some z) : RvP (rIx K) (.tup xs) (.int i) z := fun own H x y o hx hy Q q => by
  cases hy
  cases hx with
  | tup h1 n1 a1 =>
    obtain ⟨j, _, hj, hl, _, _⟩ := atI_get h
    obtain ⟨v, hv, hi⟩ := a1.get hj
    have hlen := a1.length
    refine .inr (.inl ⟨_, _, i, v, rfl, rfl, SqT.of h1, ?_, q _ H (Same.refl H) hi⟩)
    unfold atI at h ⊢
    rw [hlen]
    cases e' : ixN xs.length i with
    | none => rw [e'] at h; cases h
    | some j' =>
      rw [e'] at h
      have h' : xs[j']? = some z := h
      obtain ⟨v', hv', hi'⟩ := a1.get h'
      have : j' = j := by
        have q1 := ixN_seq e'
        have q2 := ‹seqIndex? i xs.length = some j›
        rw [q1.1] at q2
        exact Option.some.inj q2
      subst this
      exact hv
theorem at_lst {xs : List D} {i : Int} (h : atI xs i = some z) : RvP (rIx K) (.lst xs) (.int i) z := fun own H x y o hx hy Q q => by
  cases hy
  cases hx with
  | lst h1 n1 a1 =>
    obtain ⟨j, _, hj, hl, _, _⟩ := atI_get h
    obtain ⟨v, hv, hi⟩ := a1.get hj
    have hlen := a1.length
    refine .inl ⟨_, _, i, v, rfl, rfl, SqL.of h1, ?_, q _ H (Same.refl H) hi⟩
    unfold atI at h ⊢
    rw [hlen]
    cases e' : ixN xs.length i with
    | none => rw [e'] at h; cases h
    | some j' =>
      rw [e'] at h
      have : j' = j := by
        have q1 := ixN_seq e'
        have q2 := ‹seqIndex? i xs.length = some j›
        rw [q1.1] at q2
        exact Option.some.inj q2
      subst this
      exact hv
theorem at_str {x : Str} {i : Int} {c : Nat} (hl : x.length ≤ sizeLine) (h : atI x.cps.toList i = some c) : RvP (rIx K) (.str x) (.int i) (.str ⟨#[c]⟩) := fun own H _ _ o hx hy Q q => by
  cases hy
  cases hx
  exact .inr (.inr ⟨x, i, c, rfl, rfl, hl, h, q _ H (Same.refl H) (.str _)⟩)
def rSlX (K : PySem.W.Frag) : V → Option Int → Option Int → Hp → VK → Prop := fun x lo hi H Q => rSlL K x lo hi H Q ∨ (rSlA K x lo hi H Q ∨ rSlS x lo hi H Q)
theorem SlR.or {X : Cx} {r r' : V → Option Int → Option Int → Hp → VK → Prop} (h : SlR X r) (h' : SlR X r') : SlR X (fun x lo hi H Q => r x lo hi H Q ∨ r' x lo hi H Q) := by
  intro pins s σ H x v vl vu lo hi sl Q I rx hs pl pu w
  rcases w with w | w
  · exact h pins s σ H x v vl vu lo hi sl Q I rx hs pl pu w
  · exact h' pins s σ H x v vl vu lo hi sl Q I rx hs pl pu w
theorem sl_any {X : Cx} : SlR X (rSlX X.K) := SlR.or sl_list (SlR.or sl_tupA sl_str)
/-- xs[lo:hi] -/
def cutD (xs : List D) (lo hi : Option Int) : List D := (xs.drop (HT.sIx xs.length 0 lo)).take (HT.sIx xs.length xs.length hi - HT.sIx xs.length 0 lo)
theorem IsAll.cut {own : Own} {H : Hp} {vs : List V} (h : IsAll own H vs ds) (lo hi : Option Int) : IsAll own H (cutV vs lo hi) (cutD ds lo hi) := by
  unfold cutV cutD
  rw [h.length]
  exact (h.drop _).take _
theorem cut_lst {xs : List D} {lo hi : Option Int} : RsP (rSlX K) (.lst xs) lo hi (.lst (cutD xs lo hi)) := fun own H x o hx Q q => by
  cases hx with
  | lst h1 n1 a1 => exact .inl ⟨_, _, rfl, SqL.of h1, fun p hp => q _ _ (same_new hp) (Is.newLst o hp (a1.cut lo hi))⟩
theorem cutD_whole {xs : List D} {lo hi : Option Int} (h : HT.sIx xs.length 0 lo = 0 ∧ HT.sIx xs.length xs.length hi = xs.length) : cutD xs lo hi = xs := by
  unfold cutD
  rw [h.1, h.2, List.drop_zero, Nat.sub_zero, List.take_length]
theorem cut_tup {xs : List D} {lo hi : Option Int} : RsP (rSlX K) (.tup xs) lo hi (.tup (cutD xs lo hi)) := fun own H x o hx Q q => by
  have hx' := hx
  cases hx with
  | tup h1 n1 a1 =>
    refine .inr (.inl ⟨_, _, rfl, SqT.of h1, fun e => ?_, fun _ p hp => q _ _ (same_new hp) (Is.newTup o hp (a1.cut lo hi))⟩)
    rw [a1.length] at e
    rw [cutD_whole e] at q
    exact q _ H (Same.refl H) hx'
theorem cut_str {x : Str} {lo hi : Option Int} (hl : x.length ≤ sizeLine) : RsP (rSlX K) (.str x) lo hi (.str (cutS x lo hi)) := fun own H v o hx Q q => by
  cases hx
  exact .inr (.inr ⟨x, rfl, hl, q _ H (Same.refl H) (.str _)⟩)

/-! ### built-in calls -/
def rLenA (K : PySem.W.Frag) : List V → Hp → VK → Prop := fun xs H Q => ∃ x n, xs = [x] ∧ LenV K x H n ∧ Q (.int n) H
theorem call_lenA {X : Cx} : CallR X (.builtin "len") (rLenA X.K) := call_len
theorem len_tup {xs : List D} : RcP (rLenA K) [.tup xs] (.int (xs.length : Int)) := fun own H vs o hx Q q => by
  cases hx with
  | cons h t =>
    cases t
    cases h with
    | tup h1 n1 a1 => exact ⟨_, _, rfl, .inr ⟨_, SqT.of h1, rfl⟩, by rw [a1.length]; exact q _ H (Same.refl H) (.int _)⟩
theorem len_lst {xs : List D} : RcP (rLenA K) [.lst xs] (.int (xs.length : Int)) := fun own H vs o hx Q q => by
  cases hx with
  | cons h t =>
    cases t
    cases h with
    | lst h1 n1 a1 => exact ⟨_, _, rfl, .inl ⟨_, SqL.of h1, rfl⟩, by rw [a1.length]; exact q _ H (Same.refl H) (.int _)⟩
theorem len_str {x : Str} (hl : x.length ≤ sizeLine) : RcP (rLenA K) [.str x] (.int (x.length : Int)) := fun own H vs o hx Q q => by
  cases hx with
  | cons h t =>
    cases t
    cases h
    exact ⟨_, _, rfl, ⟨hl, rfl⟩, q _ H (Same.refl H) (.int _)⟩
theorem sum_ints {ns : List Int} : RcP (rSum K) [.lst (ns.map D.int)] (.int ns.sum) := fun own H vs o hx Q q => by
  cases hx with
  | cons h t =>
    cases t
    cases h with
    | lst h1 n1 a1 =>
      have e' := a1.ints
      subst e'
      exact ⟨_, ns, rfl, SqL.of h1, q _ H (Same.refl H) (.int _)⟩
theorem all_bls {bs : List Bool} : RcP (rAll K) [.lst (bs.map D.bl)] (.bl (bs.all id)) := fun own H vs o hx Q q => by
  cases hx with
  | cons h t =>
    cases t
    cases h with
    | lst h1 n1 a1 =>
      have e' := a1.bls
      subst e'
      exact ⟨_, bs, rfl, SqL.of h1, q _ H (Same.refl H) (.bl _)⟩
theorem any_bls {bs : List Bool} : RcP (rAny K) [.lst (bs.map D.bl)] (.bl (bs.any id)) := fun own H vs o hx Q q => by
  cases hx with
  | cons h t =>
    cases t
    cases h with
    | lst h1 n1 a1 =>
      have e' := a1.bls
      subst e'
      exact ⟨_, bs, rfl, SqL.of h1, q _ H (Same.refl H) (.bl _)⟩
def maxL : List Int → Int
  | [] => 0
  | [n] => n
  | n :: m :: ns => max n (maxL (m :: ns))
theorem maxL_mem : ∀ {ns : List Int}, ns ≠ [] → maxL ns ∈ ns ∧ ∀ y ∈ ns, y ≤ maxL ns
  | [], h => absurd rfl h
  | [n], _ => by simp [maxL]
  | n :: m :: ns, _ => by
    obtain ⟨h1, h2⟩ := maxL_mem (ns := m :: ns) (by simp)
    show max n (maxL (m :: ns)) ∈ _ ∧ ∀ y ∈ n :: m :: ns, y ≤ max n (maxL (m :: ns))
    refine ⟨?_, fun y hy => ?_⟩
    · by_cases h : n ≤ maxL (m :: ns)
      · rw [Int.max_eq_right h]; exact List.mem_cons_of_mem _ h1
      · rw [Int.max_eq_left (by omega)]; exact List.mem_cons_self
    · rcases List.mem_cons.mp hy with rfl | hy
      · omega
      · have := h2 y hy; omega
theorem max_ints {ns : List Int} (hn : ns ≠ []) : RcP (rMax K) [.lst (ns.map D.int)] (.int (maxL ns)) := fun own H vs o hx Q q => by
  cases hx with
  | cons h t =>
    cases t
    cases h with
    | lst h1 n1 a1 =>
      have e' := a1.ints
      subst e'
      refine ⟨_, ns, rfl, SqL.of h1, List.length_pos_iff.mpr hn, fun m hm hy => ?_⟩
      obtain ⟨g1, g2⟩ := maxL_mem hn
      have : m = maxL ns := by have a := hy _ g1; have b := g2 _ hm; omega
      subst this
      exact q _ H (Same.refl H) (.int _)
/-- isinstance -/
def tyOf : D → String
  | .non => "NoneType"
  | .bl _ => "bool"
  | .int _ => "int"
  | .str _ => "str"
  | .tup _ => "tuple"
  | .lst _ => "list"
  | .dct _ => "dict"
  | .ref _ => ""
  | .ty _ => ""
theorem Is.tyx {own : Own} {H : Hp} {v : V} (h : Is own H v d) (hd : tyOf d ≠ "") : TyX K H v (.type (tyOf d)) := by
  cases h with
  | non => exact .base (.non)
  | bl b => exact .base (.bl b)
  | int i => exact .base (.int i)
  | str x => exact .base (.str x)
  | tup h1 _ _ => exact .base (.tup h1)
  | lst h1 _ _ => exact .base (.lst h1)
  | dct h1 _ _ => exact .base (.dK h1)
  | ref a => exact absurd rfl hd
  | ty a => exact absurd rfl hd
theorem isi_ty {n : String} (hd : tyOf d ≠ "") (h : kitB (tyOf d) n = some b) : RcP (rIsi K) [d, .ty n] (.bl b) := fun own H vs o hx Q q => by
  cases hx with
  | cons h1 t =>
    cases t with
    | cons h2 t2 =>
      cases t2
      cases h2
      exact ⟨_, _, _, _, b, rfl, .ty n, h1.tyx hd, kit_ty h, q _ H (Same.refl H) (.bl _)⟩
def isStr : D → Bool
  | .str _ => true
  | _ => false
theorem isi_str (hd : tyOf d ≠ "") : RcP (rIsi K) [d, .ty "str"] (.bl (isStr d)) := isi_ty hd (by
  cases d with
  | non => exact (by decide +kernel : kitB "NoneType" "str" = some false)
  | bl _ => exact (by decide +kernel : kitB "bool" "str" = some false)
  | int _ => exact (by decide +kernel : kitB "int" "str" = some false)
  | str _ => exact (by decide +kernel : kitB "str" "str" = some true)
  | tup _ => exact (by decide +kernel : kitB "tuple" "str" = some false)
  | lst _ => exact (by decide +kernel : kitB "list" "str" = some false)
  | dct _ => exact (by decide +kernel : kitB "dict" "str" = some false)
  | ref _ => exact absurd rfl hd
  | ty _ => exact absurd rfl hd)
def isTup : D → Bool
  | .tup _ => true
  | _ => false
theorem isi_tup (hd : tyOf d ≠ "") : RcP (rIsi K) [d, .ty "tuple"] (.bl (isTup d)) := isi_ty hd (by
  cases d with
  | non => exact (by decide +kernel : kitB "NoneType" "tuple" = some false)
  | bl _ => exact (by decide +kernel : kitB "bool" "tuple" = some false)
  | int _ => exact (by decide +kernel : kitB "int" "tuple" = some false)
  | str _ => exact (by decide +kernel : kitB "str" "tuple" = some false)
  | tup _ => exact (by decide +kernel : kitB "tuple" "tuple" = some true)
  | lst _ => exact (by decide +kernel : kitB "list" "tuple" = some false)
  | dct _ => exact (by decide +kernel : kitB "dict" "tuple" = some false)
  | ref _ => exact absurd rfl hd
  | ty _ => exact absurd rfl hd)
def isBl : D → Bool
  | .bl _ => true
  | _ => false
theorem isi_bl (hd : tyOf d ≠ "") : RcP (rIsi K) [d, .ty "bool"] (.bl (isBl d)) := isi_ty hd (by
  cases d with
  | non => exact (by decide +kernel : kitB "NoneType" "bool" = some false)
  | bl _ => exact (by decide +kernel : kitB "bool" "bool" = some true)
  | int _ => exact (by decide +kernel : kitB "int" "bool" = some false)
  | str _ => exact (by decide +kernel : kitB "str" "bool" = some false)
  | tup _ => exact (by decide +kernel : kitB "tuple" "bool" = some false)
  | lst _ => exact (by decide +kernel : kitB "list" "bool" = some false)
  | dct _ => exact (by decide +kernel : kitB "dict" "bool" = some false)
  | ref _ => exact absurd rfl hd
  | ty _ => exact absurd rfl hd)
def isLst : D → Bool
  | .lst _ => true
  | _ => false
theorem isi_lst (hd : tyOf d ≠ "") : RcP (rIsi K) [d, .ty "list"] (.bl (isLst d)) := isi_ty hd (by
  cases d with
  | non => exact (by decide +kernel : kitB "NoneType" "list" = some false)
  | bl _ => exact (by decide +kernel : kitB "bool" "list" = some false)
  | int _ => exact (by decide +kernel : kitB "int" "list" = some false)
  | str _ => exact (by decide +kernel : kitB "str" "list" = some false)
  | tup _ => exact (by decide +kernel : kitB "tuple" "list" = some false)
  | lst _ => exact (by decide +kernel : kitB "list" "list" = some true)
  | dct _ => exact (by decide +kernel : kitB "dict" "list" = some false)
  | ref _ => exact absurd rfl hd
  | ty _ => exact absurd rfl hd)
def isDct : D → Bool
  | .dct _ => true
  | _ => false
theorem isi_dct (hd : tyOf d ≠ "") : RcP (rIsi K) [d, .ty "dict"] (.bl (isDct d)) := isi_ty hd (by
  cases d with
  | non => exact (by decide +kernel : kitB "NoneType" "dict" = some false)
  | bl _ => exact (by decide +kernel : kitB "bool" "dict" = some false)
  | int _ => exact (by decide +kernel : kitB "int" "dict" = some false)
  | str _ => exact (by decide +kernel : kitB "str" "dict" = some false)
  | tup _ => exact (by decide +kernel : kitB "tuple" "dict" = some false)
  | lst _ => exact (by decide +kernel : kitB "list" "dict" = some false)
  | dct _ => exact (by decide +kernel : kitB "dict" "dict" = some true)
  | ref _ => exact absurd rfl hd
  | ty _ => exact absurd rfl hd)
def isInt : D → Bool
  | .bl _ => true
  | .int _ => true
  | _ => false
theorem isi_int (hd : tyOf d ≠ "") : RcP (rIsi K) [d, .ty "int"] (.bl (isInt d)) := isi_ty hd (by
  cases d with
  | non => exact (by decide +kernel : kitB "NoneType" "int" = some false)
  | bl _ => exact (by decide +kernel : kitB "bool" "int" = some true)
  | int _ => exact (by decide +kernel : kitB "int" "int" = some true)
  | str _ => exact (by decide +kernel : kitB "str" "int" = some false)
  | tup _ => exact (by decide +kernel : kitB "tuple" "int" = some false)
  | lst _ => exact (by decide +kernel : kitB "list" "int" = some false)
  | dct _ => exact (by decide +kernel : kitB "dict" "int" = some false)
  | ref _ => exact absurd rfl hd
  | ty _ => exact absurd rfl hd)
theorem p_ty {n : String} : EvP (tC (.ty n)) δ (.ty n) := fun _ _ H _ _ _ q => q _ H (Same.refl H) (.ty n)
end
end DL

set_option Elab.async false
set_option linter.all false
set_option maxRecDepth 100000
set_option maxHeartbeats 4000000
namespace DL
open PySem L2

/-! ### what is walked -/
def WalkD (own : Own) (H1 : Hp) (J : It) (xs : List D) : Prop :=
  Walk J xs.length (fun H' => ∀ a o, H1 a = some o → ¬ own a → H' a = some o) (fun i H x H' => H' = H ∧ ∃ d, xs[i]? = some d ∧ Is own H1 x d)
def ItP (wi : TI) (δ : Env) (xs : List D) : Prop := ∀ (own : Own) (σ : L2.St) (H : Hp), OwnOk own H → EnvR own H σ δ → ∀ R : It → Hp → Prop, (∀ J H1, Same H H1 → WalkD own H1 J xs → R J H1) → wi σ H R
def iAny (K : PySem.W.Frag) (te : TE) : TI := fun σ H R => iList K te σ H R ∨ (iTup K te σ H R ∨ iStr te σ H R)
theorem pi_or {X : Cx} {tg it : Expr} {w1 w2 : TI} (h1 : PI X tg it w1) (h2 : PI X tg it w2) : PI X tg it (fun σ H R => w1 σ H R ∨ w2 σ H R) := ⟨fun pins s σ H R I h => by
  rcases h with h | h
  · exact h1.run pins s σ H R I h
  · exact h2.run pins s σ H R I h⟩
theorem pi_any {X : Cx} {tg e : Expr} {te : TE} (he : PE X e te) : PI X tg e (iAny X.K te) := pi_or (pi_list he) (pi_or (pi_tup he) (pi_str he))
section
variable {K : PySem.W.Frag} {δ : Env} {te : TE} {xs : List D}
theorem it_lst (h : EvP te δ (.lst xs)) : ItP (iAny K te) δ xs := fun own σ H o E R q => .inl (h own σ H o E _ fun v H1 s1 i1 => by
  cases i1 with
  | @lst a vs _ h1 n1 a1 =>
    refine ⟨a, rfl, ⟨vs, SqL.of h1⟩, q _ H1 s1 ?_⟩
    have hlen := a1.length
    refine ⟨fun i H hi g => ?_, fun H g => ⟨vs, SqL.of (g _ _ h1 n1), by omega⟩, fun i H x H' hi g y => ?_⟩
    · obtain ⟨v, hv⟩ : ∃ v, vs[i]? = some v := ⟨_, List.getElem?_eq_getElem (by omega)⟩
      exact ⟨vs, v, SqL.of (g _ _ h1 n1), hv⟩
    · obtain ⟨e, y⟩ := y
      obtain ⟨d, hd, hi'⟩ := a1.getV (y vs (SqL.of (g _ _ h1 n1)))
      exact ⟨e, d, hd, hi'⟩)
theorem it_tup (h : EvP te δ (.tup xs)) : ItP (iAny K te) δ xs := fun own σ H o E R q => .inr (.inl (h own σ H o E _ fun v H1 s1 i1 => by
  cases i1 with
  | @tup a vs _ h1 n1 a1 =>
    refine ⟨a, rfl, ⟨vs, SqT.of h1⟩, q _ H1 s1 ?_⟩
    have hlen := a1.length
    refine ⟨fun i H hi g => ?_, fun H g => ⟨vs, SqT.of (g _ _ h1 n1), by omega⟩, fun i H x H' hi g y => ?_⟩
    · obtain ⟨v, hv⟩ : ∃ v, vs[i]? = some v := ⟨_, List.getElem?_eq_getElem (by omega)⟩
      exact ⟨vs, v, SqT.of (g _ _ h1 n1), hv⟩
    · obtain ⟨e, y⟩ := y
      obtain ⟨d, hd, hi'⟩ := a1.getV (y vs (SqT.of (g _ _ h1 n1)))
      exact ⟨e, d, hd, hi'⟩))
/-- a text's signs -/
def signs (x : Str) : List D := x.cps.toList.map fun c => D.str ⟨#[c]⟩
theorem it_str {x : Str} (h : EvP te δ (.str x)) : ItP (iAny K te) δ (signs x) := fun own σ H o E R q => .inr (.inr (h own σ H o E _ fun v H1 s1 i1 => by
  cases i1
  refine ⟨x, rfl, q _ H1 s1 ?_⟩
  have hlen : (signs x).length = x.cps.size := by unfold signs; rw [List.length_map, Array.length_toList]
  refine ⟨fun i H hi g => ?_, fun H g => ?_, fun i H v H' hi g y => ?_⟩
  · show i < x.cps.size
    omega
  · show x.cps.size ≤ (signs x).length
    omega
  · obtain ⟨e, c, hc, hv⟩ := y
    subst hv
    refine ⟨e, _, ?_, .str _⟩
    unfold signs
    rw [List.getElem?_map, Array.getElem?_toList, hc]
    rfl))
/-- lo, lo + 1, .. -/
def rng (n : Nat) : List D := (List.range n).map fun (i : Nat) => D.int (i : Int)
theorem rng_length (n : Nat) : (rng n).length = n := by unfold rng; simp
theorem rng_get {n i : Nat} {x : D} (h : (rng n)[i]? = some x) : i < n ∧ x = .int (i : Int) := by
  unfold rng at h
  rw [List.getElem?_map] at h
  by_cases hi : i < n
  · rw [List.getElem?_range hi] at h
    exact ⟨hi, (Option.some.inj h).symm⟩
  · rw [List.getElem?_eq_none (by simp; omega)] at h
    cases h
theorem it_rng {ta : TA} {n : Int} (h : EaP ta δ [.int n]) (h1 : -(2 ^ 62) ≤ n) (h2 : n < 2 ^ 62) : ItP (iRng1 ta) δ (rng n.toNat) := fun own σ H o E R q => h own σ H o E _ fun vs H1 s1 i1 => by
  cases i1 with
  | cons i0 t =>
    cases t
    cases i0
    refine ⟨n, rfl, h1, h2, q _ H1 s1 ⟨fun i H hi g => ?_, fun H g => ?_, fun i H v H' hi g y => ?_⟩⟩
    · rw [rng_length] at hi
      exact hi
    · show n.toNat ≤ (rng n.toNat).length
      rw [rng_length]
      exact Nat.le_refl _
    · obtain ⟨e, hv⟩ := y
      subst hv
      rw [rng_length] at hi
      refine ⟨e, .int (0 + (i : Int)), ?_, .int _⟩
      unfold rng
      rw [List.getElem?_map, List.getElem?_range hi, Int.zero_add]
      rfl
end

/-! ### effects: what the call owns, and what holds of it -/
structure Ifc (τ : Type) where
  own : τ → Own
  inv : τ → Hp → Prop
  ok : ∀ s H, inv s H → OwnOk (own s) H
  stab : ∀ s H H', inv s H → Same H H' → inv s H'
section
variable {τ : Type}
def Ev (J : Ifc τ) (t : TE) (δ : Env) (s : τ) (P : D → τ → Prop) : Prop := ∀ (σ : L2.St) (H : Hp), EnvR (J.own s) H σ δ → J.inv s H → ∀ Q : VK, (∀ v d s' H', Kp (J.own s) H (J.own s') H' → J.inv s' H' → Is (J.own s') H' v d → P d s' → Q v H') → t σ H Q
def Et (J : Ifc τ) (t : TT) (δ : Env) (s : τ) (P : Bool → τ → Prop) : Prop := ∀ (σ : L2.St) (H : Hp), EnvR (J.own s) H σ δ → J.inv s H → ∀ Q : Bool → Hp → Prop, (∀ b s' H', Kp (J.own s) H (J.own s') H' → J.inv s' H' → P b s' → Q b H') → t σ H Q
def Ea (J : Ifc τ) (t : TA) (δ : Env) (s : τ) (P : List D → τ → Prop) : Prop := ∀ (σ : L2.St) (H : Hp), EnvR (J.own s) H σ δ → J.inv s H → ∀ Q : List V → Hp → Prop, (∀ vs ds s' H', Kp (J.own s) H (J.own s') H' → J.inv s' H' → IsAll (J.own s') H' vs ds → P ds s' → Q vs H') → t σ H Q
def Io (J : Ifc τ) (wi : TI) (δ : Env) (s : τ) (P : List D → τ → Prop) : Prop := ∀ (σ : L2.St) (H : Hp), EnvR (J.own s) H σ δ → J.inv s H → ∀ R : It → Hp → Prop, (∀ I xs s' H', Kp (J.own s) H (J.own s') H' → J.inv s' H' → WalkD (J.own s') H' I xs → P xs s' → R I H') → wi σ H R
structure Post (τ : Type) where
  nx : Env → τ → Prop := fun _ _ => False
  rt : D → τ → Prop := fun _ _ => False
  bk : Env → τ → Prop := fun _ _ => False
  ct : Env → τ → Prop := fun _ _ => False
def Rn (J : Ifc τ) (t : TS) (δ : Env) (s : τ) (P : Post τ) : Prop := ∀ (En : Ends) (σ : L2.St) (H : Hp), EnvR (J.own s) H σ δ → J.inv s H →
  (∀ σ' δ' s' H', Kp (J.own s) H (J.own s') H' → J.inv s' H' → EnvR (J.own s') H' σ' δ' → P.nx δ' s' → En.nx σ' H') →
  (∀ v d s' H', Kp (J.own s) H (J.own s') H' → J.inv s' H' → Is (J.own s') H' v d → P.rt d s' → En.rt v H') →
  (∀ σ' δ' s' H', Kp (J.own s) H (J.own s') H' → J.inv s' H' → EnvR (J.own s') H' σ' δ' → P.bk δ' s' → En.bk σ' H') →
  (∀ σ' δ' s' H', Kp (J.own s) H (J.own s') H' → J.inv s' H' → EnvR (J.own s') H' σ' δ' → P.ct δ' s' → En.ct σ' H') → t En σ H
variable {J : Ifc τ} {δ : Env} {s : τ} {ta tb tc te : TE} {t u : TT} {P R : D → τ → Prop} {d : D}
theorem EvP.ev (h : EvP te δ d) : Ev J te δ s (fun d' s' => d' = d ∧ s' = s) := fun σ H E i Q q =>
  h (J.own s) σ H (J.ok s H i) E Q fun v H' s1 i1 => q v d s H' (Kp.same s1) (J.stab s H H' i s1) i1 ⟨rfl, rfl⟩
theorem Ev.imp (h : Ev J te δ s P) (k : ∀ d s', P d s' → R d s') : Ev J te δ s R := fun σ H E i Q q => h σ H E i Q fun v d s' H' a b c e => q v d s' H' a b c (k d s' e)
theorem ev_p (h : EvP te δ d) (k : P d s) : Ev J te δ s P := (h.ev).imp fun d' s' ⟨e1, e2⟩ => by subst e1; subst e2; exact k
theorem EtP.et {b : Bool} {T : Bool → τ → Prop} (h : EtP t δ b) (k : T b s) : Et J t δ s T := fun σ H E i Q q =>
  h (J.own s) σ H (J.ok s H i) E Q fun H' s1 => q b s H' (Kp.same s1) (J.stab s H H' i s1) k
theorem EaP.ea {ta : TA} {ds : List D} {A : List D → τ → Prop} (h : EaP ta δ ds) (k : A ds s) : Ea J ta δ s A := fun σ H E i Q q =>
  h (J.own s) σ H (J.ok s H i) E Q fun vs H' s1 i1 => q vs ds s H' (Kp.same s1) (J.stab s H H' i s1) i1 k
theorem ItP.io {wi : TI} {xs : List D} {A : List D → τ → Prop} (h : ItP wi δ xs) (k : A xs s) : Io J wi δ s A := fun σ H E i R q =>
  h (J.own s) σ H (J.ok s H i) E R fun I H' s1 w => q I xs s H' (Kp.same s1) (J.stab s H H' i s1) w k
theorem ev_op {r : R2} {P1 : D → τ → Prop} {P2 : D → D → τ → Prop} (ha : Ev J ta δ s P1) (hb : ∀ d s1, P1 d s1 → Ev J tb δ s1 (P2 d)) (hr : ∀ d e s2, P2 d e s2 → ∃ z, RvP r d e z ∧ P z s2) : Ev J (tOp r ta tb) δ s P := fun σ H E i Q q =>
  ha σ H E i _ fun v d s1 H1 k1 i1 is1 p1 => hb d s1 p1 σ H1 (E.kp k1) i1 _ fun u e s2 H2 k2 i2 is2 p2 => by
    obtain ⟨z, rz, pz⟩ := hr d e s2 p2
    exact rz (J.own s2) H2 v u (J.ok s2 H2 i2) (is1.kp k2) is2 Q fun w H3 s3 is3 => q w z s2 H3 ((k1.trans k2).trans (Kp.same s3)) (J.stab s2 H2 H3 i2 s3) is3 pz
theorem et_test {T : Bool → τ → Prop} (h : Ev J te δ s (fun d s' => ∃ b, d = .bl b ∧ T b s')) : Et J (tTest te) δ s T := fun σ H E i Q q => h σ H E i _ fun v d s' H' k i' is p => by
  obtain ⟨b, rfl, p⟩ := p
  cases is
  exact ⟨b, rfl, q b s' H' k i' p⟩
theorem et_B {T : Bool → τ → Prop} (h : Ev J te δ s (fun d s' => ∃ b, d = .bl b ∧ T b s')) : Et J (tB te) δ s T := fun σ H E i Q q => h σ H E i _ fun v d s' H' k i' is p => by
  obtain ⟨b, rfl, p⟩ := p
  cases is
  exact ⟨b, rfl, q b s' H' k i' p⟩
theorem et_not {T : Bool → τ → Prop} (h : Et J t δ s (fun b s' => T (!b) s')) : Et J (tNot t) δ s T := fun σ H E i Q q => h σ H E i _ fun b s' H' k i' p => q (!b) s' H' k i' p
theorem et_and {T T1 : Bool → τ → Prop} (h1 : Et J t δ s T1) (h2 : ∀ s1, T1 true s1 → Et J u δ s1 T) (h3 : ∀ s1, T1 false s1 → T false s1) : Et J (tAnd t u) δ s T := fun σ H E i Q q => h1 σ H E i _ fun b s1 H1 k1 i1 p1 => by
  cases b with
  | true => exact h2 s1 p1 σ H1 (E.kp k1) i1 Q fun b s2 H2 k2 i2 p2 => q b s2 H2 (k1.trans k2) i2 p2
  | false => exact q false s1 H1 k1 i1 (h3 s1 p1)
theorem et_or {T T1 : Bool → τ → Prop} (h1 : Et J t δ s T1) (h2 : ∀ s1, T1 false s1 → Et J u δ s1 T) (h3 : ∀ s1, T1 true s1 → T true s1) : Et J (tOr t u) δ s T := fun σ H E i Q q => h1 σ H E i _ fun b s1 H1 k1 i1 p1 => by
  cases b with
  | false => exact h2 s1 p1 σ H1 (E.kp k1) i1 Q fun b s2 H2 k2 i2 p2 => q b s2 H2 (k1.trans k2) i2 p2
  | true => exact q true s1 H1 k1 i1 (h3 s1 p1)
theorem ev_and {T1 : Bool → τ → Prop} (h1 : Ev J ta δ s (fun d s' => ∃ b, d = .bl b ∧ T1 b s')) (h2 : ∀ s1, T1 true s1 → Ev J tb δ s1 P) (h3 : ∀ s1, T1 false s1 → P (.bl false) s1) : Ev J (tAndV ta tb) δ s P := fun σ H E i Q q => h1 σ H E i _ fun v d s1 H1 k1 i1 is1 p1 => by
  obtain ⟨b, rfl, p1⟩ := p1
  cases is1
  refine ⟨b, rfl, ?_⟩
  cases b with
  | true => exact h2 s1 p1 σ H1 (E.kp k1) i1 Q fun v d s2 H2 k2 i2 is2 p2 => q v d s2 H2 (k1.trans k2) i2 is2 p2
  | false => exact q _ _ s1 H1 k1 i1 (.bl false) (h3 s1 p1)
theorem ev_if {T : Bool → τ → Prop} (h : Et J t δ s T) (h1 : ∀ s1, T true s1 → Ev J ta δ s1 P) (h2 : ∀ s1, T false s1 → Ev J tb δ s1 P) : Ev J (tIf t ta tb) δ s P := fun σ H E i Q q => h σ H E i _ fun b s1 H1 k1 i1 p1 => by
  cases b with
  | true => exact h1 s1 p1 σ H1 (E.kp k1) i1 Q fun v d s2 H2 k2 i2 is2 p2 => q v d s2 H2 (k1.trans k2) i2 is2 p2
  | false => exact h2 s1 p1 σ H1 (E.kp k1) i1 Q fun v d s2 H2 k2 i2 is2 p2 => q v d s2 H2 (k1.trans k2) i2 is2 p2
theorem ea_nil {A : List D → τ → Prop} (k : A [] s) : Ea J tNil δ s A := fun σ H E i Q q => q [] [] s H Kp.refl i .nil k
theorem ea_cons {tr : TA} {A : List D → τ → Prop} {P1 : D → τ → Prop} (h : Ev J ta δ s P1) (hr : ∀ d s1, P1 d s1 → Ea J tr δ s1 (fun ds s2 => A (d :: ds) s2)) : Ea J (tCons ta tr) δ s A := fun σ H E i Q q =>
  h σ H E i _ fun v d s1 H1 k1 i1 is1 p1 => hr d s1 p1 σ H1 (E.kp k1) i1 _ fun vs ds s2 H2 k2 i2 is2 p2 => q _ _ s2 H2 (k1.trans k2) i2 (.cons (is1.kp k2) is2) p2
theorem ev_tup {ta : TA} (h : Ea J ta δ s (fun ds s' => ds.length ≤ sizeLine ∧ P (.tup ds) s')) : Ev J (tTup ta) δ s P := fun σ H E i Q q =>
  h σ H E i _ fun vs ds s1 H1 k1 i1 is1 ⟨hl, p1⟩ => ⟨by rw [is1.length]; exact hl, fun p hp => q _ _ s1 _ (k1.trans (Kp.same (same_new hp))) (J.stab s1 H1 _ i1 (same_new hp)) (Is.newTup (J.ok s1 H1 i1) hp is1) p1⟩
theorem ev_lst {ta : TA} (h : Ea J ta δ s (fun ds s' => ds.length ≤ sizeLine ∧ P (.lst ds) s')) : Ev J (tLst ta) δ s P := fun σ H E i Q q =>
  h σ H E i _ fun vs ds s1 H1 k1 i1 is1 ⟨hl, p1⟩ => ⟨by rw [is1.length]; exact hl, fun p hp => q _ _ s1 _ (k1.trans (Kp.same (same_new hp))) (J.stab s1 H1 _ i1 (same_new hp)) (Is.newLst (J.ok s1 H1 i1) hp is1) p1⟩
theorem ev_cb {r : List V → Hp → VK → Prop} {ta : TA} (h : Ea J ta δ s (fun ds s' => ∃ z, RcP r ds z ∧ P z s')) : Ev J (tCB r ta) δ s P := fun σ H E i Q q =>
  h σ H E i _ fun vs ds s1 H1 k1 i1 is1 ⟨z, rz, pz⟩ => rz (J.own s1) H1 vs (J.ok s1 H1 i1) is1 Q fun w H2 s2 is2 => q w z s1 H2 (k1.trans (Kp.same s2)) (J.stab s1 H1 H2 i1 s2) is2 pz
theorem ev_then {k : V → Hp → VK → Prop} (h : Ev J ta δ s (fun d s' => ∃ z, RuP k d z ∧ P z s')) : Ev J (tThen ta k) δ s P := fun σ H E i Q q =>
  h σ H E i _ fun v d s1 H1 k1 i1 is1 ⟨z, rz, pz⟩ => rz (J.own s1) H1 v (J.ok s1 H1 i1) is1 Q fun w H2 s2 is2 => q w z s1 H2 (k1.trans (Kp.same s2)) (J.stab s1 H1 H2 i1 s2) is2 pz
theorem ev_slice {r : V → Option Int → Option Int → Hp → VK → Prop} {tl th : TO} {lo hi : Option Int} (h : Ev J te δ s (fun d s' => ∃ z, RsP r d lo hi z ∧ P z s')) (hl : EoP tl δ lo) (hh : EoP th δ hi) : Ev J (tSl r te tl th) δ s P := fun σ H E i Q q =>
  h σ H E i _ fun v d s1 H1 k1 i1 is1 ⟨z, rz, pz⟩ => hl (J.own s1) σ H1 (J.ok s1 H1 i1) (E.kp k1) _ fun H2 e2 => hh (J.own s1) σ H2 ((J.ok s1 H1 i1).same e2) ((E.kp k1).same e2) _ fun H3 e3 =>
    rz (J.own s1) H3 v (((J.ok s1 H1 i1).same e2).same e3) ((is1.same e2).same e3) Q fun w H4 e4 is4 => q w z s1 H4 (k1.trans (Kp.same ((e2.trans e3).trans e4))) (J.stab s1 H1 H4 i1 ((e2.trans e3).trans e4)) is4 pz

/-! ### statements -/
variable {ts us ws : TS} {Po : Post τ}
theorem Rn.imp {Po' : Post τ} (h : Rn J ts δ s Po) (k1 : ∀ a b, Po.nx a b → Po'.nx a b) (k2 : ∀ a b, Po.rt a b → Po'.rt a b) (k3 : ∀ a b, Po.bk a b → Po'.bk a b) (k4 : ∀ a b, Po.ct a b → Po'.ct a b) : Rn J ts δ s Po' := fun En σ H E i q1 q2 q3 q4 =>
  h En σ H E i (fun σ' δ' s' H' a b c p => q1 σ' δ' s' H' a b c (k1 _ _ p)) (fun v d s' H' a b c p => q2 v d s' H' a b c (k2 _ _ p)) (fun σ' δ' s' H' a b c p => q3 σ' δ' s' H' a b c (k3 _ _ p)) (fun σ' δ' s' H' a b c p => q4 σ' δ' s' H' a b c (k4 _ _ p))
theorem rn_seq {M : Env → τ → Prop} (h : Rn J ts δ s { Po with nx := M }) (k : ∀ δ' s', M δ' s' → Rn J us δ' s' Po) : Rn J (tSeq ts us) δ s Po := fun En σ H E i q1 q2 q3 q4 =>
  h { En with nx := us En } σ H E i (fun σ' δ' s' H' k1 i1 E1 m => k δ' s' m En σ' H' E1 i1 (fun σ2 δ2 s2 H2 a b c p => q1 σ2 δ2 s2 H2 (k1.trans a) b c p) (fun v d s2 H2 a b c p => q2 v d s2 H2 (k1.trans a) b c p) (fun σ2 δ2 s2 H2 a b c p => q3 σ2 δ2 s2 H2 (k1.trans a) b c p) (fun σ2 δ2 s2 H2 a b c p => q4 σ2 δ2 s2 H2 (k1.trans a) b c p)) q2 q3 q4
theorem rn_next (k : Po.nx δ s) : Rn J tNext δ s Po := fun En σ H E i q1 q2 q3 q4 => q1 σ δ s H Kp.refl i E k
theorem rn_nextSeq (h : Rn J us δ s Po) : Rn J (tSeq tNext us) δ s Po := rn_seq (M := fun δ' s' => δ' = δ ∧ s' = s) (rn_next ⟨rfl, rfl⟩) fun _ _ ⟨e1, e2⟩ => by subst e1; subst e2; exact h
theorem rn_ret (h : Ev J te δ s Po.rt) : Rn J (tRet te) δ s Po := fun En σ H E i q1 q2 q3 q4 => h σ H E i _ q2
theorem rn_retSeq (h : Ev J te δ s Po.rt) : Rn J (tSeq (tRet te) us) δ s Po := rn_seq (M := fun _ _ => False) (rn_ret h) fun _ _ z => z.elim
theorem rn_drop (h : Ev J te δ s P) (k : ∀ d s', P d s' → Po.nx δ s') : Rn J (tDrop te) δ s Po := fun En σ H E i q1 q2 q3 q4 => h σ H E i _ fun v d s' H' a b c p => q1 σ δ s' H' a b (E.kp a) (k d s' p)
theorem rn_dropSeq (h : Ev J te δ s P) (k : ∀ d s', P d s' → Rn J us δ s' Po) : Rn J (tSeq (tDrop te) us) δ s Po := rn_seq (M := fun δ' s' => δ' = δ ∧ ∃ d, P d s') (rn_drop h fun d s' p => ⟨rfl, d, p⟩) fun _ s' ⟨e1, d, p⟩ => by subst e1; exact k d s' p
theorem rn_set {i : Nat} (h : Ev J te δ s P) (k : ∀ d s', P d s' → Po.nx (δ.set i (some d)) s') : Rn J (tAsg te (gName i)) δ s Po := fun En σ H E inv q1 q2 q3 q4 => h σ H E inv _ fun v d s' H' a b c p => q1 _ _ s' H' a b ((E.kp a).set i c) (k d s' p)
theorem rn_setSeq {i : Nat} (h : Ev J te δ s P) (k : ∀ d s', P d s' → Rn J us (δ.set i (some d)) s' Po) : Rn J (tSeq (tAsg te (gName i)) us) δ s Po :=
  rn_seq (M := fun δ' s' => ∃ d, δ' = δ.set i (some d) ∧ P d s') (rn_set h fun d s' p => ⟨d, rfl, p⟩) fun _ s' ⟨d, e1, p⟩ => by subst e1; exact k d s' p
theorem rn_setP {i : Nat} (h : EvP te δ d) (k : Rn J us (δ.set i (some d)) s Po) : Rn J (tSeq (tAsg te (gName i)) us) δ s Po := rn_setSeq h.ev fun d' s' ⟨e1, e2⟩ => by subst e1; subst e2; exact k
theorem rn_if {T : Bool → τ → Prop} (h : Et J t δ s T) (k1 : ∀ s1, T true s1 → Rn J ts δ s1 Po) (k2 : ∀ s1, T false s1 → Rn J us δ s1 Po) : Rn J (tIfS t ts us) δ s Po := fun En σ H E i q1 q2 q3 q4 => h σ H E i _ fun b s1 H1 a1 i1 p1 => by
  cases b with
  | true => exact k1 s1 p1 En σ H1 (E.kp a1) i1 (fun σ2 δ2 s2 H2 a b c p => q1 σ2 δ2 s2 H2 (a1.trans a) b c p) (fun v d s2 H2 a b c p => q2 v d s2 H2 (a1.trans a) b c p) (fun σ2 δ2 s2 H2 a b c p => q3 σ2 δ2 s2 H2 (a1.trans a) b c p) (fun σ2 δ2 s2 H2 a b c p => q4 σ2 δ2 s2 H2 (a1.trans a) b c p)
  | false => exact k2 s1 p1 En σ H1 (E.kp a1) i1 (fun σ2 δ2 s2 H2 a b c p => q1 σ2 δ2 s2 H2 (a1.trans a) b c p) (fun v d s2 H2 a b c p => q2 v d s2 H2 (a1.trans a) b c p) (fun σ2 δ2 s2 H2 a b c p => q3 σ2 δ2 s2 H2 (a1.trans a) b c p) (fun σ2 δ2 s2 H2 a b c p => q4 σ2 δ2 s2 H2 (a1.trans a) b c p)
theorem rn_ifSeq {T : Bool → τ → Prop} (h : Et J t δ s T) (k1 : ∀ s1, T true s1 → Rn J (tSeq ts ws) δ s1 Po) (k2 : ∀ s1, T false s1 → Rn J (tSeq us ws) δ s1 Po) : Rn J (tSeq (tIfS t ts us) ws) δ s Po := fun En σ H E i q1 q2 q3 q4 => h σ H E i _ fun b s1 H1 a1 i1 p1 => by
  cases b with
  | true => exact k1 s1 p1 En σ H1 (E.kp a1) i1 (fun σ2 δ2 s2 H2 a b c p => q1 σ2 δ2 s2 H2 (a1.trans a) b c p) (fun v d s2 H2 a b c p => q2 v d s2 H2 (a1.trans a) b c p) (fun σ2 δ2 s2 H2 a b c p => q3 σ2 δ2 s2 H2 (a1.trans a) b c p) (fun σ2 δ2 s2 H2 a b c p => q4 σ2 δ2 s2 H2 (a1.trans a) b c p)
  | false => exact k2 s1 p1 En σ H1 (E.kp a1) i1 (fun σ2 δ2 s2 H2 a b c p => q1 σ2 δ2 s2 H2 (a1.trans a) b c p) (fun v d s2 H2 a b c p => q2 v d s2 H2 (a1.trans a) b c p) (fun σ2 δ2 s2 H2 a b c p => q3 σ2 δ2 s2 H2 (a1.trans a) b c p) (fun σ2 δ2 s2 H2 a b c p => q4 σ2 δ2 s2 H2 (a1.trans a) b c p)
theorem rn_ifP {b : Bool} (h : EtP t δ b) (k1 : b = true → Rn J ts δ s Po) (k2 : b = false → Rn J us δ s Po) : Rn J (tIfS t ts us) δ s Po := rn_if (h.et (T := fun b' s' => b' = b ∧ s' = s) ⟨rfl, rfl⟩) (fun _ ⟨e1, e2⟩ => by subst e2; exact k1 e1.symm) (fun _ ⟨e1, e2⟩ => by subst e2; exact k2 e1.symm)
theorem rn_ifSeqP {b : Bool} (h : EtP t δ b) (k1 : b = true → Rn J (tSeq ts ws) δ s Po) (k2 : b = false → Rn J (tSeq us ws) δ s Po) : Rn J (tSeq (tIfS t ts us) ws) δ s Po := rn_ifSeq (h.et (T := fun b' s' => b' = b ∧ s' = s) ⟨rfl, rfl⟩) (fun _ ⟨e1, e2⟩ => by subst e2; exact k1 e1.symm) (fun _ ⟨e1, e2⟩ => by subst e2; exact k2 e1.symm)
theorem rn_retP (h : EvP te δ d) (k : Po.rt d s) : Rn J (tRet te) δ s Po := rn_ret (ev_p h k)
theorem rn_retSeqP (h : EvP te δ d) (k : Po.rt d s) : Rn J (tSeq (tRet te) us) δ s Po := rn_retSeq (ev_p h k)
theorem rn_seqAssoc (h : Rn J (tSeq ts (tSeq us ws)) δ s Po) : Rn J (tSeq (tSeq ts us) ws) δ s Po := h
/-- for x in ..: Pv by the turn -/
theorem rn_for {wi : TI} {j : Nat} {A : List D → τ → Prop} (hi : Io J wi δ s A) (Pv : List D → Nat → Env → τ → Prop) (h0 : ∀ xs s', A xs s' → Pv xs 0 δ s')
    (hs : ∀ (xs : List D) (i : Nat) (x : D) (δ' : Env) (s' : τ), xs[i]? = some x → Pv xs i δ' s' → Rn J ts (δ'.set j (some x)) s' { Po with nx := Pv xs (i + 1), ct := Pv xs (i + 1), bk := Po.nx }) (hd : ∀ xs δ' s', Pv xs xs.length δ' s' → Po.nx δ' s') : Rn J (tFor wi (gName j) ts) δ s Po := fun En σ H E inv q1 q2 q3 q4 =>
  hi σ H E inv _ fun I xs s1 H1 k1 i1 w p1 => by
    refine for_it w (fun i σ' H' => ∃ δ' s', Kp (J.own s1) H1 (J.own s') H' ∧ J.inv s' H' ∧ EnvR (J.own s') H' σ' δ' ∧ Pv xs i δ' s') ⟨δ, s1, Kp.refl, i1, E.kp k1, h0 xs s1 p1⟩ (fun i σ' H' _ ⟨δ', s', k, _⟩ a o ha na => (k a o ha na).1) (fun i x σ' H' H'' hi ⟨δ', s', k, iv, E', pv⟩ y => ?_) (fun σ' H' ⟨δ', s', k, iv, E', pv⟩ => q1 σ' δ' s' H' (k1.trans k) iv E' (hd xs δ' s' pv))
    obtain ⟨e, d, hd', is⟩ := y
    subst e
    refine hs xs i d δ' s' hd' pv _ _ H'' (E'.set j (is.kp k)) iv (fun σ2 δ2 s2 H2 a b c p => ⟨δ2, s2, k.trans a, b, c, p⟩) (fun v d s2 H2 a b c p => q2 v d s2 H2 ((k1.trans k).trans a) b c p) (fun σ2 δ2 s2 H2 a b c p => q1 σ2 δ2 s2 H2 ((k1.trans k).trans a) b c p) (fun σ2 δ2 s2 H2 a b c p => ⟨δ2, s2, k.trans a, b, c, p⟩)
theorem rn_while (Pv : Nat → Env → τ → Prop) (m : Nat) (h0 : Pv m δ s) (T : Nat → Env → Bool → τ → Prop) (hc : ∀ m δ' s', Pv m δ' s' → Et J t δ' s' (T m δ'))
    (hs : ∀ m δ' s', T m δ' true s' → Rn J ts δ' s' { Po with nx := fun δ2 s2 => ∃ m', m' < m ∧ Pv m' δ2 s2, ct := fun δ2 s2 => ∃ m', m' < m ∧ Pv m' δ2 s2, bk := Po.nx }) (hd : ∀ m δ' s', T m δ' false s' → Po.nx δ' s') : Rn J (tWhile t ts) δ s Po := fun En σ H E inv q1 q2 q3 q4 => by
  refine ⟨fun m σ' H' => ∃ δ' s', Kp (J.own s) H (J.own s') H' ∧ J.inv s' H' ∧ EnvR (J.own s') H' σ' δ' ∧ Pv m δ' s', ⟨m, δ, s, Kp.refl, inv, E, h0⟩, fun m σ' H' ⟨δ', s', k, iv, E', pv⟩ => ?_⟩
  refine hc m δ' s' pv σ' H' E' iv _ fun b s1 H1 k1 i1 p1 => ?_
  cases b with
  | false => exact q1 σ' δ' s1 H1 (k.trans k1) i1 (E'.kp k1) (hd m δ' s1 p1)
  | true =>
    refine ⟨fun σ2 H2 => ∃ δ2 s2, Kp (J.own s) H (J.own s2) H2 ∧ J.inv s2 H2 ∧ EnvR (J.own s2) H2 σ2 δ2 ∧ ∃ m', m' < m ∧ Pv m' δ2 s2, fun σ2 H2 ⟨δ2, s2, a, b, c, m', hm, p⟩ => ⟨m', hm, δ2, s2, a, b, c, p⟩, ?_⟩
    exact hs m δ' s1 p1 _ σ' H1 (E'.kp k1) i1 (fun σ2 δ2 s2 H2 a b c p => ⟨δ2, s2, (k.trans k1).trans a, b, c, p⟩) (fun v d s2 H2 a b c p => q2 v d s2 H2 ((k.trans k1).trans a) b c p) (fun σ2 δ2 s2 H2 a b c p => q1 σ2 δ2 s2 H2 ((k.trans k1).trans a) b c p) (fun σ2 δ2 s2 H2 a b c p => ⟨δ2, s2, (k.trans k1).trans a, b, c, p⟩)

/-! ### comprehensions: the new list is owned while it is made -/
def del (H : Hp) (x : Addr) : Hp := fun a => if a = x then none else H a
theorem del_same {H : Hp} {x : Addr} : del H x x = none := by unfold del; rw [if_pos rfl]
theorem del_ne {H : Hp} {x a : Addr} (h : a ≠ x) : del H x a = H a := by unfold del; rw [if_neg h]
theorem del_upd {H : Hp} {x : Addr} {o : HO} : del (upd H x o) x = del H x := by
  funext a; unfold del upd
  by_cases h : a = x
  · rw [if_pos h, if_pos h]
  · rw [if_neg h, if_neg h, if_neg h]
theorem del_none {H : Hp} {x : Addr} (h : H x = none) : del H x = H := by
  funext a; unfold del
  by_cases e : a = x
  · rw [if_pos e, e, h]
  · rw [if_neg e]
theorem del_sub {H : Hp} {x : Addr} : Same (del H x) H := fun a o h => by
  by_cases e : a = x
  · subst e; rw [del_same] at h; cases h
  · rw [del_ne e] at h; exact h
theorem del_mono {H H' : Hp} {x : Addr} (s : Same H H') : Same (del H x) (del H' x) := fun a o h => by
  by_cases e : a = x
  · subst e; rw [del_same] at h; cases h
  · rw [del_ne e] at h ⊢; exact s a o h
def Ifc.plus (J : Ifc τ) (Dl : Addr) : Ifc (τ × List V) where
  own := fun s a => J.own s.1 a ∨ a = Dl
  inv := fun s H => J.inv s.1 (del H Dl) ∧ H Dl = some (.lst s.2)
  ok := fun s H h a q e => by
    rcases q with q | q
    · have z := J.ok s.1 _ h.1 a q
      by_cases ea : a = Dl
      · subst ea; exact z del_same
      · rw [del_ne ea] at z; exact z e
    · subst q; rw [h.2] at e; cases e
  stab := fun s H H' h e => ⟨J.stab s.1 _ _ h.1 (del_mono e), e _ _ h.2⟩
theorem wipe_at (σ : L2.St) (i : Nat) : ∀ vs : List Nat, (wipe σ vs)[i]? = if i ∈ vs then (if i < σ.length then some none else none) else σ[i]?
  | [] => by simp [wipe]
  | v :: vs => by
    unfold wipe
    rw [List.getElem?_set, wipe_length]
    have ih := wipe_at σ i vs
    by_cases hv : v = i
    · subst hv
      simp
    · rw [if_neg hv, ih]
      have : i ≠ v := fun e => hv e.symm
      by_cases hm : i ∈ vs
      · simp [hm]
      · simp [hm, this]
theorem wipe_set {σ : L2.St} {vs : List Nat} {j : Nat} {x : Option V} (hj : j ∈ vs) : wipe ((wipe σ vs).set j x) vs = wipe σ vs := by
  apply List.ext_getElem?
  intro i
  rw [wipe_at, List.length_set, wipe_length]
  by_cases hi : i ∈ vs
  · rw [if_pos hi, wipe_at, if_pos hi]
  · rw [if_neg hi, List.getElem?_set_ne (fun (e : j = i) => hi (e ▸ hj))]
theorem ev_lc {wi : TI} {j : Nat} {vs : List Nat} {A : List D → τ → Prop} (hi : Io J wi δ s A) (hj : j ∈ vs) (Pv : List D → Nat → List D → τ → Prop) (h0 : ∀ xs s', A xs s' → Pv xs 0 [] s')
    (p : D → Bool) (ht : ∀ (xs : List D) (s' : τ) (i : Nat) (x : D), A xs s' → xs[i]? = some x → EtP t ((wipeD δ vs).set j (some x)) (p x)) (hz : ∀ xs s', A xs s' → xs.length < sizeLine)
    (hs : ∀ (xs : List D) (s0 : τ) (Dl : Addr) (i : Nat) (x : D) (ds : List D) (s1 : τ) (acc : List V), A xs s0 → ¬ J.own s0 Dl → xs[i]? = some x → p x = true → Pv xs i ds s1 → Ev (J.plus Dl) te ((wipeD δ vs).set j (some x)) (s1, acc) (fun d s2 => s2.2 = acc ∧ Pv xs (i + 1) (ds ++ [d]) s2.1))
    (hn : ∀ (xs : List D) (i : Nat) (x : D) (ds : List D) (s1 : τ), xs[i]? = some x → p x = false → Pv xs i ds s1 → Pv xs (i + 1) ds s1)
    (hd : ∀ xs ds s', Pv xs xs.length ds s' → P (.lst ds) s') : Ev J (tLc wi (gName j) t te vs) δ s P := fun σ H E inv Q q =>
  hi σ H E inv _ fun I xs s1 H1 k1 i1 w p1 => fun Dl hD => by
    have nD : ¬ J.own s1 Dl := (J.ok s1 H1 i1).new hD
    have kD : Kp (J.own s1) H1 ((J.plus Dl).own (s1, ([] : List V))) (upd H1 Dl (.lst [])) := fun a o ha na => ⟨same_new hD a o ha, fun z => by
      rcases z with z | z
      · exact na z
      · subst z; rw [hD] at ha; cases ha⟩
    refine lc_it w (fun i H' => ∃ s' acc ds, Kp (J.own s1) H1 ((J.plus Dl).own (s', acc)) H' ∧ (J.plus Dl).inv (s', acc) H' ∧ IsAll ((J.plus Dl).own (s', acc)) H' acc ds ∧ ds.length ≤ i ∧ Pv xs i ds s')
      ⟨s1, [], [], kD, ⟨by rw [del_upd, del_none hD]; exact i1, upd_same⟩, .nil, Nat.le_refl _, h0 xs s1 p1⟩ (fun i H' _ ⟨s', acc, ds, k, _⟩ a o ha na => (k a o ha na).1) (fun i x H' H'' hi ⟨s', acc, ds, k, iv, ia, hl, pv⟩ y => ?_) (fun H' ⟨s', acc, ds, k, iv, ia, hl, pv⟩ => ?_)
    · obtain ⟨e, d, hd', is⟩ := y
      subst e
      refine ⟨wipe_set hj, ?_⟩
      have E' : EnvR ((J.plus Dl).own (s', acc)) H'' ((wipe σ vs).set j (some x)) ((wipeD δ vs).set j (some d)) := (((E.kp k1).kp k).wipe vs).set j (is.kp k)
      refine ht xs s1 i d p1 hd' ((J.plus Dl).own (s', acc)) _ H'' ((J.plus Dl).ok _ H'' iv) E' _ fun H3 e3 => ?_
      cases hp : p d with
      | false => exact ⟨s', acc, ds, k.trans (Kp.same e3), (J.plus Dl).stab _ H'' H3 iv e3, ia.same e3, by omega, hn xs i d ds s' hd' hp pv⟩
      | true =>
        show te _ H3 _
        refine hs xs s1 Dl i d ds s' acc p1 nD hd' hp pv _ H3 (E'.same e3) ((J.plus Dl).stab _ H'' H3 iv e3) _ fun v d2 s2 H4 k4 i4 is4 ⟨ea, p4⟩ => ?_
        obtain ⟨s2, acc2⟩ := s2
        simp only at ea
        subst ea
        have h4 : H4 Dl = some (.lst acc2) := i4.2
        have ia4 : IsAll ((J.plus Dl).own (s2, acc2)) H4 acc2 ds := (ia.same e3).kp k4
        have hz' := hz xs s1 p1
        have hlen := ia4.length
        refine ⟨acc2, h4, by rw [hlen]; omega, s2, acc2 ++ [v], ds ++ [d2], ?_, ⟨?_, upd_same⟩, ?_, by rw [List.length_append, List.length_singleton]; omega, p4⟩
        · intro a o ha na
          obtain ⟨g1, g2⟩ := ((k.trans (Kp.same e3)).trans k4) a o ha na
          exact ⟨by rw [upd_ne (fun z => g2 (.inr z))]; exact g1, g2⟩
        · show J.inv s2 (del (upd H4 Dl _) Dl)
          rw [del_upd]
          exact i4.1
        · have kk : Kp ((J.plus Dl).own (s2, acc2)) H4 ((J.plus Dl).own (s2, acc2 ++ [v])) (upd H4 Dl (.lst (acc2 ++ [v]))) := fun a o ha na => ⟨by rw [upd_ne (fun z => na (.inr z))]; exact ha, na⟩
          exact (ia4.kp kk).append (IsAll.one (is4.kp kk))
    · have kk : Kp ((J.plus Dl).own (s', acc)) H' (J.own s') H' := fun a o ha na => ⟨ha, fun z => na (.inl z)⟩
      refine q (.ref Dl) (.lst ds) s' H' ?_ (J.stab s' _ _ iv.1 del_sub) (.lst iv.2 ?_ (ia.kp kk)) (hd xs ds s' pv)
      · exact (k1.trans k).trans kk
      · exact fun z => J.ok s' _ iv.1 Dl z del_same
end
end DL

set_option Elab.async false
set_option linter.all false
set_option maxRecDepth 100000
set_option maxHeartbeats 4000000
namespace DL
open PySem L2

/-! ### pure by any interface -/
def JP (own : Own) (H0 : Hp) (o : OwnOk own H0) : Ifc Unit := ⟨fun _ => own, fun _ H => Same H0 H, fun _ _ h => o.same h, fun _ _ _ h e => h.trans e⟩
section
variable {δ : Env} {ta te : TE} {t : TT} {d z : D} {ds xs : List D}
theorem EvP.of (h : ∀ (τ : Type) (J : Ifc τ) (s : τ), Ev J te δ s (fun d' s' => d' = d ∧ s' = s)) : EvP te δ d := fun own σ H o E Q q =>
  h Unit (JP own H o) () σ H E (Same.refl H) Q fun v d' s' H' k i is ⟨e, _⟩ => q v H' i (e ▸ is)
theorem take_succ_get {α : Type} : ∀ {l : List α} {i : Nat} {x : α}, l[i]? = some x → l.take (i + 1) = l.take i ++ [x]
  | [], i, x, h => by simp at h
  | a :: l, 0, x, h => by
    have e : a = x := Option.some.inj h
    subst e
    rfl
  | a :: l, i + 1, x, h => by
    have ih := take_succ_get (l := l) (i := i) (x := x) h
    show a :: l.take (i + 1) = a :: l.take i ++ [x]
    rw [ih]
    rfl
theorem p_lc {wi : TI} {j : Nat} {vs : List Nat} (p : D → Bool) (f : D → D) (hi : ItP wi δ xs) (hj : j ∈ vs) (hz : xs.length < sizeLine)
    (ht : ∀ x, x ∈ xs → EtP t ((wipeD δ vs).set j (some x)) (p x)) (he : ∀ x, x ∈ xs → p x = true → EvP te ((wipeD δ vs).set j (some x)) (f x)) :
    EvP (tLc wi (gName j) t te vs) δ (.lst ((xs.filter p).map f)) := EvP.of fun τ J s =>
  ev_lc (A := fun xs' s' => xs' = xs ∧ s' = s) (hi.io ⟨rfl, rfl⟩) hj (fun xs' i ds s' => xs' = xs ∧ s' = s ∧ ds = ((xs.take i).filter p).map f) (fun xs' s' ⟨e1, e2⟩ => ⟨e1, e2, by simp⟩) p
    (fun xs' s' i x ⟨e1, e2⟩ hx => by subst e1; exact ht x (List.mem_of_getElem? hx)) (fun xs' s' ⟨e1, _⟩ => by subst e1; exact hz)
    (fun xs' s0 Dl i x ds s1 acc ⟨e1, e2⟩ _ hx hp ⟨_, e3, e4⟩ => by
      subst e1; subst e3
      refine ev_p (he x (List.mem_of_getElem? hx) hp) ⟨rfl, rfl, rfl, ?_⟩
      rw [take_succ_get hx, List.filter_append, List.map_append, ← e4]
      simp [hp])
    (fun xs' i x ds s1 hx hp ⟨e1, e3, e4⟩ => by
      subst e1
      refine ⟨rfl, e3, ?_⟩
      rw [take_succ_get hx, List.filter_append, List.map_append, ← e4]
      simp [hp])
    (fun xs' ds s' ⟨e1, e2, e3⟩ => by
      subst e1
      rw [List.take_length] at e3
      exact ⟨by rw [e3], e2⟩)
theorem pt_yes : EtP tYes δ true := fun own σ H o E Q q => q H (Same.refl H)
/-- no test -/
theorem p_lcm {wi : TI} {j : Nat} {vs : List Nat} (f : D → D) (hi : ItP wi δ xs) (hj : j ∈ vs) (hz : xs.length < sizeLine) (he : ∀ x, x ∈ xs → EvP te ((wipeD δ vs).set j (some x)) (f x)) :
    EvP (tLc wi (gName j) tYes te vs) δ (.lst (xs.map f)) := by
  have h := p_lc (t := tYes) (fun _ => true) f hi hj hz (fun _ _ => pt_yes) (fun x hx _ => he x hx)
  rw [List.filter_eq_self.mpr (fun _ _ => rfl)] at h
  exact h

/-! ### promises of pure defs -/
def spP (R : List D → D → Prop) : Sp := fun vs H Q _ => ∃ (own : Own) (ds : List D) (z : D), OwnOk own H ∧ IsAll own H vs ds ∧ R ds z ∧ ∀ v H', Same H H' → Is own H' v z → Q v H'
variable {R : List D → D → Prop} {E0' : XK}
theorem p_call {ta : TA} (h : EaP ta δ ds) (hR : R ds z) : EvP (tCall (spP R) [] E0' ta) δ z := fun own σ H o E Q q =>
  h own σ H o E _ fun vs H1 s1 i1 => ⟨own, ds, z, o.same s1, by rw [List.append_nil]; exact i1, hR, fun v H' s2 i2 => q v H' (s1.trans s2) i2⟩
theorem p_callN {ta tk : TA} {es : List D} {n m : Nat} (h : EaP ta δ ds) (hk : EaP tk δ es) (hn : ds.length = n) (hm : es.length = m) (hR : R (ds ++ es) z) : EvP (tCallN n m (spP R) (fun vs zs => vs ++ zs) E0' ta tk) δ z := fun own σ H o E Q q =>
  h own σ H o E _ fun vs H1 s1 i1 => hk own σ H1 (o.same s1) (E.same s1) _ fun zs H2 s2 i2 => ⟨by rw [i1.length]; exact hn, by rw [i2.length]; exact hm, own, ds ++ es, z, (o.same s1).same s2, (i1.same s2).append i2, hR, fun v H' s3 i3 => q v H' ((s1.trans s2).trans s3) i3⟩
def RnP (t : TS) (δ : Env) (z : D) : Prop := ∀ (τ : Type) (J : Ifc τ) (s : τ), Rn J t δ s { rt := fun d s' => d = z ∧ s' = s }
/-- the slots at a def's start -/
def startD (N : List Str) (ds : List D) : Env := ds.map some ++ List.replicate (N.length - ds.length) none
end
section
variable {P : Program} {w : World} {K : PySem.W.Frag} {mg : Str → Option Value} {base : Heap}
theorem okP {x qual : Str} {st : Stmt} {f : Addr} {fd : FuncData} {N ps : List Str} {k : Nat} {R : List D → D → Prop} (F : Fun K x qual st f fd) (S : FnScope N ps (defScope st)) (len : ∀ ds z, R ds z → ds.length = ps.length)
    (hbody : ∀ (cdv : Value) (A : Around) (outer : List PySem.Env) (s : Shared) (H : Hp) (E : XK), Room k (A.deeper (PyProof.Rows.envOfC qual (defScope st) s.heap.objs.size f cdv)) →
      ∃ t, PSs (cxOf CX0 P w K mg base N qual (defScope st) f cdv A outer s H E).nox (defBody st) t ∧ ∀ ds z, R ds z → RnP t (startD N ds) z) : FnOk P w K mg base CX0 (k + 1) f fd ps (spP R) := by
  refine F.ok S (fun vs H Q E h => ?_) (fun cdv A outer s H vs Q E hr h => ?_)
  · obtain ⟨own, ds, z, _, ia, hR, _⟩ := h
    rw [ia.length]
    exact len ds z hR
  · obtain ⟨own, ds, z, o, ia, hR, q⟩ := h
    obtain ⟨t, hd, ht⟩ := hbody cdv A outer s H E hr
    refine ⟨t, hd, ht ds z hR Unit (JP own H o) () _ _ H ?_ (Same.refl H) (fun _ _ _ _ _ _ _ z => z.elim) (fun v d s' H' kp i is ⟨e, _⟩ => q v H' i (e ▸ is)) (fun _ _ _ _ _ _ _ z => z.elim) (fun _ _ _ _ _ _ _ z => z.elim)⟩
    unfold L2.start startD
    rw [ia.length]
    exact EnvR.start ia _
end
section
variable {X : Cx} {CX : CXT} {k : Nat} {f : Addr} {fd : FuncData} {ps ks : List Str} {sp : Sp} {E : XK} {x : Str} {p pos : Pos} {kws : List Keyword} {tk : TA} {g : List Value → List Value → List Value} {gV : List V → List V → List V}
/-- f(k = v, ..) -/
theorem pe_callN0 (F : FnOk X.prog X.w X.K X.mg X.base CX k f fd ps sp) (hr : Room k X.A) (hg : Gl X x) (hm : X.mg x = some (.ref f)) (hk : PySem.W.keepIn X.K (.ref f) = true) (hb : KBn X.K fd ps 0 ks g gV) (hx : Passes CX X E)
    (hkw : PK X kws tk) (hall : (backToKw pos (keywordEach kws X.env)).all (·.1.isSome) = true := by rfl) (hks : (backToKw pos (keywordEach kws X.env)).filterMap (·.1) = ks := by rfl)
    (hdb : (x == ("__debug__" : Str)) = false := by decide)
    (hpl : ((backTo pos (starEach [] X.env)).any (·.1) || (backToKw pos (keywordEach kws X.env)).any (·.1.isNone)) = false := by rfl) :
    PE X (.Call (.Name x p) [] kws pos) (tCallN 0 ks.length sp gV E tNil tk) := by
  refine ⟨fun pins s σ H Q I h => ?_⟩
  refine wpAny_Call_Name_kw (ld_glob I hg hm ?_ hdb)
  refine PySem.W.callWith_KW0 (h₀ := X.base) I.ok.mod.kin hk hall ?_ hpl
  refine thn (hkw.run pos pins s σ H _ I h) fun ws s2 ⟨zs, H2, I2, rz, l1, l2, q2⟩ => ⟨I2.kIn, ?_⟩
  rw [hks]
  exact run_fnN (us := []) (vs := []) F hr hb hx I2 .nil rz rfl l2 q2
end
theorem Fun.kbn {K : PySem.W.Frag} {x qual : Str} {st : Stmt} {f : Addr} {fd : FuncData} {ps ks : List Str} {n : Nat} (F : Fun K x qual st f fd)
    (h : ∀ (kV doc pm : Value) (an : Option Addr) (cdv ct : Value) (us ws : List Value), us.length = n → ws.length = ks.length → bindArgs (PySem.W.fnOf x qual (defArgs st) (defBody st) (defScope st) .none kV doc pm an cdv ct) ⟨us, ks.zip ws⟩ = pure (ps.zip (us ++ ws))) :
    KBn K fd ps n ks (fun us ws => us ++ ws) (fun vs zs => vs ++ zs) := by
  obtain ⟨oc, od, kV, doc, pm, an, cdv, ct, osl, rfl, lk, hcd⟩ := F.ex
  exact ⟨fun s us ws X l1 l2 => .of_eq (h kV doc pm an cdv ct us ws l1 l2), fun r1 r2 => r1.append r2⟩

/-! ### head, *parts = .. -/
section
open PySem.W PySem.Calls PyProof.Rows
variable {prog : Program} {w : World} {A : Around} {E : Value → Shared → Prop} {s : Shared}
theorem unpack_starT {l : Addr} {items : Array Value} {n i : Nat} {Q : List Value → Shared → Prop} (hl : IsTup s.heap l items) (hh : A.handled = none) (hi : i < n) (hn : n ≤ items.size + 1) (hz : items.size ≤ sizeLine)
    (h : ∀ (h₂ : Heap) tk, (∀ b o, s.heap.get? b = some o → h₂.get? b = some o) → Q (items.toList.take i ++ [.ref h₂.objs.size] ++ (items.toList.drop i).drop (items.size + 1 - n)) { s with heap := h₂.push { cls := .type "list", data := .seq ((items.toList.drop i).take (items.size + 1 - n)).toArray }, toks := tk }) :
    wpAny (model prog w) A (unpackItems (.ref l) n (some i)) Q E s := by
  have hlt : l ≠ s.heap.objs.size := by obtain ⟨o, ho, _⟩ := hl; exact Nat.ne_of_lt (Heap.lt_size ho)
  have hll : l < s.heap.objs.size := by obtain ⟨o, ho, _⟩ := hl; exact Heap.lt_size ho
  unfold unpackItems
  refine wpAny_bind ?_
  unfold notIterableAtAll
  refine wpAny_bind (wpAny_specialOf hl.typeIs slot_tuple_iter.lookup ?_)
  refine wpAny_pure ?_
  simp only [Bool.false_eq_true, if_false]
  refine wpAny_bind (wpAny_holding (iter_tuple hl ?_))
  refine wpAny_bind (wpAny_holding (draw_tuple hlt i 0 _ _ ⟨_, Heap.get?_push_size _ rfl, rfl, rfl⟩ (hl.push _) (by omega) fun h₁ hit₁ hs₁ => ?_))
  have hl₁ : IsTup h₁ l items := (hl.push _).extBut hs₁.extBut hlt
  rw [Nat.zero_add] at hit₁
  have hit₁' := hit₁
  obtain ⟨oi, hoi, _⟩ := hit₁'
  have hl₁' := hl₁
  obtain ⟨ol, hol, _⟩ := hl₁'
  rw [List.drop_zero]
  have hfl : (items.toList.take i).length = i := by rw [List.length_take, Array.length_toList]; omega
  rw [if_neg (show ¬ ((items.toList.take i).length < i) by rw [hfl]; omega)]
  refine wpAny_bind (wpAny_holding (kun_collect (s := { s with heap := h₁ }) (T := "tuple_iterator") (.inr (.inr (.inr rfl))) (Walks.tuple (A := A.in1) hh s.heap.objs.size l hlt items) (fun j u st => st.1.typeIs) (k := i) (by omega) ⟨hit₁, hl₁⟩ (Heap.lt_size hoi) (Heap.lt_size hol) (fun h₂ tk hk => ?_) hz))
  have hrl : (items.toList.drop i).length = items.size - i := by rw [List.length_drop, Array.length_toList]
  have hmid : (items.toList.drop i).length - (n - 1 - i) = items.size + 1 - n := by rw [hrl]; omega
  show wpAny _ _ (if (items.toList.drop i).length < n - 1 - i then _ else _) _ _ _
  rw [if_neg (by rw [hrl]; omega)]
  show wpAny _ _ (newList ((items.toList.drop i).take ((items.toList.drop i).length - (n - 1 - i))) >>= fun d => pure (items.toList.take i ++ [d] ++ (items.toList.drop i).drop ((items.toList.drop i).length - (n - 1 - i)))) _ _ _
  rw [hmid]
  have he : Heap.ExtBut s.heap.objs.size s.heap h₂ := fun b o hb e => hk b o hb (hs₁.extBut b o hb (Heap.get?_push_of_some _ e))
  refine wpAny_bind (wpAny_newObj_type ?_ (by show ((items.toList.drop i).take (items.size + 1 - n)).toArray.size ≤ sizeLine; rw [List.size_toArray, List.length_take, hrl]; omega))
  exact wpAny_pure (h h₂ tk fun b o e => he b o (Nat.ne_of_lt (Heap.lt_size e)) e)
end
section
variable {X : Cx} {pos : Pos}
def gStarT (K : PySem.W.Frag) (n i : Nat) (t : TGs) : TG := fun v σ H Q => ∃ a xs, v = .ref a ∧ SqT K H a xs ∧ n ≤ xs.length + 1 ∧
  ∀ p, H p = none → t (xs.take i ++ [.ref p] ++ (xs.drop i).drop (xs.length + 1 - n)) σ (upd H p (.lst ((xs.drop i).take (xs.length + 1 - n)))) Q
theorem pg_starT {es : List Expr} {k : Nat} {t : TGs} {n i : Nat} (hc : X.calm = true) (h : PGs X es t) (hi : i < n)
    (hn : (assignEach es X.env).length = n := by rfl) (hst : (assignEach es X.env).findIdx? (·.1) = some i := by rfl) : PG X (.Tuple es k pos) (gStarT X.K n i t) := by
  refine ⟨fun pins s σ H v u Q I r hw => ?_⟩
  obtain ⟨a, xs, e1, hq, hl, hw⟩ := hw
  subst e1
  cases r
  obtain ⟨its, rv, ht, hz⟩ := I.tuple hq
  have hlen := rv.length
  rw [PyProof.Rows.assign_Tuple]
  refine wpAny_bind (wpAny_standAt ?_)
  unfold unpack
  rw [hn, hst]
  have hsz : its.toArray.size = xs.length := by rw [List.size_toArray]; omega
  refine wpAny_bind (wpAny_holding (unpack_starT ht (I.ok.hd hc) hi (by omega) (by omega) fun h₂ tk hk => ?_))
  have I1 : Inv X pins σ H { s with heap := h₂, toks := tk } := I.kept (t' := tk) hk
  have hf : H h₂.objs.size = none := I1.hok.fresh (Nat.le_refl _)
  have I2 : Inv X pins σ (upd H h₂.objs.size (.lst ((xs.drop i).take (xs.length + 1 - n)))) { s with heap := h₂.push { cls := .type "list", data := .seq ((its.drop i).take (xs.length + 1 - n)).toArray }, toks := tk } :=
    I1.laid (t' := tk) (fun b o e => Heap.get?_push_of_some _ e) (Nat.le_refl _) ⟨by rw [List.length_take, List.length_drop]; omega, _, 0, (rv.drop i).take _, Heap.get?_push_size _ rfl⟩
  rw [hsz]
  have q2 := hw h₂.objs.size hf
  have rr : RelV (.ref h₂.objs.size) (Value.ref h₂.objs.size) := rfl
  exact h.run pins _ σ _ _ _ Q I2 (((rv.take i).append (.cons rr .nil)).append ((rv.drop i).drop _)) q2
theorem pgs_starN {e : Expr} {es : List Expr} {t : TG} {u : TGs} {p : Pos} (h1 : PG X e t) (h2 : PGs X es u) : PGs X (.Starred e p :: es) (gCons t u) := by
  refine ⟨fun pins s σ H vs us Q I r h => ?_⟩
  obtain ⟨v, vr, e1, h⟩ := h
  subst e1
  cases r with
  | cons r rr =>
    show wpAny _ _ (assignInOrder (assign e X.env :: (assignEach es X.env).map (·.2)) _) _ _ _
    refine PyProof.Rows.assignInOrder_cons (thn (h1.run pins s σ H _ _ _ I r h) fun _ s1 ⟨σ1, H1, I1, q1⟩ => ?_)
    exact h2.run pins s1 σ1 H1 _ _ Q I1 rr q1
end
section
variable {τ : Type} {J : Ifc τ} {δ : Env} {s : τ} {te : TE} {us : TS} {Po : Post τ} {K : PySem.W.Frag}
/-- head, *parts = t -/
theorem rn_star2 {i j : Nat} {P : D → τ → Prop} (h : Ev J te δ s P) (hP : ∀ d s', P d s' → ∃ x xs, d = .tup (x :: xs) ∧ Po.nx ((δ.set i (some x)).set j (some (.lst xs))) s') :
    Rn J (tAsg te (gStarT K 2 1 (gCons (gName i) (gCons (gName j) gNil)))) δ s Po := fun En σ H E inv q1 q2 q3 q4 => h σ H E inv _ fun v d s' H' k i' is p => by
  obtain ⟨x, xs, rfl, pp⟩ := hP d s' p
  cases is with
  | @tup a vs _ h1 n1 a1 =>
    cases a1 with
    | @cons v vr _ _ iv ir =>
      refine ⟨a, v :: vr, rfl, SqT.of h1, by simp, fun p' hp => ?_⟩
      have e1 : (v :: vr).take 1 ++ [V.ref p'] ++ ((v :: vr).drop 1).drop ((v :: vr).length + 1 - 2) = [v, .ref p'] := by simp
      have e2 : ((v :: vr).drop 1).take ((v :: vr).length + 1 - 2) = vr := by simp
      rw [e1, e2]
      have ok := J.ok s' H' i'
      refine ⟨v, _, rfl, _, _, rfl, rfl, q1 _ _ s' _ (k.trans (Kp.same (same_new hp))) (J.stab s' H' _ i' (same_new hp)) ?_ pp⟩
      exact (((E.kp k).same (same_new hp)).set i (iv.same (same_new hp))).set j (Is.newLst ok hp ir)
theorem rn_star2P {i j : Nat} {x : D} {xs : List D} (h : EvP te δ (.tup (x :: xs))) (k : Rn J us ((δ.set i (some x)).set j (some (.lst xs))) s Po) :
    Rn J (tSeq (tAsg te (gStarT K 2 1 (gCons (gName i) (gCons (gName j) gNil)))) us) δ s Po :=
  rn_seq (M := fun δ' s' => δ' = (δ.set i (some x)).set j (some (.lst xs)) ∧ s' = s) (rn_star2 h.ev fun d s' ⟨e1, e2⟩ => ⟨x, xs, e1, rfl, e2⟩) fun _ _ ⟨e1, e2⟩ => by subst e1; subst e2; exact k
/-- a, b = x, y -/
theorem rn_par {i j : Nat} {ta : TA} {A : List D → τ → Prop} (h : Ea J ta δ s A) (hA : ∀ ds s', A ds s' → ∃ x y, ds = [x, y] ∧ Po.nx ((δ.set i (some x)).set j (some y)) s') : Rn J (tPar i j ta) δ s Po := fun En σ H E inv q1 q2 q3 q4 => h σ H E inv _ fun vs ds s' H' k i' is p => by
  obtain ⟨x, y, rfl, pp⟩ := hA ds s' p
  cases is with
  | cons h1 t1 =>
    cases t1 with
    | cons h2 t2 =>
      cases t2
      exact ⟨_, _, rfl, q1 _ _ s' H' k i' (((E.kp k).set i h1).set j h2) pp⟩
/-- a, b = t -/
theorem rn_two {i j : Nat} {P : D → τ → Prop} (h : Ev J te δ s P) (hP : ∀ d s', P d s' → ∃ x y, d = .tup [x, y] ∧ Po.nx ((δ.set i (some x)).set j (some y)) s') :
    Rn J (tAsg te (gTup K 2 (gCons (gName i) (gCons (gName j) gNil)))) δ s Po := fun En σ H E inv q1 q2 q3 q4 => h σ H E inv _ fun v d s' H' k i' is p => by
  obtain ⟨x, y, rfl, pp⟩ := hP d s' p
  cases is with
  | @tup a vs _ h1 n1 a1 =>
    cases a1 with
    | cons i1 t1 =>
      cases t1 with
      | cons i2 t2 =>
        cases t2
        exact ⟨a, _, rfl, SqT.of h1, rfl, _, _, rfl, _, _, rfl, rfl, q1 _ _ s' H' k i' (((E.kp k).set i i1).set j i2) pp⟩
end
end DL

set_option Elab.async false
set_option linter.all false
set_option maxRecDepth 100000
set_option maxHeartbeats 4000000
namespace DL
open PySem L2

/-! ### the draws: a list [cells, at, seed] at a, its cells at c -/
def Drw (a c : Addr) (H : Hp) : Prop := ∃ (ns : List Int) (at' seed : Int), H a = some (.lst [.ref c, .int at', .int seed]) ∧ H c = some (.lst (ns.map V.int)) ∧ a ≠ c ∧ ns ≠ [] ∧ ns.length ≤ 63 ∧ (∀ n ∈ ns, 0 ≤ n) ∧ 0 ≤ at' ∧ 0 ≤ seed ∧ seed < 2147483647
/-- all but the draws stands as it stood -/
def KpD (a c : Addr) (H H' : Hp) : Prop := ∀ x o, x ≠ a → x ≠ c → H x = some o → H' x = some o
theorem KpD.refl {a c : Addr} {H : Hp} : KpD a c H H := fun _ _ _ _ h => h
theorem KpD.trans {a c : Addr} {H H1 H2 : Hp} (h : KpD a c H H1) (k : KpD a c H1 H2) : KpD a c H H2 := fun x o h1 h2 h3 => k x o h1 h2 (h x o h1 h2 h3)
theorem KpD.same {a c : Addr} {H H1 : Hp} (h : Same H H1) : KpD a c H H1 := fun x o _ _ h3 => h x o h3
theorem Drw.same {a c : Addr} {H H' : Hp} (h : Drw a c H) (e : Same H H') : Drw a c H' := by
  obtain ⟨ns, at', seed, h1, h2, r⟩ := h
  exact ⟨ns, at', seed, e _ _ h1, e _ _ h2, r⟩
structure HasDraw {τ : Type} (J : Ifc τ) (a c : Addr) : Prop where
  oa : ∀ s, J.own s a
  oc : ∀ s, J.own s c
  drw : ∀ s H, J.inv s H → Drw a c H
  upd : ∀ s H H', J.inv s H → KpD a c H H' → Drw a c H' → J.inv s H'
theorem HasDraw.plus {τ : Type} {J : Ifc τ} {a c Dl : Addr} {s : τ} (h : HasDraw J a c) (n : ¬ J.own s Dl) : HasDraw (J.plus Dl) a c := by
  have na : a ≠ Dl := fun e => n (e ▸ h.oa s)
  have nc : c ≠ Dl := fun e => n (e ▸ h.oc s)
  refine ⟨fun s' => .inl (h.oa s'.1), fun s' => .inl (h.oc s'.1), fun s' H i => (h.drw s'.1 _ i.1).same del_sub, fun s' H H' i k d => ⟨h.upd s'.1 _ _ i.1 (fun x o hx hc hh => ?_) ?_, k _ _ (Ne.symm na) (Ne.symm nc) i.2⟩⟩
  · by_cases e : x = Dl
    · subst e; rw [del_same] at hh; cases hh
    · rw [del_ne e] at hh ⊢; exact k x o hx hc hh
  · obtain ⟨ns, at', seed, h1, h2, r⟩ := d
    exact ⟨ns, at', seed, by rw [del_ne na]; exact h1, by rw [del_ne nc]; exact h2, r⟩
/-- with draws: whatever else is owned -/
def EvD (a : Addr) (t : TE) (δ : Env) (P : D → Prop) : Prop := ∀ (τ : Type) (J : Ifc τ) (c : Addr) (s : τ), HasDraw J a c → Ev J t δ s (fun d s' => s' = s ∧ P d)
def EtD (a : Addr) (t : TT) (δ : Env) (P : Bool → Prop) : Prop := ∀ (τ : Type) (J : Ifc τ) (c : Addr) (s : τ), HasDraw J a c → Et J t δ s (fun d s' => s' = s ∧ P d)
def EaD (a : Addr) (t : TA) (δ : Env) (P : List D → Prop) : Prop := ∀ (τ : Type) (J : Ifc τ) (c : Addr) (s : τ), HasDraw J a c → Ea J t δ s (fun d s' => s' = s ∧ P d)
def ItD (a : Addr) (t : TI) (δ : Env) (P : List D → Prop) : Prop := ∀ (τ : Type) (J : Ifc τ) (c : Addr) (s : τ), HasDraw J a c → Io J t δ s (fun d s' => s' = s ∧ P d)
structure PostD where
  nx : Env → Prop := fun _ => False
  rt : D → Prop := fun _ => False
  bk : Env → Prop := fun _ => False
  ct : Env → Prop := fun _ => False
def PostD.at {τ : Type} (Po : PostD) (s : τ) : Post τ := { nx := fun δ s' => s' = s ∧ Po.nx δ, rt := fun d s' => s' = s ∧ Po.rt d, bk := fun δ s' => s' = s ∧ Po.bk δ, ct := fun δ s' => s' = s ∧ Po.ct δ }
def RnD (a : Addr) (t : TS) (δ : Env) (Po : PostD) : Prop := ∀ (τ : Type) (J : Ifc τ) (c : Addr) (s : τ), HasDraw J a c → Rn J t δ s (Po.at s)
section
variable {a : Addr} {δ : Env} {ta tb te : TE} {t u : TT} {P R : D → Prop} {d : D} {ts us ws : TS} {Po : PostD}
theorem EvP.toD (h : EvP te δ d) (k : P d) : EvD a te δ P := fun τ J c s hd => ev_p h ⟨rfl, k⟩
theorem EvD.imp (h : EvD a te δ P) (k : ∀ d, P d → R d) : EvD a te δ R := fun τ J c s hd => (h τ J c s hd).imp fun d s' ⟨e, p⟩ => ⟨e, k d p⟩
theorem EtP.toD {b : Bool} {T : Bool → Prop} (h : EtP t δ b) (k : T b) : EtD a t δ T := fun τ J c s hd => h.et ⟨rfl, k⟩
theorem EaP.toD {ta : TA} {ds : List D} {A : List D → Prop} (h : EaP ta δ ds) (k : A ds) : EaD a ta δ A := fun τ J c s hd => h.ea ⟨rfl, k⟩
theorem ItP.toD {wi : TI} {xs : List D} {A : List D → Prop} (h : ItP wi δ xs) (k : A xs) : ItD a wi δ A := fun τ J c s hd => h.io ⟨rfl, k⟩
theorem d_op {r : R2} {P1 : D → Prop} {P2 : D → D → Prop} (ha : EvD a ta δ P1) (hb : ∀ d, P1 d → EvD a tb δ (P2 d)) (hr : ∀ d e, P2 d e → ∃ z, RvP r d e z ∧ P z) : EvD a (tOp r ta tb) δ P := fun τ J c s hd =>
  ev_op (ha τ J c s hd) (P2 := fun d e s' => s' = s ∧ P2 d e) (fun d s1 ⟨e, p⟩ => by subst e; exact hb d p τ J c _ hd) fun d e s2 ⟨e1, p⟩ => by
    obtain ⟨z, h1, h2⟩ := hr d e p
    exact ⟨z, h1, e1, h2⟩
theorem dt_test {T : Bool → Prop} (h : EvD a te δ (fun d => ∃ b, d = .bl b ∧ T b)) : EtD a (tTest te) δ T := fun τ J c s hd => et_test ((h τ J c s hd).imp fun d s' ⟨e, b, h1, h2⟩ => ⟨b, h1, e, h2⟩)
theorem dt_B {T : Bool → Prop} (h : EvD a te δ (fun d => ∃ b, d = .bl b ∧ T b)) : EtD a (tB te) δ T := fun τ J c s hd => et_B ((h τ J c s hd).imp fun d s' ⟨e, b, h1, h2⟩ => ⟨b, h1, e, h2⟩)
theorem dt_and {T T1 : Bool → Prop} (h1 : EtD a t δ T1) (h2 : T1 true → EtD a u δ T) (h3 : T1 false → T false) : EtD a (tAnd t u) δ T := fun τ J c s hd =>
  et_and (h1 τ J c s hd) (fun s1 ⟨e, p⟩ => by subst e; exact h2 p τ J c _ hd) fun s1 ⟨e, p⟩ => ⟨e, h3 p⟩
theorem dt_or {T T1 : Bool → Prop} (h1 : EtD a t δ T1) (h2 : T1 false → EtD a u δ T) (h3 : T1 true → T true) : EtD a (tOr t u) δ T := fun τ J c s hd =>
  et_or (h1 τ J c s hd) (fun s1 ⟨e, p⟩ => by subst e; exact h2 p τ J c _ hd) fun s1 ⟨e, p⟩ => ⟨e, h3 p⟩
theorem dt_not {T : Bool → Prop} (h : EtD a t δ (fun b => T (!b))) : EtD a (tNot t) δ T := fun τ J c s hd => et_not (h τ J c s hd)
theorem d_and {T1 : Bool → Prop} (h1 : EvD a ta δ (fun d => ∃ b, d = .bl b ∧ T1 b)) (h2 : T1 true → EvD a tb δ P) (h3 : T1 false → P (.bl false)) : EvD a (tAndV ta tb) δ P := fun τ J c s hd =>
  ev_and (T1 := fun b s' => s' = s ∧ T1 b) ((h1 τ J c s hd).imp fun d s' ⟨e, b, x1, x2⟩ => ⟨b, x1, e, x2⟩) (fun s1 ⟨e, p⟩ => by subst e; exact h2 p τ J c _ hd) fun s1 ⟨e, p⟩ => ⟨e, h3 p⟩
theorem d_if {T : Bool → Prop} (h : EtD a t δ T) (h1 : T true → EvD a ta δ P) (h2 : T false → EvD a tb δ P) : EvD a (tIf t ta tb) δ P := fun τ J c s hd =>
  ev_if (h τ J c s hd) (fun s1 ⟨e, p⟩ => by subst e; exact h1 p τ J c _ hd) (fun s1 ⟨e, p⟩ => by subst e; exact h2 p τ J c _ hd)
theorem da_nil {A : List D → Prop} (k : A []) : EaD a tNil δ A := fun τ J c s hd => ea_nil ⟨rfl, k⟩
theorem da_cons {tr : TA} {A : List D → Prop} {P1 : D → Prop} (h : EvD a ta δ P1) (hr : ∀ d, P1 d → EaD a tr δ (fun ds => A (d :: ds))) : EaD a (tCons ta tr) δ A := fun τ J c s hd =>
  ea_cons (h τ J c s hd) fun d s1 ⟨e, p⟩ => by subst e; exact hr d p τ J c _ hd
theorem d_tup {ta : TA} (h : EaD a ta δ (fun ds => ds.length ≤ sizeLine ∧ P (.tup ds))) : EvD a (tTup ta) δ P := fun τ J c s hd =>
  ev_tup fun σ H E i Q q => h τ J c s hd σ H E i Q fun vs ds s' H' k i' is ⟨e, h1, h2⟩ => q vs ds s' H' k i' is ⟨h1, e, h2⟩
theorem d_lst {ta : TA} (h : EaD a ta δ (fun ds => ds.length ≤ sizeLine ∧ P (.lst ds))) : EvD a (tLst ta) δ P := fun τ J c s hd =>
  ev_lst fun σ H E i Q q => h τ J c s hd σ H E i Q fun vs ds s' H' k i' is ⟨e, h1, h2⟩ => q vs ds s' H' k i' is ⟨h1, e, h2⟩
theorem d_cb {r : List V → Hp → VK → Prop} {ta : TA} (h : EaD a ta δ (fun ds => ∃ z, RcP r ds z ∧ P z)) : EvD a (tCB r ta) δ P := fun τ J c s hd =>
  ev_cb fun σ H E i Q q => h τ J c s hd σ H E i Q fun vs ds s' H' k i' is ⟨e, z, h1, h2⟩ => q vs ds s' H' k i' is ⟨z, h1, e, h2⟩
theorem d_then {k : V → Hp → VK → Prop} (h : EvD a ta δ (fun d => ∃ z, RuP k d z ∧ P z)) : EvD a (tThen ta k) δ P := fun τ J c s hd =>
  ev_then ((h τ J c s hd).imp fun d s' ⟨e, z, h1, h2⟩ => ⟨z, h1, e, h2⟩)
theorem d_slice {r : V → Option Int → Option Int → Hp → VK → Prop} {tl th : TO} {lo hi : Option Int} (h : EvD a te δ (fun d => ∃ z, RsP r d lo hi z ∧ P z)) (hl : EoP tl δ lo) (hh : EoP th δ hi) : EvD a (tSl r te tl th) δ P := fun τ J c s hd =>
  ev_slice ((h τ J c s hd).imp fun d s' ⟨e, z, h1, h2⟩ => ⟨z, h1, e, h2⟩) hl hh
theorem itd_rng {ta : TA} {N : Int → Prop} (h : EaD a ta δ (fun ds => ∃ n, ds = [.int n] ∧ -(2 ^ 62) ≤ n ∧ n < 2 ^ 62 ∧ N n)) : ItD a (iRng1 ta) δ (fun xs => ∃ n : Int, xs = rng n.toNat ∧ N n) := fun τ J c s hd σ H E i R q =>
  h τ J c s hd σ H E i _ fun vs ds s' H' k i' is ⟨e, n, e1, h1, h2, hN⟩ => by
    subst e1
    cases is with
    | cons i0 t0 =>
      cases t0
      cases i0
      refine ⟨n, rfl, h1, h2, q _ (rng n.toNat) s' H' k i' ⟨fun i H hi g => ?_, fun H g => ?_, fun i H v H' hi g y => ?_⟩ ⟨e, n, rfl, hN⟩⟩
      · rw [rng_length] at hi
        exact hi
      · show n.toNat ≤ (rng n.toNat).length
        rw [rng_length]
        exact Nat.le_refl _
      · obtain ⟨e, hv⟩ := y
        subst hv
        rw [rng_length] at hi
        refine ⟨e, .int (0 + (i : Int)), ?_, .int _⟩
        unfold rng
        rw [List.getElem?_map, List.getElem?_range hi, Int.zero_add]
        rfl

/-! ### statements -/
theorem r_next (k : Po.nx δ) : RnD a tNext δ Po := fun τ J c s hd => rn_next ⟨rfl, k⟩
theorem r_nextSeq (h : RnD a us δ Po) : RnD a (tSeq tNext us) δ Po := fun τ J c s hd => rn_nextSeq (h τ J c s hd)
theorem r_seq {M : Env → Prop} (h : RnD a ts δ { Po with nx := M }) (k : ∀ δ', M δ' → RnD a us δ' Po) : RnD a (tSeq ts us) δ Po := fun τ J c s hd =>
  rn_seq (M := fun δ' s' => s' = s ∧ M δ') (h τ J c s hd) fun δ' s' ⟨e, m⟩ => by subst e; exact k δ' m τ J c _ hd
theorem r_ret (h : EvD a te δ Po.rt) : RnD a (tRet te) δ Po := fun τ J c s hd => rn_ret (h τ J c s hd)
theorem r_retSeq (h : EvD a te δ Po.rt) : RnD a (tSeq (tRet te) us) δ Po := fun τ J c s hd => rn_retSeq (h τ J c s hd)
theorem r_setSeq {i : Nat} (h : EvD a te δ P) (k : ∀ d, P d → RnD a us (δ.set i (some d)) Po) : RnD a (tSeq (tAsg te (gName i)) us) δ Po := fun τ J c s hd =>
  rn_setSeq (h τ J c s hd) fun d s' ⟨e, p⟩ => by subst e; exact k d p τ J c _ hd
theorem r_set {i : Nat} (h : EvD a te δ P) (k : ∀ d, P d → Po.nx (δ.set i (some d))) : RnD a (tAsg te (gName i)) δ Po := fun τ J c s hd =>
  rn_set (h τ J c s hd) fun d s' ⟨e, p⟩ => ⟨e, k d p⟩
theorem r_if {T : Bool → Prop} (h : EtD a t δ T) (k1 : T true → RnD a ts δ Po) (k2 : T false → RnD a us δ Po) : RnD a (tIfS t ts us) δ Po := fun τ J c s hd =>
  rn_if (h τ J c s hd) (fun s1 ⟨e, p⟩ => by subst e; exact k1 p τ J c _ hd) (fun s1 ⟨e, p⟩ => by subst e; exact k2 p τ J c _ hd)
theorem r_ifSeq {T : Bool → Prop} (h : EtD a t δ T) (k1 : T true → RnD a (tSeq ts ws) δ Po) (k2 : T false → RnD a (tSeq us ws) δ Po) : RnD a (tSeq (tIfS t ts us) ws) δ Po := fun τ J c s hd =>
  rn_ifSeq (h τ J c s hd) (fun s1 ⟨e, p⟩ => by subst e; exact k1 p τ J c _ hd) (fun s1 ⟨e, p⟩ => by subst e; exact k2 p τ J c _ hd)
theorem r_par {i j : Nat} {ta : TA} {A : List D → Prop} (h : EaD a ta δ A) (hA : ∀ ds, A ds → ∃ x y, ds = [x, y] ∧ RnD a us ((δ.set i (some x)).set j (some y)) Po) : RnD a (tSeq (tPar i j ta) us) δ Po := fun τ J c s hd =>
  rn_seq (M := fun δ' s' => s' = s ∧ ∃ x y, δ' = (δ.set i (some x)).set j (some y) ∧ A [x, y]) (rn_par (h τ J c s hd) fun ds s' ⟨e, p⟩ => by
    obtain ⟨x, y, h1, h2⟩ := hA ds p
    subst h1
    exact ⟨x, y, rfl, e, x, y, rfl, p⟩) fun δ' s' ⟨e, x, y, h1, p⟩ => by
      subst e
      obtain ⟨x', y', h3, h4⟩ := hA _ p
      cases h3
      rw [h1]
      exact h4 τ J c _ hd
theorem r_for {wi : TI} {j : Nat} {A : List D → Prop} (hi : ItD a wi δ A) (Pv : Nat → Env → Prop) (h0 : Pv 0 δ)
    (hs : ∀ (xs : List D) (i : Nat) (x : D) (δ' : Env), A xs → xs[i]? = some x → Pv i δ' → RnD a ts (δ'.set j (some x)) { Po with nx := Pv (i + 1), ct := Pv (i + 1), bk := Po.nx }) (hd : ∀ (xs : List D) (δ' : Env), A xs → Pv xs.length δ' → Po.nx δ') : RnD a (tFor wi (gName j) ts) δ Po := fun τ J c s hD =>
  rn_for (hi τ J c s hD) (fun xs i δ' s' => s' = s ∧ A xs ∧ Pv i δ') (fun xs s' ⟨e, p⟩ => ⟨e, p, h0⟩)
    (fun xs i x δ' s' hx ⟨e, p, pv⟩ => by
      subst e
      exact (hs xs i x δ' p hx pv τ J c _ hD).imp (fun _ _ ⟨e, q⟩ => ⟨e, p, q⟩) (fun _ _ q => q) (fun _ _ q => q) (fun _ _ ⟨e, q⟩ => ⟨e, p, q⟩))
    (fun xs δ' s' ⟨e, p, pv⟩ => ⟨e, hd xs δ' p pv⟩)
/-- a comprehension that draws: what holds of the list so far -/
theorem d_lc {wi : TI} {j : Nat} {vs : List Nat} {A : List D → Prop} (hi : ItD a wi δ A) (hj : j ∈ vs) (hz : ∀ xs, A xs → xs.length < sizeLine) (Pv : Nat → List D → Prop) (h0 : Pv 0 [])
    (hs : ∀ (xs : List D) (i : Nat) (x : D) (ds : List D), A xs → xs[i]? = some x → Pv i ds → EvD a te ((wipeD δ vs).set j (some x)) (fun d => Pv (i + 1) (ds ++ [d])))
    (hd : ∀ (xs ds : List D), A xs → Pv xs.length ds → P (.lst ds)) : EvD a (tLc wi (gName j) tYes te vs) δ P := fun τ J c s hD =>
  ev_lc (hi τ J c s hD) hj (fun xs i ds s' => s' = s ∧ A xs ∧ Pv i ds) (fun xs s' ⟨e, p⟩ => ⟨e, p, h0⟩) (fun _ => true) (fun _ _ _ _ _ _ => pt_yes) (fun xs s' ⟨_, p⟩ => hz xs p)
    (fun xs s0 Dl i x ds s1 acc ⟨_, p⟩ n hx _ ⟨e, _, pv⟩ => by
      subst e
      exact (hs xs i x ds p hx pv (τ × List V) (J.plus Dl) c (_, acc) (hD.plus n)).imp fun d s2 ⟨e, q⟩ => by subst e; exact ⟨rfl, rfl, p, q⟩)
    (fun xs i x ds s1 _ h _ => by cases h) (fun xs ds s' ⟨e, p, pv⟩ => ⟨e, hd xs ds p pv⟩)

/-! ### promises of defs that draw (the draws their first argument) -/
def spD (R : List D → (D → Prop) → Prop) : Sp := fun vs H Q _ => ∃ (own : Own) (a c : Addr) (ds : List D) (P : D → Prop), OwnOk own H ∧ own a ∧ own c ∧ Drw a c H ∧ IsAll own H vs (.ref a :: ds) ∧ R ds P ∧
  ∀ v d H', KpD a c H H' → Drw a c H' → Is own H' v d → P d → Q v H'
theorem d_call {R : List D → (D → Prop) → Prop} {ta : TA} {E : XK} (h : EaD a ta δ (fun ds => ∃ es P', ds = .ref a :: es ∧ R es P' ∧ ∀ d, P' d → P d)) : EvD a (tCall (spD R) [] E ta) δ P := fun τ J c s hd σ H Ev inv Q q =>
  h τ J c s hd σ H Ev inv _ fun vs ds s' H' k i' is ⟨e, es, P', e1, hR, hp⟩ => by
    subst e1
    subst e
    refine ⟨J.own s', a, c, es, P', J.ok s' H' i', hd.oa s', hd.oc s', hd.drw s' H' i', by rw [List.append_nil]; exact is, hR, fun v d H'' kd dr is' pd => ?_⟩
    refine q v d s' H'' (k.trans fun x o hx nx => ⟨kd x o (fun e => nx (e ▸ hd.oa s')) (fun e => nx (e ▸ hd.oc s')) hx, nx⟩) (hd.upd s' H' H'' i' kd dr) is' ⟨rfl, hp d pd⟩
theorem d_callP {R : List D → (D → Prop) → Prop} {ta : TA} {E : XK} {es : List D} (h : EaP ta δ (.ref a :: es)) (hR : R es P) : EvD a (tCall (spD R) [] E ta) δ P := d_call (EaP.toD h ⟨es, P, rfl, hR, fun _ z => z⟩)
end
section
variable {P : Program} {w : World} {K : PySem.W.Frag} {mg : Str → Option Value} {base : Heap}
theorem okD {x qual : Str} {st : Stmt} {f : Addr} {fd : FuncData} {N ps : List Str} {k : Nat} {R : List D → (D → Prop) → Prop} (F : Fun K x qual st f fd) (S : FnScope N ps (defScope st)) (len : ∀ ds z, R ds z → ds.length + 1 = ps.length)
    (hbody : ∀ (cdv : Value) (A : Around) (outer : List PySem.Env) (s : Shared) (H : Hp) (E : XK), Room k (A.deeper (PyProof.Rows.envOfC qual (defScope st) s.heap.objs.size f cdv)) →
      ∃ t, PSs (cxOf CX0 P w K mg base N qual (defScope st) f cdv A outer s H E).nox (defBody st) t ∧ ∀ a ds P', R ds P' → RnD a t (startD N (.ref a :: ds)) { rt := P' }) : FnOk P w K mg base CX0 (k + 1) f fd ps (spD R) := by
  refine F.ok S (fun vs H Q E h => ?_) (fun cdv A outer s H vs Q E hr h => ?_)
  · obtain ⟨own, a, c, ds, z, _, _, _, _, ia, hR, _⟩ := h
    rw [ia.length, List.length_cons]
    exact len ds z hR
  · obtain ⟨own, a, c, ds, P', o, oa, oc, dr, ia, hR, q⟩ := h
    obtain ⟨t, hd, ht⟩ := hbody cdv A outer s H E hr
    refine ⟨t, hd, ?_⟩
    let J : Ifc Unit := ⟨fun _ => own, fun _ H' => OwnOk own H' ∧ Drw a c H' ∧ KpD a c H H', fun _ _ i => i.1, fun _ H1 H2 i e => ⟨i.1.same e, i.2.1.same e, i.2.2.trans (KpD.same e)⟩⟩
    have hD : HasDraw J a c := by
      refine ⟨fun _ => oa, fun _ => oc, fun _ _ i => i.2.1, fun _ H1 H2 i kd dr' => ⟨fun x hx e => ?_, dr', i.2.2.trans kd⟩⟩
      obtain ⟨ns, at', seed, h1, h2, _⟩ := dr'
      by_cases ea : x = a
      · subst ea; rw [h1] at e; cases e
      · by_cases ec : x = c
        · subst ec; rw [h2] at e; cases e
        · cases hx1 : H1 x with
          | none => exact i.1 x hx hx1
          | some u => rw [kd x u ea ec hx1] at e; cases e
    refine ht a ds P' hR Unit J c () hD _ _ H ?_ ⟨o, dr, KpD.refl⟩ (fun _ _ _ _ _ _ _ z => z.2.elim) (fun v d s' H' kp i is ⟨_, e⟩ => q v d H' i.2.2 i.2.1 is e) (fun _ _ _ _ _ _ _ z => z.2.elim) (fun _ _ _ _ _ _ _ z => z.2.elim)
    unfold L2.start startD
    rw [ia.length]
    exact EnvR.start ia _
end
end DL

set_option Elab.async false
set_option linter.all false
set_option maxRecDepth 100000
set_option maxHeartbeats 4000000
namespace DL
open PySem PySem.Spec PyProof.Rows in
theorem tuple_mul1 (l : Addr) (items : Array Value) (n : Nat) (dd : Option Addr) (sl : Array (Option Value)) (x : Int) (u : Tok) (c0 : (decide (x < -(2 ^ 63)) || decide (x ≥ 2 ^ 63)) = false) (c1 : (items.isEmpty || x == 1) = true) :
    Meets (Builtin.«tuple.__mul__» ⟨[.ref l, .int x u], []⟩) (fun _ R s => s.heap.get? l = some { cls := .type "tuple", dict := dd, data := .seq items n, slots := sl } ∧
      R (.ok (.ret (Value.ref l))) s) :=
  .of_wp fun prog w A R s h => by
    obtain ⟨hp, g, d, tk, os⟩ := s
    obtain ⟨hl, h⟩ := h
    have f1 := AutoSeq1.idx_int
    wp_walk using wpAny_loadPart' hl
    repeat (first
      | (refine wpAny_ite_false (decide_eq_false (by rw [c0]; exact Bool.false_ne_true)) ?_; wp_walk using wpAny_loadPart' hl)
      | (refine wpAny_ite_true (decide_eq_true (by rw [c1])) ?_; wp_walk using wpAny_loadPart' hl))
    exact ⟨_, rfl, h⟩
open PySem L2

def rRepT1 (K : PySem.W.Frag) : R2 := fun x y H Q => ∃ l xs, x = .ref l ∧ y = .int 1 ∧ SqT K H l xs ∧ Q (.ref l) H
open PySem.Spec PyProof.Rows in
theorem op_repT1 {X : Cx} : OpR X (binaryOp .Mult) (rRepT1 X.K) := by
  intro pins s σ H x y v u Q I rx ry h
  obtain ⟨l, xs, rfl, rfl, hT, q⟩ := h
  cases rx
  obtain ⟨t, rfl⟩ := ry
  obtain ⟨its, r, ⟨⟨cls, dd, data, sl⟩, ho, hc, n, hd⟩, hs⟩ := I.tuple hT
  simp only at hc hd
  subst hc hd
  refine wpAny_binaryOp_repeat_ref (T := "tuple") (U := "int") (by decide) ⟨_, ho, rfl⟩ (fun s' => typeIs_int s' 1 t) noFill_tuple_mul F.fills_int_mul F.slot_int_rmul repeat_tuple F.slot_int_index.lookup
    (call_meets F.slot_int_rmul (typeIs_int s 1 t) F.entry_int_rmul (F.args_int_rmul_2 _ _) (int_rmul_tuple 1 t l its.toArray n dd sl)
      ⟨ho, rfl, ⟨_, ho, rfl⟩, call_meets F.slot_tuple_mul ⟨_, ho, rfl⟩ F.entry_tuple_mul (F.args_tuple_mul_2 _ _) (tuple_mul1 l its.toArray n dd sl 1 t (by decide) (by simp)) ⟨ho, ?_⟩⟩)
  exact ⟨.ref l, H, I, rfl, q⟩
def rMulA (K : PySem.W.Frag) : R2 := fun x y H Q => (rI CMul fun i j => .int (i * j)) x y H Q ∨ (rRep x y H Q ∨ (rRepT K x y H Q ∨ rRepT1 K x y H Q))
theorem op_mulA {X : Cx} : OpR X (binaryOp .Mult) (rMulA X.K) := op_mul.or (op_rep.or (op_repT.or op_repT1))
section
variable {K : PySem.W.Frag} {δ : Env} {d e z : D} {ds xs : List D}
theorem mul_int {i j : Int} (h : CMul i j) : RvP (rMulA K) (.int i) (.int j) (.int (i * j)) := rv_inl (rv_intC h)
theorem rep_lst {k : Int} (h1 : -(2 ^ 63) ≤ k) (h2 : k < 2 ^ 63) (h3 : xs.length * k.toNat ≤ sizeLine) : RvP (rMulA K) (.lst xs) (.int k) (.lst (List.replicate k.toNat xs).flatten) := rv_inr (rv_inl fun own H x y o hx hy Q q => by
  cases hy
  cases hx with
  | lst g1 n1 a1 => exact ⟨_, k, _, rfl, rfl, g1, h1, h2, by rw [a1.length]; exact h3, fun p hp => q _ _ (same_new hp) (Is.newLst o hp (a1.rep k.toNat))⟩)
theorem rep_tup {k : Int} (h0 : xs ≠ []) (h1 : 1 ≤ k) (h2 : k ≤ 1000) (h3 : xs.length ≤ 1000) : RvP (rMulA K) (.tup xs) (.int k) (.tup (List.replicate k.toNat xs).flatten) := rv_inr (rv_inr fun own H x y o hx hy Q q => by
  have hx' := hx
  cases hy
  cases hx with
  | tup g1 n1 a1 =>
    by_cases hk : k = 1
    · subst hk
      refine .inr ⟨_, _, rfl, rfl, SqT.of g1, ?_⟩
      have e1 : (List.replicate (1 : Int).toNat xs).flatten = xs := by simp
      rw [e1] at q
      exact q _ H (Same.refl H) hx'
    · refine .inl ⟨_, k, _, rfl, rfl, SqT.of g1, fun e' => ?_, by omega, h2, by rw [a1.length]; exact h3, fun p hp => q _ _ (same_new hp) (Is.newTup o hp (a1.rep k.toNat))⟩
      subst e'
      cases a1
      exact h0 rfl)
/-- abs(i) -/
def rAbs : List V → Hp → VK → Prop := fun xs H Q => ∃ i, xs = [.int i] ∧ Q (.int (if i < 0 then -i else i)) H
theorem call_absA {X : Cx} : CallR X (.builtin "abs") rAbs := call_abs
theorem abs_int {i : Int} : RcP rAbs [.int i] (.int (if i < 0 then -i else i)) := fun own H vs o hx Q q => by
  cases hx with
  | cons h t =>
    cases t
    cases h
    exact ⟨i, rfl, q _ H (Same.refl H) (.int _)⟩
/-- int(x) of an int or a bool -/
def rInt1 : List V → Hp → VK → Prop := fun xs H Q => (∃ i, xs = [.int i] ∧ Q (.int i) H) ∨ ∃ k, xs = [.bl k] ∧ Q (.int (if k then 1 else 0)) H
theorem call_intA {X : Cx} : CallR X (.type "int") rInt1 := call_int1
theorem int_bl {k : Bool} : RcP rInt1 [.bl k] (.int (if k then 1 else 0)) := fun own H vs o hx Q q => by
  cases hx with
  | cons h t =>
    cases t
    cases h
    exact .inr ⟨k, rfl, q _ H (Same.refl H) (.int _)⟩
/-- list(x) of a list or a tuple -/
def rListA (K : PySem.W.Frag) : List V → Hp → VK → Prop := fun xs H Q => ∃ p ys, xs = [.ref p] ∧ (SqL K H p ys ∨ SqT K H p ys) ∧ ∀ l, H l = none → Q (.ref l) (upd H l (.lst ys))
theorem call_listA {X : Cx} : CallR X (.type "list") (rListA X.K) := call_list_of
theorem list_tup : RcP (rListA K) [.tup xs] (.lst xs) := fun own H vs o hx Q q => by
  cases hx with
  | cons h t =>
    cases t
    cases h with
    | tup g1 n1 a1 => exact ⟨_, _, rfl, .inr (SqT.of g1), fun l hl => q _ _ (same_new hl) (Is.newLst o hl a1)⟩
theorem list_lst : RcP (rListA K) [.lst xs] (.lst xs) := fun own H vs o hx Q q => by
  cases hx with
  | cons h t =>
    cases t
    cases h with
    | lst g1 n1 a1 => exact ⟨_, _, rfl, .inl (SqL.of g1), fun l hl => q _ _ (same_new hl) (Is.newLst o hl a1)⟩
/-- tuple(x) -/
theorem tuple_lst : RuP (kTup K) (.lst xs) (.tup xs) := fun own H x o hx Q q => by
  cases hx with
  | lst g1 n1 a1 => exact .inl ⟨_, _, rfl, SqL.of g1, fun p hp => q _ _ (same_new hp) (Is.newTup o hp a1)⟩
theorem tuple_tup : RuP (kTup K) (.tup xs) (.tup xs) := fun own H x o hx Q q => by
  have hx' := hx
  cases hx with
  | tup g1 n1 a1 => exact .inr ⟨_, _, rfl, SqT.of g1, q _ H (Same.refl H) hx'⟩
/-- {} -/
theorem p_dnew : EvP tDNewK δ (.dct []) := fun own σ H o E Q q => fun p hp => q _ _ (same_new hp) (.dct upd_same (o.new hp) .nil)
end
/-! ### constants of the module -/
section
variable {X : Cx} {x : Str} {pos : Pos}
theorem pe_gint {i : Int} (hg : Gl X x) (h : ∃ t, X.mg x = some (.int i t)) (hd : (x == ("__debug__" : Str)) = false := by decide) : PE X (.Name x pos) (tC (.int i)) := by
  obtain ⟨t, h⟩ := h
  exact pe_glob hg h ⟨_, rfl⟩ hd
theorem pe_gstr {z : Str} (hg : Gl X x) (h : ∃ t, X.mg x = some (.str z t)) (hd : (x == ("__debug__" : Str)) = false := by decide) : PE X (.Name x pos) (tC (.str z)) := by
  obtain ⟨t, h⟩ := h
  exact pe_glob hg h ⟨_, rfl⟩ hd
theorem pe_gty {n : String} (hg : Gl X x) (hm : X.mg x = none) (hv : bootBuiltins x = some (.type n)) (hn : x ≠ "__name__" := by decide) (hd : (x == ("__debug__" : Str)) = false := by decide) : PE X (.Name x pos) (tC (.ty n)) := pe_bltn hg hm hv rfl hn hd
end
end DL

set_option Elab.async false
set_option linter.all false
set_option maxRecDepth 100000
set_option maxHeartbeats 4000000
namespace DL
open PySem L2
/-- the def of the name x keeps sp -/
structure Cl (P : Program) (w : World) (K : PySem.W.Frag) (mg : Str → Option Value) (base : Heap) (k : Nat) (x : Str) (ps : List Str) (sp : Sp) : Prop where
  ex : ∃ f fd, FnOk P w K mg base CX0 k f fd ps sp ∧ mg x = some (.ref f) ∧ PySem.W.keepIn K (.ref f) = true ∧ Binds K fd ps []
structure ClN (P : Program) (w : World) (K : PySem.W.Frag) (mg : Str → Option Value) (base : Heap) (k : Nat) (x : Str) (ps : List Str) (n : Nat) (ks : List Str) (sp : Sp) : Prop where
  ex : ∃ f fd, FnOk P w K mg base CX0 k f fd ps sp ∧ mg x = some (.ref f) ∧ PySem.W.keepIn K (.ref f) = true ∧ KBn K fd ps n ks (fun us ws => us ++ ws) (fun vs zs => vs ++ zs)
section
variable {X : Cx} {k : Nat} {x : Str} {ps ks : List Str} {sp : Sp} {p pos : Pos} {e : Expr} {es : List Expr} {kws : List Keyword} {t tk : TA} {n : Nat}
theorem pe_cl (C : Cl X.prog X.w X.K X.mg X.base k x ps sp) (hr : Room k X.A) (hg : Gl X x) (ha : PA X (e :: es) t) (hd : (x == ("__debug__" : Str)) = false := by decide)
    (he : starEach (e :: es) X.env = (false, eval e X.env) :: starEach es X.env := by rfl) (hpl : (backTo pos (starEach es X.env)).any (·.1) = false := by rfl) : PE X (.Call (.Name x p) (e :: es) [] pos) (tCall sp [] E0 t) := by
  obtain ⟨f, fd, F, hm, hk, hb⟩ := C.ex
  exact pe_call F hr hg hm hk hb .nil pass0 ha hd he hpl
theorem pe_clN (C : ClN X.prog X.w X.K X.mg X.base k x ps n ks sp) (hr : Room k X.A) (hg : Gl X x) (ha : PA X (e :: es) t) (hkw : PK X kws tk) (hall : (backToKw pos (keywordEach kws X.env)).all (·.1.isSome) = true := by rfl) (hks : (backToKw pos (keywordEach kws X.env)).filterMap (·.1) = ks := by rfl)
    (hdb : (x == ("__debug__" : Str)) = false := by decide) (he : starEach (e :: es) X.env = (false, eval e X.env) :: starEach es X.env := by rfl)
    (hpl : ((backTo pos (starEach (e :: es) X.env)).any (·.1) || (backToKw pos (keywordEach kws X.env)).any (·.1.isNone)) = false := by rfl) :
    PE X (.Call (.Name x p) (e :: es) kws pos) (tCallN n ks.length sp (fun vs zs => vs ++ zs) E0 t tk) := by
  obtain ⟨f, fd, F, hm, hk, hb⟩ := C.ex
  exact pe_callN F hr hg hm hk hb pass0 ha hkw hall hks hdb he hpl
theorem pe_clN0 (C : ClN X.prog X.w X.K X.mg X.base k x ps 0 ks sp) (hr : Room k X.A) (hg : Gl X x) (hkw : PK X kws tk) (hall : (backToKw pos (keywordEach kws X.env)).all (·.1.isSome) = true := by rfl) (hks : (backToKw pos (keywordEach kws X.env)).filterMap (·.1) = ks := by rfl)
    (hdb : (x == ("__debug__" : Str)) = false := by decide)
    (hpl : ((backTo pos (starEach [] X.env)).any (·.1) || (backToKw pos (keywordEach kws X.env)).any (·.1.isNone)) = false := by rfl) :
    PE X (.Call (.Name x p) [] kws pos) (tCallN 0 ks.length sp (fun vs zs => vs ++ zs) E0 tNil tk) := by
  obtain ⟨f, fd, F, hm, hk, hb⟩ := C.ex
  exact pe_callN0 F hr hg hm hk hb pass0 hkw hall hks hdb hpl
variable {P : Program} {w : World} {K : PySem.W.Frag} {mg : Str → Option Value} {base : Heap} {j : Nat}
theorem Cl.mono (C : Cl P w K mg base j x ps sp) (h : j ≤ k) : Cl P w K mg base k x ps sp := by
  obtain ⟨f, fd, F, hm, hk, hb⟩ := C.ex
  exact ⟨f, fd, F.mono h, hm, hk, hb⟩
theorem ClN.mono (C : ClN P w K mg base j x ps n ks sp) (h : j ≤ k) : ClN P w K mg base k x ps n ks sp := by
  obtain ⟨f, fd, F, hm, hk, hb⟩ := C.ex
  exact ⟨f, fd, F.mono h, hm, hk, hb⟩
theorem Cl.imp {sp' : Sp} (C : Cl P w K mg base k x ps sp) (h : ∀ vs H Q E, sp' vs H Q E → sp vs H Q E) : Cl P w K mg base k x ps sp' := by
  obtain ⟨f, fd, F, hm, hk, hb⟩ := C.ex
  exact ⟨f, fd, F.imp h, hm, hk, hb⟩
end
end DL

set_option Elab.async false
set_option linter.all false
set_option maxRecDepth 100000
set_option maxHeartbeats 4000000
namespace DL
open PySem L2
/-! ### the laws' own draws: _law_take(draw, size), _law_begin(script) -/
def t_take (K : PySem.W.Frag) : TS :=
  (tSeq (tAsg (tOp (rIx K) (tVar 0) (tC (.int 0))) (gName 2)) (tSeq (tAsg (tOp (rI (fun _ j => 0 < j) fun i j => .int (i % j)) (tOp (rIx K) (tVar 0) (tC (.int 1))) (tCB (rLenA K) (tCons (tVar 2) tNil))) (gName 3)) (tSeq (tAsg (tOp (rIx K) (tVar 2) (tVar 3)) (gName 4)) (tSeq (tIfS (tTest (tOp (rI0 fun i j => .bl (decide (j ≤ i))) (tVar 4) (tOp (rI CPow fun i j => .int (i ^ j.toNat)) (tC (.int 10)) (tC (.int 18))))) (tSeq (tAsg (tOp (rI CDiv fun i j => .int (i / j)) (tVar 4) (tVar 1)) (gSub (tVar 2) (tVar 3) rSetL)) (tRet (tOp (rI (fun _ j => 0 < j) fun i j => .int (i % j)) (tVar 4) (tVar 1)))) tNext) (tSeq (tAsg (tOp (rAddA K) (tOp (rIx K) (tVar 0) (tC (.int 1))) (tC (.int 1))) (gSub (tVar 0) (tC (.int 1)) rSetL)) (tSeq (tAsg (tOp (rI (fun _ j => 0 < j) fun i j => .int (i % j)) (tOp (rAddA K) (tOp (rAddA K) (tOp (rMulA K) (tOp (rIx K) (tVar 0) (tC (.int 2))) (tC (.int 48271))) (tVar 4)) (tC (.int 12345))) (tC (.int 2147483647))) (gSub (tVar 0) (tC (.int 2)) rSetL)) (tRet (tOp (rI (fun _ j => 0 < j) fun i j => .int (i % j)) (tOp (rI CDiv fun i j => .int (i / j)) (tOp (rI (fun _ j => 0 < j) fun i j => .int (i % j)) (tOp (rMulA K) (tOp (rIx K) (tVar 0) (tC (.int 2))) (tOp (rIx K) (tVar 0) (tC (.int 2)))) (tC (.int 2147483629))) (tC (.int 16))) (tVar 1)))))))))
def Rtake (ds : List D) (P : D → Prop) : Prop := ∃ n : Int, ds = [.int n] ∧ 0 < n ∧ n < 1073741824 ∧ P = fun d => ∃ i, d = .int i ∧ 0 ≤ i ∧ i < n
theorem map_set_int (ns : List Int) (j : Nat) (v : Int) : (ns.map V.int).set j (.int v) = (ns.set j v).map V.int := by rw [List.map_set]
theorem take_read {K : PySem.W.Frag} {a c : Addr} {n : Int} {H : Hp} {Q : VK} (d : Drw a c H) (hn : 0 < n) (hn2 : n < 1073741824) (k : ∀ i H', KpD a c H H' → Drw a c H' → 0 ≤ i → i < n → Q (.int i) H') :
    t_take K { nx := fun _ H' => Q .non H', rt := Q } [some (.ref a), some (.int n), none, none, none] H := by
  obtain ⟨ns, at', seed, h1, h2, hac, hne, h63, hpos, hat, hs0, hs1⟩ := d
  have hlen : 0 < ns.length := List.length_pos_iff.mpr hne
  have hl : ((ns.map V.int).length : Int) = (ns.length : Int) := by rw [List.length_map]
  -- cells = draw[0]
  refine ⟨_, rfl, .inl ⟨a, _, 0, _, rfl, rfl, SqL.of h1, rfl, ?_⟩⟩
  -- at = draw[1] % len(cells)
  refine ⟨_, rfl, .inl ⟨a, _, 1, _, rfl, rfl, SqL.of h1, rfl, _, rfl, ?_⟩⟩
  refine ⟨.ref c, _, rfl, .inl ⟨_, SqL.of h2, rfl⟩, at', _, rfl, rfl, by rw [hl]; omega, ?_⟩
  rw [hl]
  have g0 : 0 ≤ at' % (ns.length : Int) := Int.emod_nonneg _ (by omega)
  have g1 : at' % (ns.length : Int) < (ns.length : Int) := Int.emod_lt_of_pos _ (by omega)
  obtain ⟨m, hj⟩ : ∃ m : Nat, at' % (ns.length : Int) = (m : Int) := ⟨(at' % (ns.length : Int)).toNat, by omega⟩
  have hm : m < ns.length := by omega
  have hget : ns[m]? = some ns[m] := List.getElem?_eq_getElem hm
  have hcell : (ns.map V.int)[m]? = some (.int ns[m]) := by rw [List.getElem?_map, hget]; rfl
  have hc0 : 0 ≤ ns[m] := hpos _ (List.getElem_mem hm)
  generalize ns[m] = cell at hget hcell hc0
  -- cell = cells[at]
  refine ⟨_, rfl, _, rfl, .inl ⟨c, _, _, _, rfl, rfl, SqL.of h2, (by rw [hj]; exact atI_nat hcell), ?_⟩⟩
  refine ⟨_, rfl, 10, 18, rfl, rfl, ⟨by decide, by decide, by decide⟩, cell, _, rfl, rfl, _, rfl, ?_⟩
  refine ite2 (fun hc => ?_) (fun hc => ?_)
  · -- a digit of a great cell
    refine ⟨_, rfl, _, rfl, cell, n, rfl, rfl, ⟨hn, hn2⟩, ?_⟩
    refine ⟨_, rfl, _, rfl, c, _, _, m, rfl, rfl, h2, ?_, ?_⟩
    · rw [List.length_map, hj]
      unfold ixN
      rw [if_pos (by omega), if_pos (by omega)]
      simp
    refine ⟨_, rfl, _, rfl, cell, n, rfl, rfl, hn, ?_⟩
    rw [map_set_int]
    refine k _ _ (fun x o hx hc' h => by rw [upd_ne hc']; exact h) ?_ (Int.emod_nonneg _ (by omega)) (Int.emod_lt_of_pos _ hn)
    refine ⟨ns.set m (cell / n), at', seed, by rw [upd_ne hac]; exact h1, upd_same, hac, ?_, by rw [List.length_set]; exact h63, fun x hx => ?_, hat, hs0, hs1⟩
    · intro e
      have := congrArg List.length e
      rw [List.length_set] at this
      simp at this
      exact hne this
    · rcases List.mem_or_eq_of_mem_set hx with hx | hx
      · exact hpos x hx
      · rw [hx]
        exact Int.ediv_nonneg hc0 (by omega)
  · -- a mixed number
    refine ⟨_, rfl, .inl ⟨a, _, 1, _, rfl, rfl, SqL.of h1, rfl, .inl ⟨at', 1, rfl, rfl, ?_⟩⟩⟩
    refine ⟨_, rfl, a, _, 1, 1, rfl, rfl, h1, rfl, ?_⟩
    refine ⟨_, rfl, .inl ⟨a, _, 2, _, rfl, rfl, SqL.of upd_same, rfl, .inl ⟨seed, 48271, rfl, rfl, .inr ⟨by decide, by decide⟩, _, rfl, .inl ⟨_, cell, rfl, rfl, .inl ⟨_, 12345, rfl, rfl, _, 2147483647, rfl, rfl, (show (0 : Int) < 2147483647 by decide), ?_⟩⟩⟩⟩⟩
    refine ⟨_, rfl, a, _, 2, 2, rfl, rfl, upd_same, rfl, ?_⟩
    rw [upd_upd]
    have g2 : 0 ≤ (seed * 48271 + cell + 12345) % 2147483647 := Int.emod_nonneg _ (by decide)
    have g3 : (seed * 48271 + cell + 12345) % 2147483647 < 2147483647 := Int.emod_lt_of_pos _ (by decide)
    obtain ⟨seed', hsd⟩ : ∃ x, (seed * 48271 + cell + 12345) % 2147483647 = x := ⟨_, rfl⟩
    rw [hsd] at g2 g3
    refine ⟨_, rfl, .inl ⟨a, _, 2, _, rfl, rfl, SqL.of upd_same, rfl, _, rfl, .inl ⟨a, _, 2, _, rfl, rfl, SqL.of upd_same, rfl, .inl ⟨_, _, rfl, rfl, .inl ⟨by show -(2 ^ 64) < (seed * 48271 + cell + 12345) % 2147483647; rw [hsd]; omega, by show (seed * 48271 + cell + 12345) % 2147483647 < 2 ^ 64; rw [hsd]; omega⟩, _, 2147483629, rfl, rfl, (show (0 : Int) < 2147483629 by decide), _, 16, rfl, rfl, ⟨by decide, by decide⟩, _, rfl, _, n, rfl, rfl, hn, ?_⟩⟩⟩⟩
    refine k _ _ (fun x o hx hc' h => by rw [upd_ne hx]; exact h) ?_ (Int.emod_nonneg _ (by omega)) (Int.emod_lt_of_pos _ hn)
    exact ⟨ns, at' + 1, (seed * 48271 + cell + 12345) % 2147483647, upd_same, by rw [upd_ne (Ne.symm hac)]; exact h2, hac, hne, h63, hpos, by omega, by rw [hsd]; exact g2, by rw [hsd]; exact g3⟩
section
variable {P : Program} {w : World} {K : PySem.W.Frag} {mg : Str → Option Value} {base : Heap}
theorem ok_take {x qual : Str} {st : Stmt} {f : Addr} {fd : FuncData} {N ps : List Str} {k : Nat} (F : Fun K x qual st f fd) (S : FnScope N ps (defScope st)) (hN : N.length = 5) (hp : ps.length = 2)
    (hbody : ∀ (cdv : Value) (A : Around) (outer : List PySem.Env) (s : Shared) (H : Hp) (E : XK), Room k (A.deeper (PyProof.Rows.envOfC qual (defScope st) s.heap.objs.size f cdv)) →
      PSs (cxOf CX0 P w K mg base N qual (defScope st) f cdv A outer s H E).nox (defBody st) (t_take K)) : FnOk P w K mg base CX0 (k + 1) f fd ps (spD Rtake) := by
  refine F.ok S (fun vs H Q E h => ?_) (fun cdv A outer s H vs Q E hr h => ?_)
  · obtain ⟨own, a, c, ds, z, _, _, _, _, ia, ⟨n, rfl, _⟩, _⟩ := h
    rw [ia.length, hp]
    rfl
  · obtain ⟨own, a, c, ds, P', o, oa, oc, dr, ia, ⟨n, rfl, h0, h1, rfl⟩, q⟩ := h
    refine ⟨_, hbody cdv A outer s H E hr, ?_⟩
    cases ia with
    | cons i1 t1 =>
      cases t1 with
      | cons i2 t2 =>
        cases t2
        cases i1
        cases i2
        have e : L2.start N [.ref a, .int n] = [some (.ref a), some (.int n), none, none, none] := by
          unfold L2.start
          rw [hN]
          rfl
        rw [e]
        exact take_read dr h0 h1 fun i H' kd dr' hi0 hi1 => q _ (.int i) H' kd dr' (.int i) ⟨i, rfl, hi0, hi1⟩
end
/-! ### the beginning -/
def t_begin (K : PySem.W.Frag) : TS :=
  (tSeq (tAsg (tLc (iAny K (tSl (rSlX K) (tVar 0) tNoPart (tPart (tC (.int 63))))) (gName 2) tYes (tCB rAbs (tCons (tVar 2) tNil)) [2]) (gName 1)) (tSeq (tIfS (tTest (tOp (rEqA K) (tVar 1) (tLst tNil))) (tAsg (tLst (tCons (tC (.int 7)) tNil)) (gName 1)) tNext) (tRet (tLst (tCons (tVar 1) (tCons (tC (.int 0)) (tCons (tC (.int 1)) tNil)))))))
def absI (i : Int) : Int := if i < 0 then -i else i
theorem absI_nonneg (i : Int) : 0 ≤ absI i := by unfold absI; split <;> omega
theorem plains_ints : ∀ ns : List Int, plains (ns.map D.int) = true
  | [] => by simp [plains]
  | n :: ns => by simp only [List.map_cons, plains, DL.plain, plains_ints ns, Bool.and_self]
theorem deep_ints : ∀ ns : List Int, deepDs (ns.map D.int) = 0
  | [] => by simp [deepDs]
  | n :: ns => by simp [deepDs, deepD, deep_ints ns]
theorem cmpOk_ints (ns : List Int) : cmpOk (.lst (ns.map D.int)) := ⟨by simp only [DL.plain]; exact plains_ints ns, by simp only [deepD, deep_ints]; decide⟩
theorem eqD_ints_nil (ns : List Int) : eqD (.lst (ns.map D.int)) (.lst []) = ns.isEmpty := by
  cases ns <;> simp [eqD, toPy, toPys, PyData.eqv, PyData.eqvAll]
def spBegin (K : PySem.W.Frag) : Sp := fun vs H Q _ => ∃ (a0 : Addr) (ns : List Int), vs = [.ref a0] ∧ SqL K H a0 (ns.map V.int) ∧ ns.length ≤ 63 ∧ ∀ a c H', Same H H' → H a = none → H c = none → Drw a c H' → Q (.ref a) H'
theorem begin_read {K : PySem.W.Frag} {a0 : Addr} {ns : List Int} {H : Hp} {Q : VK} (hS : SqL K H a0 (ns.map V.int)) (h63 : ns.length ≤ 63) (k : ∀ a c H', Same H H' → H a = none → H c = none → Drw a c H' → Q (.ref a) H') :
    t_begin K { nx := fun _ H' => Q .non H', rt := Q } [some (.ref a0), none, none] H := by
  refine .inl ⟨_, rfl, 63, rfl, .inl ⟨a0, _, rfl, hS, fun p hp => ?_⟩⟩
  have ecut : cutV (ns.map V.int) none (some 63) = ns.map V.int := by
    unfold cutV
    have e1 : HT.sIx (ns.map V.int).length (ns.map V.int).length (some 63) = min 63 (ns.map V.int).length := HT.sIx_nat _ _ 63
    rw [HT.sIx_none, e1, List.drop_zero, Nat.sub_zero, List.length_map]
    exact List.take_of_length_le (by rw [List.length_map]; omega)
  rw [ecut]
  have s1 : Same H (upd H p (.lst (ns.map V.int))) := same_new hp
  refine ⟨p, rfl, ⟨_, SqL.of upd_same⟩, fun Dl hD => ?_⟩
  have nDp : Dl ≠ p := fun e => by subst e; rw [upd_same] at hD; cases hD
  have hDH : H Dl = none := by
    cases q : H Dl with
    | none => rfl
    | some o => rw [s1 _ _ q] at hD; cases hD
  refine lc_list (K := K) (a := p) (xs := ns.map V.int) (fun i H' => Same H H' ∧ H' p = some (.lst (ns.map V.int)) ∧ H' Dl = some (.lst (((ns.take i).map absI).map V.int))) ⟨s1.trans (same_new hD), by rw [upd_ne (Ne.symm nDp)]; exact upd_same, upd_same⟩ (fun i H' _ ⟨_, h, _⟩ => SqL.of h) (fun i x H' hx ⟨g1, g2, g3⟩ => ?_) (fun H' ⟨g1, g2, g3⟩ => ?_)
  · obtain ⟨z, hz, rfl⟩ : ∃ z, ns[i]? = some z ∧ x = V.int z := by
      rw [List.getElem?_map] at hx
      cases e : ns[i]? with
      | none => rw [e] at hx; cases hx
      | some z => rw [e] at hx; exact ⟨z, rfl, (Option.some.inj hx).symm⟩
    refine ⟨rfl, _, rfl, z, rfl, _, g3, ?_, ?_⟩
    · rw [List.length_map, List.length_map, List.length_take, sizeLine_eq]
      omega
    · refine ⟨fun b o hb => ?_, ?_, ?_⟩
      · rw [upd_ne (ne_of_none hb hDH)]
        exact g1 b o hb
      · rw [upd_ne (Ne.symm nDp)]
        exact g2
      · rw [upd_same, take_succ_get hz, List.map_append, List.map_append]
        rfl
  rw [List.length_map, List.take_length] at g3
  -- cells == []
  refine ⟨_, rfl, Nat.zero_le _, fun e he => ?_⟩
  have s2 : Same H' (upd H' e (.lst [])) := same_new he
  have own0 : OwnOk (fun _ => False) (upd H' e (.lst [])) := fun _ z => z.elim
  refine eq_deep (K := K) (cmpOk_ints (ns.map absI)) (by exact ⟨by simp [DL.plain, plains], by simp [deepD, deepDs]⟩ : cmpOk (.lst [])) (fun _ => False) _ (.ref Dl) (.ref e) own0 (.lst (s2 _ _ g3) (fun z => z) (IsAll.ofInts _)) (.lst upd_same (fun z => z) .nil) _ fun v H3 s3 i3 => ?_
  rw [eqD_ints_nil] at i3
  cases i3
  have g1' : Same H H3 := (g1.trans s2).trans s3
  have g3' : H3 Dl = some (.lst ((ns.map absI).map V.int)) := s3 _ _ (s2 _ _ g3)
  refine ⟨_, rfl, ?_⟩
  refine ite2 (fun hc => ?_) (fun hc => ?_)
  · -- an empty script: [7]
    refine ⟨by show 1 ≤ sizeLine; rw [sizeLine_eq]; decide, fun c hc' => ?_⟩
    refine ⟨_, rfl, by show 3 ≤ sizeLine; rw [sizeLine_eq]; decide, fun a ha => ?_⟩
    have nac : a ≠ c := fun e => by subst e; rw [upd_same] at ha; cases ha
    have sc : Same H3 (upd H3 c (.lst [.int 7])) := same_new hc'
    refine k a c _ ((g1'.trans sc).trans (same_new ha)) ((g1'.trans sc).free ha) (g1'.free hc') ⟨[7], 0, 1, upd_same, ?_, nac, by simp, by simp, by simp, by omega, by omega, by omega⟩
    rw [upd_ne (Ne.symm nac)]
    exact upd_same
  · refine ⟨_, rfl, by show 3 ≤ sizeLine; rw [sizeLine_eq]; decide, fun a ha => ?_⟩
    have naD : a ≠ Dl := fun e => by subst e; rw [g3'] at ha; cases ha
    refine k a Dl _ (g1'.trans (same_new ha)) (g1'.free ha) hDH ⟨ns.map absI, 0, 1, upd_same, ?_, naD, ?_, by rw [List.length_map]; exact h63, fun n hn => ?_, by omega, by omega, by omega⟩
    · rw [upd_ne (Ne.symm naD)]
      exact g3'
    · intro e
      apply hc
      rw [e]
      rfl
    · obtain ⟨m, _, rfl⟩ := List.mem_map.mp hn
      exact absI_nonneg m
section
variable {P : Program} {w : World} {K : PySem.W.Frag} {mg : Str → Option Value} {base : Heap}
theorem ok_begin {x qual : Str} {st : Stmt} {f : Addr} {fd : FuncData} {N ps : List Str} {k : Nat} (F : Fun K x qual st f fd) (S : FnScope N ps (defScope st)) (hN : N.length = 3) (hp : ps.length = 1)
    (hbody : ∀ (cdv : Value) (A : Around) (outer : List PySem.Env) (s : Shared) (H : Hp) (E : XK), Room k (A.deeper (PyProof.Rows.envOfC qual (defScope st) s.heap.objs.size f cdv)) →
      PSs (cxOf CX0 P w K mg base N qual (defScope st) f cdv A outer s H E).nox (defBody st) (t_begin K)) : FnOk P w K mg base CX0 (k + 1) f fd ps (spBegin K) := by
  refine F.ok S (fun vs H Q E h => ?_) (fun cdv A outer s H vs Q E hr h => ?_)
  · obtain ⟨a0, ns, rfl, _⟩ := h
    rw [hp]
    rfl
  · obtain ⟨a0, ns, rfl, hS, h63, q⟩ := h
    refine ⟨_, hbody cdv A outer s H E hr, ?_⟩
    have e : L2.start N [.ref a0] = [some (.ref a0), none, none] := by
      unfold L2.start
      rw [hN]
      rfl
    rw [e]
    exact begin_read hS h63 q
end
end DL

set_option Elab.async false
set_option linter.all false
set_option maxRecDepth 100000
set_option maxHeartbeats 4000000
namespace DL
open PySem L2
/-- a value that is told -/
theorem EvP.eqD {a : Addr} {te : TE} {δ : Env} {d : D} (h : EvP te δ d) : EvD a te δ (· = d) := EvP.toD h rfl
/-! ### _law_pick(draw, some) of a list -/
def Rpick (ds : List D) (P : D → Prop) : Prop := ∃ xs : List D, ds = [.lst xs] ∧ xs ≠ [] ∧ xs.length ≤ 1000000 ∧ P = fun d => d ∈ xs
def t_pick (K : PySem.W.Frag) (sp__law_take : Sp) : TS :=
  (tRet (tOp (rIx K) (tVar 1) (tCall sp__law_take [] E0 (tCons (tVar 0) (tCons (tCB (rLenA K) (tCons (tVar 1) tNil)) tNil)))))
theorem atI_of {α : Type} {xs : List α} {i : Int} (h0 : 0 ≤ i) (h1 : i < (xs.length : Int)) : ∃ x, atI xs i = some x ∧ x ∈ xs := by
  obtain ⟨m, rfl⟩ : ∃ m : Nat, i = (m : Int) := ⟨i.toNat, by omega⟩
  have hm : m < xs.length := by omega
  exact ⟨xs[m], atI_nat (List.getElem?_eq_getElem hm), List.getElem_mem hm⟩
theorem run_pick {K : PySem.W.Frag} {N : List Str} (hN : N.length = 2) (a : Addr) (ds : List D) (P : D → Prop) (h : Rpick ds P) : RnD a (t_pick K (spD Rtake)) (startD N (.ref a :: ds)) { rt := P } := by
  obtain ⟨xs, rfl, hne, hl, rfl⟩ := h
  have e : startD N [.ref a, .lst xs] = [some (.ref a), some (.lst xs)] := by
    unfold startD
    rw [hN]
    rfl
  rw [e]
  have hpos := List.length_pos_iff.mpr hne
  refine r_ret (d_op (P2 := fun d e => d = .lst xs ∧ ∃ i, e = .int i ∧ 0 ≤ i ∧ i < (xs.length : Int)) (EvP.eqD (p_var rfl)) (fun d hd => ?_) (fun d e ⟨h1, i, h2, h3, h4⟩ => ?_))
  · subst hd
    exact (d_callP (a_cons (p_var rfl) (a_cons (p_cb (a_cons (p_var rfl) a_nil) len_lst) a_nil)) ⟨(xs.length : Int), rfl, by omega, by omega, rfl⟩).imp fun d ⟨i, h⟩ => ⟨rfl, i, h⟩
  · subst h1; subst h2
    obtain ⟨x, hx, hm⟩ := atI_of h3 h4
    exact ⟨x, at_lst hx, hm⟩
/-- the law's begin: the rest is read with the draws in slot i -/
def spLaw (K : PySem.W.Frag) : Sp := fun vs H Q _ => ∃ (a : Addr) (ns : List Int), vs = [.ref a] ∧ SqL K H a (ns.map V.int) ∧ ns.length ≤ 63 ∧ ∀ H', Q (.bl true) H'
def startL : Nat → Env
  | n => none :: some .non :: List.replicate n none
theorem law_read {K : PySem.W.Frag} {rest : TS} {n : Nat} {a0 : Addr} {ns : List Int} {H : Hp} {Q : VK} (hS : SqL K H a0 (ns.map V.int)) (h63 : ns.length ≤ 63) (hQ : ∀ H', Q (.bl true) H')
    (hrest : ∀ a, RnD a rest (none :: some (.ref a) :: List.replicate n none) { rt := fun d => d = .bl true }) :
    tSeq (tAsg (tCall (spBegin K) [] E0 (tCons (tVar 0) tNil)) (gName 1)) rest { nx := fun _ H' => Q .non H', rt := Q } (some (.ref a0) :: none :: List.replicate n none) H := by
  refine ⟨_, rfl, a0, ns, rfl, hS, h63, fun a c H1 s1 ha hc dr => ?_⟩
  show rest { nx := fun _ H' => Q .non H', rt := Q } (some (.ref a0) :: some (.ref a) :: List.replicate n none) H1
  let own : Own := fun x => x = a ∨ x = c
  have ok : ∀ H', Drw a c H' → OwnOk own H' := fun H' d x hx e => by
    obtain ⟨ns, at', seed, h1, h2, _⟩ := d
    rcases hx with rfl | rfl
    · rw [h1] at e; cases e
    · rw [h2] at e; cases e
  let J : Ifc Unit := ⟨fun _ => own, fun _ H' => Drw a c H', fun _ H' d => ok H' d, fun _ _ _ d e => d.same e⟩
  have hD : HasDraw J a c := ⟨fun _ => .inl rfl, fun _ => .inr rfl, fun _ _ d => d, fun _ _ _ _ _ d => d⟩
  have nones : ∀ m : Nat, EnvR own H1 (List.replicate m none) (List.replicate m none) := fun m => by
    induction m with
    | zero => exact .nil
    | succ m ih => rw [List.replicate_succ, List.replicate_succ]; exact .skip ih
  exact hrest a Unit J c () hD _ _ H1 (.skip (.cons (.ref a) (nones n))) dr (fun _ _ _ _ _ _ _ z => z.2.elim) (fun v d s' H' kp i is ⟨_, e⟩ => by
    have e' : d = .bl true := e
    subst e'
    cases is
    exact hQ H') (fun _ _ _ _ _ _ _ z => z.2.elim) (fun _ _ _ _ _ _ _ z => z.2.elim)
/-! ### slots forgotten -/
inductive Wk : Env → Env → Prop
  | nil : Wk [] []
  | keep {o : Option D} {δ δ' : Env} : Wk δ δ' → Wk (o :: δ) (o :: δ')
  | drop {o : Option D} {δ δ' : Env} : Wk δ δ' → Wk (o :: δ) (none :: δ')
theorem Wk.env {own : Own} {H : Hp} : ∀ {δ δ' : Env} {σ : L2.St}, Wk δ δ' → EnvR own H σ δ → EnvR own H σ δ'
  | _, _, _, .nil, h => h
  | _, _, _, .keep w, .skip t => .skip (w.env t)
  | _, _, _, .keep w, .cons i t => .cons i (w.env t)
  | _, _, _, .drop w, .skip t => .skip (w.env t)
  | _, _, _, .drop w, .cons _ t => .skip (w.env t)
theorem rn_wk {τ : Type} {J : Ifc τ} {t : TS} {δ δ' : Env} {s : τ} {Po : Post τ} (w : Wk δ δ') (h : Rn J t δ' s Po) : Rn J t δ s Po := fun En σ H E i q1 q2 q3 q4 => h En σ H (w.env E) i q1 q2 q3 q4
theorem r_wk {a : Addr} {t : TS} {δ δ' : Env} {Po : PostD} (w : Wk δ δ') (h : RnD a t δ' Po) : RnD a t δ Po := fun τ J c s hd => rn_wk w (h τ J c s hd)
theorem r_two {a : Addr} {K : PySem.W.Frag} {te : TE} {us : TS} {δ : Env} {Po : PostD} {i j : Nat} {P : D → Prop} (h : EvD a te δ P) (hP : ∀ d, P d → ∃ x y, d = .tup [x, y] ∧ RnD a us ((δ.set i (some x)).set j (some y)) Po) :
    RnD a (tSeq (tAsg te (gTup K 2 (gCons (gName i) (gCons (gName j) gNil)))) us) δ Po := fun τ J c s hd =>
  rn_seq (M := fun δ' s' => s' = s ∧ ∃ x y, δ' = (δ.set i (some x)).set j (some y) ∧ P (.tup [x, y])) (rn_two (h τ J c s hd) fun d s' ⟨e, p⟩ => by
    obtain ⟨x, y, h1, h2⟩ := hP d p
    subst h1
    exact ⟨x, y, rfl, e, x, y, rfl, p⟩) fun δ' s' ⟨e, x, y, h1, p⟩ => by
      subst e
      obtain ⟨x', y', h3, h4⟩ := hP _ p
      cases h3
      rw [h1]
      exact h4 τ J c _ hd
theorem r_setP {a : Addr} {te : TE} {us : TS} {δ : Env} {Po : PostD} {i : Nat} {d : D} (h : EvP te δ d) (k : RnD a us (δ.set i (some d)) Po) : RnD a (tSeq (tAsg te (gName i)) us) δ Po := r_setSeq (EvP.eqD h) fun d' e => by subst e; exact k
theorem r_ifP {a : Addr} {t : TT} {ts us : TS} {δ : Env} {Po : PostD} {b : Bool} (h : EtP t δ b) (k1 : b = true → RnD a ts δ Po) (k2 : b = false → RnD a us δ Po) : RnD a (tIfS t ts us) δ Po := r_if (T := fun c => c = b) (EtP.toD h rfl) (fun e => k1 e.symm) (fun e => k2 e.symm)
theorem r_ifSeqP {a : Addr} {t : TT} {ts us ws : TS} {δ : Env} {Po : PostD} {b : Bool} (h : EtP t δ b) (k1 : b = true → RnD a (tSeq ts ws) δ Po) (k2 : b = false → RnD a (tSeq us ws) δ Po) : RnD a (tSeq (tIfS t ts us) ws) δ Po := r_ifSeq (T := fun c => c = b) (EtP.toD h rfl) (fun e => k1 e.symm) (fun e => k2 e.symm)
end DL

set_option Elab.async false
set_option linter.all false
set_option maxRecDepth 100000
set_option maxHeartbeats 4000000
namespace DL
open PySem L2
/-- a def of the text, as it stands behind the top -/
structure Df (K : PySem.W.Frag) (mg : Str → Option Value) (x : Str) (st : Stmt) (f : Addr) (fd : FuncData) : Prop where
  fn : Fun K x x st f fd
  mg : mg x = some (.ref f)
section
variable {P : Program} {w : World} {K : PySem.W.Frag} {mg : Str → Option Value} {base : Heap} {x : Str} {st : Stmt} {f : Addr} {fd : FuncData} {ps ks : List Str} {k n : Nat} {sp : Sp}
theorem Df.cl (d : Df K mg x st f fd) (b : Binds K fd ps []) (F : FnOk P w K mg base CX0 k f fd ps sp) : Cl P w K mg base k x ps sp := ⟨f, fd, F, d.mg, d.fn.kp, b⟩
theorem Df.clN (d : Df K mg x st f fd) (b : KBn K fd ps n ks (fun us ws => us ++ ws) (fun vs zs => vs ++ zs)) (F : FnOk P w K mg base CX0 k f fd ps sp) : ClN P w K mg base k x ps n ks sp := ⟨f, fd, F, d.mg, d.fn.kp, b⟩
theorem fn_never {CX : CXT} (h : ∀ vs H Q E, ¬ sp vs H Q E) : FnOk P w K mg base CX k f fd ps sp := ⟨fun vs H Q E q => absurd q (h vs H Q E), fun A outer s H args us vs Q E _ _ _ _ q => absurd q (h vs H Q E)⟩
theorem fn_neverP {CX : CXT} {R : List D → D → Prop} (h : ∀ ds z, ¬ R ds z) : FnOk P w K mg base CX k f fd ps (spP R) := fn_never fun vs H Q E ⟨_, ds, z, _, _, hR, _⟩ => h ds z hR
theorem fn_neverD {CX : CXT} {R : List D → (D → Prop) → Prop} (h : ∀ ds z, ¬ R ds z) : FnOk P w K mg base CX k f fd ps (spD R) := fn_never fun vs H Q E ⟨_, _, _, ds, z, _, _, _, _, _, hR, _⟩ => h ds z hR
end
/-- the end of a law's row -/
theorem walkL {l : PySem.W.OpenLaw} {k : Nat} {q : Program} {loose : List Str} {XP : (Str → Option Value) → Heap → Prop} {YP : World → Heap → Prop} {d : DefRec} {K : Params → PySem.W.Frag} (hn : l.most = some 63) (hdf : d.params.defaults = []) (hr : Room k callerA)
    (hY : ∀ (w : World) (h : Heap), YP w h → (K w.params).In h)
    (F : ∀ (w : World) (mg : Str → Option Value) (fa : Addr) (h : Heap), (K w.params).In h → h.Ns mainGlobals mg → mg d.name = some (.ref fa) →
      ∃ fd : FuncData, (∀ (s : Shared) (u : Value), BindsTo s fd ⟨[u], []⟩ [("_law_script", u)]) ∧ ∀ base : Heap, (K w.params).In base → base.Ns mainGlobals mg → FnOk l.prog w (K w.params) mg base CX0 k fa fd ["_law_script"] (spLaw (K w.params))) :
    PySem.W.WalkO q loose XP YP l.row.toRowW d [] (fun f vs => PySem.call f vs) :=
  L2.walk_of (n := 63) (k := k) (x := "_law_script") (CX := fun _ => CX0) (sp := fun w => spLaw (K w.params)) hn (by decide) hdf hr hY F (fun _ _ a ns hl _ hS => ⟨a, ns, rfl, hS, hl, fun _ => rfl⟩) fun _ _ _ _ _ z => z
theorem ok_law {P : Program} {w : World} {K : PySem.W.Frag} {mg : Str → Option Value} {base : Heap} {x qual : Str} {st : Stmt} {f : Addr} {fd : FuncData} {N : List Str} {k n : Nat} (F : Fun K x qual st f fd) (S : FnScope N ["_law_script"] (defScope st)) (hN : N.length = n + 2)
    (hbody : ∀ (cdv : Value) (A : Around) (outer : List PySem.Env) (s : Shared) (H : Hp) (E : XK), Room k (A.deeper (PyProof.Rows.envOfC qual (defScope st) s.heap.objs.size f cdv)) →
      ∃ t rest, PSs (cxOf CX0 P w K mg base N qual (defScope st) f cdv A outer s H E).nox (defBody st) t ∧ t = tSeq (tAsg (tCall (spBegin K) [] E0 (tCons (tVar 0) tNil)) (gName 1)) rest ∧
        ∀ a, RnD a rest (none :: some (.ref a) :: List.replicate n none) { rt := fun d => d = .bl true }) : FnOk P w K mg base CX0 (k + 1) f fd ["_law_script"] (spLaw K) := by
  refine F.ok S (fun vs H Q E h => ?_) (fun cdv A outer s H vs Q E hr h => ?_)
  · obtain ⟨a, ns, rfl, _⟩ := h
    rfl
  · obtain ⟨a, ns, rfl, hS, h63, q⟩ := h
    obtain ⟨t, rest, h1, h2, h3⟩ := hbody cdv A outer s H E hr
    refine ⟨t, h1, ?_⟩
    subst h2
    have e : L2.start N [.ref a] = some (.ref a) :: none :: List.replicate n none := by
      unfold L2.start
      rw [hN]
      rfl
    rw [e]
    exact law_read hS h63 q h3
end DL

set_option Elab.async false
set_option linter.all false
set_option maxRecDepth 100000
set_option maxHeartbeats 4000000
namespace K01
open PySem L2 DL
def top (i : Nat) : Stmt := PySem.Challenge.pw_likematch_k01_terms_and_patterns.main.body.getD i (.Pass ⟨0, 0, 0, 0⟩)
structure Gb (mg : Str → Option Value) : Prop where
  n_abs : mg "abs" = none
  n_all : mg "all" = none
  n_bool : mg "bool" = none
  n_int : mg "int" = none
  n_isinstance : mg "isinstance" = none
  n_len : mg "len" = none
  n_list : mg "list" = none
  n_max : mg "max" = none
  n_range : mg "range" = none
  n_str : mg "str" = none
  n_sum : mg "sum" = none
  n_tuple : mg "tuple" = none
  c_LETTERS : ∃ t, mg "LETTERS" = some (.str "abcdefghijklmnopqrstuvwxyz" t)
  c_LONGEST : ∃ t, mg "LONGEST" = some (.int 8 t)
  c_LONGEST_HOLE : ∃ t, mg "LONGEST_HOLE" = some (.int 4 t)
  c_MOST_DEEP : ∃ t, mg "MOST_DEEP" = some (.int 5 t)
  c_MOST_PARTS : ∃ t, mg "MOST_PARTS" = some (.int 3 t)
  c_MOST_SIZE : ∃ t, mg "MOST_SIZE" = some (.int 30 t)

abbrev s_are_letters : Stmt := top 7
abbrev N_are_letters : List Str := ["text", "most", "sign"]
abbrev p_are_letters : List Str := ["text", "most"]
theorem sc_are_letters : FnScope N_are_letters p_are_letters (defScope s_are_letters) := ⟨rfl, rfl, rfl, by decide +kernel, rfl, by decide +kernel, by decide +kernel⟩
def t_are_letters (K : PySem.W.Frag) : TS :=
  (tRet (tAndV (tChain (rI0 fun i j => .bl (decide (i ≤ j))) (rI0 fun i j => .bl (decide (i ≤ j))) (tC (.int 1)) (tCB (rLenA K) (tCons (tVar 0) tNil)) (tVar 1)) (tCB (rAll K) (tCons (tLc (iAny K (tVar 0)) (gName 2) tYes (tOp (rInA K) (tVar 2) (tC (.str "abcdefghijklmnopqrstuvwxyz"))) [2]) tNil))))
theorem d_are_letters {P : Program} {w : World} {K : PySem.W.Frag} {mg : Str → Option Value} {base : Heap} {f : Addr} {cdv : Value} {A : Around} {outer : List PySem.Env} {s : Shared} {H : Hp} {E : XK} {k : Nat} (G : Gb mg) (hr : Room k (A.deeper (PyProof.Rows.envOfC "are_letters" (defScope s_are_letters) s.heap.objs.size f cdv))) :
    PSs (cxOf CX0 P w K mg base N_are_letters "are_letters" (defScope s_are_letters) f cdv A outer s H E).nox (defBody s_are_letters) (t_are_letters K) :=
  (pss_one (ps_ret (pe_and (pe_chain op_le op_le pe_int (pe_callB call_lenA (by rfl) G.n_len PySem.boot_len (L2.pa_cons (pv 0) L2.pa_nil)) (pv 1)) (pe_one (pe_callB (cr_all rfl) (by rfl) G.n_all (by decide +kernel) (L2.pa_cons (pe_lc (own := [("sign", 2)]) (g := gName 2) (by rfl) sc_are_letters.nd (pi_any (pv 0)) (blkOk_by (own := [("sign", 2)]) (N := N_are_letters) (sc := defScope s_are_letters) (by decide +kernel)) (fun _ _ _ _ _ => pg_name (i := 2) sc_are_letters.nd rfl (Or.inl rfl)) (fun _ _ _ _ _ => pts_nil) (fun _ _ _ _ _ => (pe_cmpR op_inA (pv 2) (pe_gstr (by rfl) G.c_LETTERS) (by with_unfolding_all rfl)))) L2.pa_nil))))))

abbrev s_is_name : Stmt := top 8
abbrev N_is_name : List Str := ["thing"]
abbrev p_is_name : List Str := ["thing"]
theorem sc_is_name : FnScope N_is_name p_is_name (defScope s_is_name) := ⟨rfl, rfl, rfl, by decide +kernel, rfl, by decide +kernel, by decide +kernel⟩
def t_is_name (K : PySem.W.Frag) (sp_are_letters : Sp) : TS :=
  (tRet (tAndV (tCB (rIsi K) (tCons (tVar 0) (tCons (tC (.ty "str")) tNil))) (tCall sp_are_letters [] E0 (tCons (tVar 0) (tCons (tC (.int 8)) tNil)))))
theorem d_is_name {P : Program} {w : World} {K : PySem.W.Frag} {mg : Str → Option Value} {base : Heap} {f : Addr} {cdv : Value} {A : Around} {outer : List PySem.Env} {s : Shared} {H : Hp} {E : XK} {k : Nat} {sp_are_letters : Sp} (G : Gb mg) (C_are_letters : Cl P w K mg base k "are_letters" ["text", "most"] sp_are_letters) (hr : Room k (A.deeper (PyProof.Rows.envOfC "is_name" (defScope s_is_name) s.heap.objs.size f cdv))) :
    PSs (cxOf CX0 P w K mg base N_is_name "is_name" (defScope s_is_name) f cdv A outer s H E).nox (defBody s_is_name) (t_is_name K sp_are_letters) :=
  (pss_one (ps_ret (pe_and (pe_callB call_isi (by rfl) G.n_isinstance (by decide +kernel) (L2.pa_cons (pv 0) (L2.pa_cons (pe_gty (by rfl) G.n_str (by decide +kernel)) L2.pa_nil))) (pe_one (pe_cl C_are_letters hr (by rfl) (L2.pa_cons (pv 0) (L2.pa_cons (pe_gint (by rfl) G.c_LONGEST) L2.pa_nil)))))))

abbrev s_is_hole : Stmt := top 9
abbrev N_is_hole : List Str := ["thing"]
abbrev p_is_hole : List Str := ["thing"]
theorem sc_is_hole : FnScope N_is_hole p_is_hole (defScope s_is_hole) := ⟨rfl, rfl, rfl, by decide +kernel, rfl, by decide +kernel, by decide +kernel⟩
def t_is_hole (K : PySem.W.Frag) (sp_are_letters : Sp) : TS :=
  (tRet (tAndV (tCB (rIsi K) (tCons (tVar 0) (tCons (tC (.ty "str")) tNil))) (tAndV (tOp (rEqA K) (tSl (rSlX K) (tVar 0) tNoPart (tPart (tC (.int 1)))) (tC (.str "?"))) (tCall sp_are_letters [] E0 (tCons (tSl (rSlX K) (tVar 0) (tPart (tC (.int 1))) tNoPart) (tCons (tC (.int 4)) tNil))))))
theorem d_is_hole {P : Program} {w : World} {K : PySem.W.Frag} {mg : Str → Option Value} {base : Heap} {f : Addr} {cdv : Value} {A : Around} {outer : List PySem.Env} {s : Shared} {H : Hp} {E : XK} {k : Nat} {sp_are_letters : Sp} (G : Gb mg) (C_are_letters : Cl P w K mg base k "are_letters" ["text", "most"] sp_are_letters) (hr : Room k (A.deeper (PyProof.Rows.envOfC "is_hole" (defScope s_is_hole) s.heap.objs.size f cdv))) :
    PSs (cxOf CX0 P w K mg base N_is_hole "is_hole" (defScope s_is_hole) f cdv A outer s H E).nox (defBody s_is_hole) (t_is_hole K sp_are_letters) :=
  (pss_one (ps_ret (pe_and (pe_callB call_isi (by rfl) G.n_isinstance (by decide +kernel) (L2.pa_cons (pv 0) (L2.pa_cons (pe_gty (by rfl) G.n_str (by decide +kernel)) L2.pa_nil))) (pe_and (pe_cmpR (op_eqA hr.units) (pe_slice sl_any (pv 0) L2.po_none (L2.po_some pe_int)) pe_str (nomark _)) (pe_one (pe_cl C_are_letters hr (by rfl) (L2.pa_cons (pe_slice sl_any (pv 0) (L2.po_some pe_int) L2.po_none) (L2.pa_cons (pe_gint (by rfl) G.c_LONGEST_HOLE) L2.pa_nil))))))))

abbrev s_measured : Stmt := top 10
abbrev N_measured : List Str := ["thing", "left", "holed", "sizes", "head", "parts", "part"]
abbrev p_measured : List Str := ["thing", "left", "holed"]
theorem sc_measured : FnScope N_measured p_measured (defScope s_measured) := ⟨rfl, rfl, rfl, by decide +kernel, rfl, by decide +kernel, by decide +kernel⟩
def t_measured (K : PySem.W.Frag) (sp_is_hole : Sp) (sp_is_name : Sp) (sp_measured : Sp) : TS :=
  (tSeq (tIfS (tTest (tOp (rEqA K) (tVar 1) (tC (.int 0)))) (tRet (tC (.int 0))) tNext) (tSeq (tIfS (tB (tCB (rIsi K) (tCons (tVar 0) (tCons (tC (.ty "str")) tNil)))) (tRet (tCB rInt1 (tCons (tAndV (tVar 2) (tCall sp_is_hole [] E0 (tCons (tVar 0) tNil))) tNil))) tNext) (tSeq (tIfS (tOr (tNot (tB (tCB (rIsi K) (tCons (tVar 0) (tCons (tC (.ty "tuple")) tNil))))) (tOr (tNot (tTest (tChain (rI0 fun i j => .bl (decide (i ≤ j))) (rI0 fun i j => .bl (decide (i ≤ j))) (tC (.int 1)) (tCB (rLenA K) (tCons (tVar 0) tNil)) (tOp (rAddA K) (tC (.int 3)) (tC (.int 1)))))) (tNot (tB (tCall sp_is_name [] E0 (tCons (tOp (rIx K) (tVar 0) (tC (.int 0))) tNil)))))) (tRet (tC (.int 0))) tNext) (tSeq (tAsg (tVar 0) (gStarT K 2 1 (gCons (gName 4) (gCons (gName 5) gNil)))) (tSeq (tAsg (tLc (iAny K (tVar 5)) (gName 6) tYes (tCallN 2 1 sp_measured (fun vs zs => vs ++ zs) E0 (tCons (tVar 6) (tCons (tOp (rI0 fun i j => .int (i - j)) (tVar 1) (tC (.int 1))) tNil)) (tCons (tVar 2) tNil)) [6]) (gName 3)) (tRet (tIf (tTest (tOp (rInA K) (tC (.int 0)) (tVar 3))) (tC (.int 0)) (tOp (rAddA K) (tC (.int 1)) (tCB (rSum K) (tCons (tVar 3) tNil))))))))))
theorem d_measured {P : Program} {w : World} {K : PySem.W.Frag} {mg : Str → Option Value} {base : Heap} {f : Addr} {cdv : Value} {A : Around} {outer : List PySem.Env} {s : Shared} {H : Hp} {E : XK} {k : Nat} {sp_is_hole : Sp} {sp_is_name : Sp} {sp_measured : Sp} (G : Gb mg) (C_is_hole : Cl P w K mg base k "is_hole" ["thing"] sp_is_hole) (C_is_name : Cl P w K mg base k "is_name" ["thing"] sp_is_name) (CN_measured : ClN P w K mg base k "measured" ["thing", "left", "holed"] 2 ["holed"] sp_measured) (hr : Room k (A.deeper (PyProof.Rows.envOfC "measured" (defScope s_measured) s.heap.objs.size f cdv))) :
    PSs (cxOf CX0 P w K mg base N_measured "measured" (defScope s_measured) f cdv A outer s H E).nox (defBody s_measured) (t_measured K sp_is_hole sp_is_name sp_measured) :=
  (pss_cons (ps_if (pt_cmpR (op_eqA hr.units) (pv 1) pe_int (nomark _)) (pss_one (ps_ret pe_int)) pss_nil)
    (pss_cons (ps_if (pt_val (pe_callB call_isi (by rfl) G.n_isinstance (by decide +kernel) (L2.pa_cons (pv 0) (L2.pa_cons (pe_gty (by rfl) G.n_str (by decide +kernel)) L2.pa_nil)))) (pss_one (ps_ret (pe_callTy call_intA (by rfl) G.n_int (by decide +kernel) (L2.pa_cons (pe_and (pv 2) (pe_one (pe_cl C_is_hole hr (by rfl) (L2.pa_cons (pv 0) L2.pa_nil)))) L2.pa_nil)))) pss_nil)
    (pss_cons (ps_if ((pw_or (L2.pt_not (pt_val (pe_callB call_isi (by rfl) G.n_isinstance (by decide +kernel) (L2.pa_cons (pv 0) (L2.pa_cons (pe_gty (by rfl) G.n_tuple (by decide +kernel)) L2.pa_nil))))) (pw_or (L2.pt_not (pt_chain op_le op_le pe_int (pe_callB call_lenA (by rfl) G.n_len PySem.boot_len (L2.pa_cons (pv 0) L2.pa_nil)) (pe_op op_addA (pe_gint (by rfl) G.c_MOST_PARTS) pe_int))) (pw_or1 (L2.pt_not (pt_val (pe_cl C_is_name hr (by rfl) (L2.pa_cons (pe_ix ix_seq (pv 0) pe_int (fun _ _ => rfl)) L2.pa_nil)))))))).pt (pss_one (ps_ret pe_int)) pss_nil)
    (pss_cons (ps_asg (pv 0) (pg_starT (i := 1) (n := 2) (by rfl) (pgs_cons (pg_name (i := 4) sc_measured.nd rfl (Or.inl rfl)) (pgs_starN (pg_name (i := 5) sc_measured.nd rfl (Or.inl rfl)) pgs_nil)) (by decide)))
    (pss_cons (ps_setLc (i := 3) (own := [("part", 6)]) (g := gName 6) (by rfl) sc_measured.nd rfl rfl (sw_true rfl rfl rfl (by decide +kernel)) (pi_any (pv 5)) (blkOk_by (own := [("part", 6)]) (N := N_measured) (sc := defScope s_measured) (by decide +kernel)) (fun _ _ _ _ _ => pg_name (i := 6) sc_measured.nd rfl (Or.inl rfl)) (fun _ _ _ _ _ => pts_nil) (fun _ _ _ _ _ => (pe_clN (ks := ["holed"]) CN_measured hr (by rfl) (L2.pa_cons (pv 6) (L2.pa_cons (pe_op op_sub (pv 1) pe_int) L2.pa_nil)) (pk_cons (pv 2) pk_nil))))
    (pss_one (ps_ret (pe_ifExp (pt_cmpR op_inA pe_int (pv 3) (by with_unfolding_all rfl)) pe_int (pe_op op_addA pe_int (pe_callB (cr_sum rfl) (by rfl) G.n_sum (by decide +kernel) (L2.pa_cons (pv 3) L2.pa_nil)))))))))))

abbrev s_is_term : Stmt := top 11
abbrev N_is_term : List Str := ["thing"]
abbrev p_is_term : List Str := ["thing"]
theorem sc_is_term : FnScope N_is_term p_is_term (defScope s_is_term) := ⟨rfl, rfl, rfl, by decide +kernel, rfl, by decide +kernel, by decide +kernel⟩
def t_is_term (K : PySem.W.Frag) (sp_measured : Sp) : TS :=
  (tRet (tChain (rI0 fun i j => .bl (decide (i ≤ j))) (rI0 fun i j => .bl (decide (i ≤ j))) (tC (.int 1)) (tCallN 2 1 sp_measured (fun vs zs => vs ++ zs) E0 (tCons (tVar 0) (tCons (tC (.int 5)) tNil)) (tCons (tC (.bl false)) tNil)) (tC (.int 30))))
theorem d_is_term {P : Program} {w : World} {K : PySem.W.Frag} {mg : Str → Option Value} {base : Heap} {f : Addr} {cdv : Value} {A : Around} {outer : List PySem.Env} {s : Shared} {H : Hp} {E : XK} {k : Nat} {sp_measured : Sp} (G : Gb mg) (CN_measured : ClN P w K mg base k "measured" ["thing", "left", "holed"] 2 ["holed"] sp_measured) (hr : Room k (A.deeper (PyProof.Rows.envOfC "is_term" (defScope s_is_term) s.heap.objs.size f cdv))) :
    PSs (cxOf CX0 P w K mg base N_is_term "is_term" (defScope s_is_term) f cdv A outer s H E).nox (defBody s_is_term) (t_is_term K sp_measured) :=
  (pss_one (ps_ret (pe_chain op_le op_le pe_int (pe_clN (ks := ["holed"]) CN_measured hr (by rfl) (L2.pa_cons (pv 0) (L2.pa_cons (pe_gint (by rfl) G.c_MOST_DEEP) L2.pa_nil)) (pk_cons pe_bl pk_nil)) (pe_gint (by rfl) G.c_MOST_SIZE))))

abbrev s_is_pattern : Stmt := top 12
abbrev N_is_pattern : List Str := ["thing"]
abbrev p_is_pattern : List Str := ["thing"]
theorem sc_is_pattern : FnScope N_is_pattern p_is_pattern (defScope s_is_pattern) := ⟨rfl, rfl, rfl, by decide +kernel, rfl, by decide +kernel, by decide +kernel⟩
def t_is_pattern (K : PySem.W.Frag) (sp_measured : Sp) : TS :=
  (tRet (tChain (rI0 fun i j => .bl (decide (i ≤ j))) (rI0 fun i j => .bl (decide (i ≤ j))) (tC (.int 1)) (tCallN 2 1 sp_measured (fun vs zs => vs ++ zs) E0 (tCons (tVar 0) (tCons (tC (.int 5)) tNil)) (tCons (tC (.bl true)) tNil)) (tC (.int 30))))
theorem d_is_pattern {P : Program} {w : World} {K : PySem.W.Frag} {mg : Str → Option Value} {base : Heap} {f : Addr} {cdv : Value} {A : Around} {outer : List PySem.Env} {s : Shared} {H : Hp} {E : XK} {k : Nat} {sp_measured : Sp} (G : Gb mg) (CN_measured : ClN P w K mg base k "measured" ["thing", "left", "holed"] 2 ["holed"] sp_measured) (hr : Room k (A.deeper (PyProof.Rows.envOfC "is_pattern" (defScope s_is_pattern) s.heap.objs.size f cdv))) :
    PSs (cxOf CX0 P w K mg base N_is_pattern "is_pattern" (defScope s_is_pattern) f cdv A outer s H E).nox (defBody s_is_pattern) (t_is_pattern K sp_measured) :=
  (pss_one (ps_ret (pe_chain op_le op_le pe_int (pe_clN (ks := ["holed"]) CN_measured hr (by rfl) (L2.pa_cons (pv 0) (L2.pa_cons (pe_gint (by rfl) G.c_MOST_DEEP) L2.pa_nil)) (pk_cons pe_bl pk_nil)) (pe_gint (by rfl) G.c_MOST_SIZE))))

abbrev s__law_begin : Stmt := top 14
abbrev N__law_begin : List Str := ["_law_script", "_law_cells", "_law_cell"]
abbrev p__law_begin : List Str := ["_law_script"]
theorem sc__law_begin : FnScope N__law_begin p__law_begin (defScope s__law_begin) := ⟨rfl, rfl, rfl, by decide +kernel, rfl, by decide +kernel, by decide +kernel⟩
def t__law_begin (K : PySem.W.Frag) : TS :=
  (tSeq (tAsg (tLc (iAny K (tSl (rSlX K) (tVar 0) tNoPart (tPart (tC (.int 63))))) (gName 2) tYes (tCB rAbs (tCons (tVar 2) tNil)) [2]) (gName 1)) (tSeq (tIfS (tTest (tOp (rEqA K) (tVar 1) (tLst tNil))) (tAsg (tLst (tCons (tC (.int 7)) tNil)) (gName 1)) tNext) (tRet (tLst (tCons (tVar 1) (tCons (tC (.int 0)) (tCons (tC (.int 1)) tNil)))))))
theorem d__law_begin {P : Program} {w : World} {K : PySem.W.Frag} {mg : Str → Option Value} {base : Heap} {f : Addr} {cdv : Value} {A : Around} {outer : List PySem.Env} {s : Shared} {H : Hp} {E : XK} {k : Nat} (G : Gb mg) (hr : Room k (A.deeper (PyProof.Rows.envOfC "_law_begin" (defScope s__law_begin) s.heap.objs.size f cdv))) :
    PSs (cxOf CX0 P w K mg base N__law_begin "_law_begin" (defScope s__law_begin) f cdv A outer s H E).nox (defBody s__law_begin) (t__law_begin K) :=
  (pss_cons (ps_setLc (i := 1) (own := [("_law_cell", 2)]) (g := gName 2) (by rfl) sc__law_begin.nd rfl rfl (sw_true rfl rfl rfl (by decide +kernel)) (pi_any (pe_slice sl_any (pv 0) L2.po_none (L2.po_some pe_int))) (blkOk_by (own := [("_law_cell", 2)]) (N := N__law_begin) (sc := defScope s__law_begin) (by decide +kernel)) (fun _ _ _ _ _ => pg_name (i := 2) sc__law_begin.nd rfl (Or.inl rfl)) (fun _ _ _ _ _ => pts_nil) (fun _ _ _ _ _ => (pe_callB call_absA (by rfl) G.n_abs (by decide +kernel) (L2.pa_cons (pv 2) L2.pa_nil))))
    (pss_cons (ps_if (pt_cmpR (op_eqA hr.units) (pv 1) (pe_lst L2.pa_nil) (nomark _)) (pss_one (ps_set (i := 1) sc__law_begin.nd rfl (Or.inl rfl) (pe_lst (L2.pa_cons pe_int L2.pa_nil)))) pss_nil)
    (pss_one (ps_ret (pe_lst (L2.pa_cons (pv 1) (L2.pa_cons pe_int (L2.pa_cons pe_int L2.pa_nil))))))))

abbrev s__law_take : Stmt := top 15
abbrev N__law_take : List Str := ["_law_draw", "_law_size_here", "_law_cells", "_law_at", "_law_cell"]
abbrev p__law_take : List Str := ["_law_draw", "_law_size_here"]
theorem sc__law_take : FnScope N__law_take p__law_take (defScope s__law_take) := ⟨rfl, rfl, rfl, by decide +kernel, rfl, by decide +kernel, by decide +kernel⟩
def t__law_take (K : PySem.W.Frag) : TS :=
  (tSeq (tAsg (tOp (rIx K) (tVar 0) (tC (.int 0))) (gName 2)) (tSeq (tAsg (tOp (rI (fun _ j => 0 < j) fun i j => .int (i % j)) (tOp (rIx K) (tVar 0) (tC (.int 1))) (tCB (rLenA K) (tCons (tVar 2) tNil))) (gName 3)) (tSeq (tAsg (tOp (rIx K) (tVar 2) (tVar 3)) (gName 4)) (tSeq (tIfS (tTest (tOp (rI0 fun i j => .bl (decide (j ≤ i))) (tVar 4) (tOp (rI CPow fun i j => .int (i ^ j.toNat)) (tC (.int 10)) (tC (.int 18))))) (tSeq (tAsg (tOp (rI CDiv fun i j => .int (i / j)) (tVar 4) (tVar 1)) (gSub (tVar 2) (tVar 3) rSetL)) (tRet (tOp (rI (fun _ j => 0 < j) fun i j => .int (i % j)) (tVar 4) (tVar 1)))) tNext) (tSeq (tAsg (tOp (rAddA K) (tOp (rIx K) (tVar 0) (tC (.int 1))) (tC (.int 1))) (gSub (tVar 0) (tC (.int 1)) rSetL)) (tSeq (tAsg (tOp (rI (fun _ j => 0 < j) fun i j => .int (i % j)) (tOp (rAddA K) (tOp (rAddA K) (tOp (rMulA K) (tOp (rIx K) (tVar 0) (tC (.int 2))) (tC (.int 48271))) (tVar 4)) (tC (.int 12345))) (tC (.int 2147483647))) (gSub (tVar 0) (tC (.int 2)) rSetL)) (tRet (tOp (rI (fun _ j => 0 < j) fun i j => .int (i % j)) (tOp (rI CDiv fun i j => .int (i / j)) (tOp (rI (fun _ j => 0 < j) fun i j => .int (i % j)) (tOp (rMulA K) (tOp (rIx K) (tVar 0) (tC (.int 2))) (tOp (rIx K) (tVar 0) (tC (.int 2)))) (tC (.int 2147483629))) (tC (.int 16))) (tVar 1)))))))))
theorem d__law_take {P : Program} {w : World} {K : PySem.W.Frag} {mg : Str → Option Value} {base : Heap} {f : Addr} {cdv : Value} {A : Around} {outer : List PySem.Env} {s : Shared} {H : Hp} {E : XK} {k : Nat} (G : Gb mg) (hr : Room k (A.deeper (PyProof.Rows.envOfC "_law_take" (defScope s__law_take) s.heap.objs.size f cdv))) :
    PSs (cxOf CX0 P w K mg base N__law_take "_law_take" (defScope s__law_take) f cdv A outer s H E).nox (defBody s__law_take) (t__law_take K) :=
  (pss_cons (ps_set (i := 2) sc__law_take.nd rfl (Or.inl rfl) (pe_ix ix_seq (pv 0) pe_int (fun _ _ => rfl)))
    (pss_cons (ps_set (i := 3) sc__law_take.nd rfl (Or.inl rfl) (pe_op op_mod (pe_ix ix_seq (pv 0) pe_int (fun _ _ => rfl)) (pe_callB call_lenA (by rfl) G.n_len PySem.boot_len (L2.pa_cons (pv 2) L2.pa_nil))))
    (pss_cons (ps_set (i := 4) sc__law_take.nd rfl (Or.inl rfl) (pe_ix ix_seq (pv 2) (pv 3) (fun _ _ => rfl)))
    (pss_cons (ps_if (pt_cmpR op_ge (pv 4) (pe_op op_pow pe_int pe_int) (nomark _)) (pss_cons (ps_asg (pe_op op_fdiv (pv 4) (pv 1)) (pg_sub (pv 2) (pv 3) set_list))
    (pss_one (ps_ret (pe_op op_mod (pv 4) (pv 1))))) pss_nil)
    (pss_cons (ps_asg (pe_op op_addA (pe_ix ix_seq (pv 0) pe_int (fun _ _ => rfl)) pe_int) (pg_sub (pv 0) pe_int set_list))
    (pss_cons (ps_asg (pe_op op_mod (pe_op op_addA (pe_op op_addA (pe_op op_mulA (pe_ix ix_seq (pv 0) pe_int (fun _ _ => rfl)) pe_int) (pv 4)) pe_int) pe_int) (pg_sub (pv 0) pe_int set_list))
    (pss_one (ps_ret (pe_op op_mod (pe_op op_fdiv (pe_op op_mod (pe_op op_mulA (pe_ix ix_seq (pv 0) pe_int (fun _ _ => rfl)) (pe_ix ix_seq (pv 0) pe_int (fun _ _ => rfl))) pe_int) pe_int) (pv 1))))))))))

abbrev s__law_pick : Stmt := top 16
abbrev N__law_pick : List Str := ["_law_draw", "_law_some"]
abbrev p__law_pick : List Str := ["_law_draw", "_law_some"]
theorem sc__law_pick : FnScope N__law_pick p__law_pick (defScope s__law_pick) := ⟨rfl, rfl, rfl, by decide +kernel, rfl, by decide +kernel, by decide +kernel⟩
def t__law_pick (K : PySem.W.Frag) (sp__law_take : Sp) : TS :=
  (tRet (tOp (rIx K) (tVar 1) (tCall sp__law_take [] E0 (tCons (tVar 0) (tCons (tCB (rLenA K) (tCons (tVar 1) tNil)) tNil)))))
theorem d__law_pick {P : Program} {w : World} {K : PySem.W.Frag} {mg : Str → Option Value} {base : Heap} {f : Addr} {cdv : Value} {A : Around} {outer : List PySem.Env} {s : Shared} {H : Hp} {E : XK} {k : Nat} {sp__law_take : Sp} (G : Gb mg) (C__law_take : Cl P w K mg base k "_law_take" ["_law_draw", "_law_size_here"] sp__law_take) (hr : Room k (A.deeper (PyProof.Rows.envOfC "_law_pick" (defScope s__law_pick) s.heap.objs.size f cdv))) :
    PSs (cxOf CX0 P w K mg base N__law_pick "_law_pick" (defScope s__law_pick) f cdv A outer s H E).nox (defBody s__law_pick) (t__law_pick K sp__law_take) :=
  (pss_one (ps_ret (pe_ix ix_seq (pv 1) (pe_cl C__law_take hr (by rfl) (L2.pa_cons (pv 0) (L2.pa_cons (pe_callB call_lenA (by rfl) G.n_len PySem.boot_len (L2.pa_cons (pv 1) L2.pa_nil)) L2.pa_nil))) (fun _ _ => rfl))))

abbrev s__law_word : Stmt := top 17
abbrev N__law_word : List Str := ["_law_draw", "_law_way", "_law_word_here", "_law_k"]
abbrev p__law_word : List Str := ["_law_draw"]
theorem sc__law_word : FnScope N__law_word p__law_word (defScope s__law_word) := ⟨rfl, rfl, rfl, by decide +kernel, rfl, by decide +kernel, by decide +kernel⟩
def t__law_word (K : PySem.W.Frag) (sp__law_take : Sp) (sp__law_pick : Sp) : TS :=
  (tSeq (tAsg (tCall sp__law_take [] E0 (tCons (tVar 0) (tCons (tC (.int 6)) tNil))) (gName 1)) (tSeq (tIfS (tTest (tOp (rI0 fun i j => .bl (decide (i < j))) (tVar 1) (tC (.int 3)))) (tRet (tCall sp__law_pick [] E0 (tCons (tVar 0) (tCons (tLst (tCons (tC (.str "a")) (tCons (tC (.str "b")) (tCons (tC (.str "f")) (tCons (tC (.str "g")) tNil))))) tNil)))) tNext) (tSeq (tIfS (tTest (tOp (rEqA K) (tVar 1) (tC (.int 3)))) (tRet (tCall sp__law_pick [] E0 (tCons (tVar 0) (tCons (tLst (tCons (tC (.str "told")) (tCons (tC (.str "back")) (tCons (tC (.str "then")) (tCons (tC (.str "parts")) (tCons (tC (.str "same")) (tCons (tC (.str "like")) (tCons (tC (.str "put")) (tCons (tC (.str "rule")) (tCons (tC (.str "hole")) (tCons (tC (.str "z")) tNil))))))))))) tNil)))) tNext) (tSeq (tAsg (tC (.str "")) (gName 2)) (tSeq (tFor (iRng1 (tCons (tOp (rAddA K) (tC (.int 1)) (tCall sp__law_take [] E0 (tCons (tVar 0) (tCons (tC (.int 8)) tNil)))) tNil)) (gName 3) (tAsg (tOp (rAddA K) (tVar 2) (tOp (rIx K) (tC (.str "abcdefghijklmnopqrstuvwxyz")) (tCall sp__law_take [] E0 (tCons (tVar 0) (tCons (tC (.int 26)) tNil))))) (gName 2))) (tRet (tVar 2)))))))
theorem d__law_word {P : Program} {w : World} {K : PySem.W.Frag} {mg : Str → Option Value} {base : Heap} {f : Addr} {cdv : Value} {A : Around} {outer : List PySem.Env} {s : Shared} {H : Hp} {E : XK} {k : Nat} {sp__law_take : Sp} {sp__law_pick : Sp} (G : Gb mg) (C__law_take : Cl P w K mg base k "_law_take" ["_law_draw", "_law_size_here"] sp__law_take) (C__law_pick : Cl P w K mg base k "_law_pick" ["_law_draw", "_law_some"] sp__law_pick) (hr : Room k (A.deeper (PyProof.Rows.envOfC "_law_word" (defScope s__law_word) s.heap.objs.size f cdv))) :
    PSs (cxOf CX0 P w K mg base N__law_word "_law_word" (defScope s__law_word) f cdv A outer s H E).nox (defBody s__law_word) (t__law_word K sp__law_take sp__law_pick) :=
  (pss_cons (ps_set (i := 1) sc__law_word.nd rfl (Or.inl rfl) (pe_cl C__law_take hr (by rfl) (L2.pa_cons (pv 0) (L2.pa_cons pe_int L2.pa_nil))))
    (pss_cons (ps_if (pt_cmpR op_lt (pv 1) pe_int (nomark _)) (pss_one (ps_ret (pe_cl C__law_pick hr (by rfl) (L2.pa_cons (pv 0) (L2.pa_cons (pe_lst (L2.pa_cons pe_str (L2.pa_cons pe_str (L2.pa_cons pe_str (L2.pa_cons pe_str L2.pa_nil))))) L2.pa_nil))))) pss_nil)
    (pss_cons (ps_if (pt_cmpR (op_eqA hr.units) (pv 1) pe_int (nomark _)) (pss_one (ps_ret (pe_cl C__law_pick hr (by rfl) (L2.pa_cons (pv 0) (L2.pa_cons (pe_lst (L2.pa_cons pe_str (L2.pa_cons pe_str (L2.pa_cons pe_str (L2.pa_cons pe_str (L2.pa_cons pe_str (L2.pa_cons pe_str (L2.pa_cons pe_str (L2.pa_cons pe_str (L2.pa_cons pe_str (L2.pa_cons pe_str L2.pa_nil))))))))))) L2.pa_nil))))) pss_nil)
    (pss_cons (ps_set (i := 2) sc__law_word.nd rfl (Or.inl rfl) pe_str)
    (pss_cons (ps_for PassesOwn.never rfl (pi_range1 (by rfl) G.n_range (L2.pa_cons (pe_op op_addA pe_int (pe_cl C__law_take hr (by rfl) (L2.pa_cons (pv 0) (L2.pa_cons pe_int L2.pa_nil)))) L2.pa_nil)) (pg_name (i := 3) sc__law_word.nd rfl (Or.inl rfl)) (pss_one (ps_set (i := 2) sc__law_word.nd rfl (Or.inl rfl) (pe_op op_addA (pv 2) (pe_ix ix_seq pe_str (pe_cl C__law_take hr (by rfl) (L2.pa_cons (pv 0) (L2.pa_cons pe_int L2.pa_nil))) (fun _ _ => rfl))))))
    (pss_one (ps_ret (pv 2))))))))

abbrev s__law_hole : Stmt := top 18
abbrev N__law_hole : List Str := ["_law_draw", "_law_word_here", "_law_k"]
abbrev p__law_hole : List Str := ["_law_draw"]
theorem sc__law_hole : FnScope N__law_hole p__law_hole (defScope s__law_hole) := ⟨rfl, rfl, rfl, by decide +kernel, rfl, by decide +kernel, by decide +kernel⟩
def t__law_hole (K : PySem.W.Frag) (sp__law_take : Sp) (sp__law_pick : Sp) : TS :=
  (tSeq (tIfS (tTest (tOp (rI0 fun i j => .bl (decide (j < i))) (tCall sp__law_take [] E0 (tCons (tVar 0) (tCons (tC (.int 4)) tNil))) (tC (.int 0)))) (tRet (tCall sp__law_pick [] E0 (tCons (tVar 0) (tCons (tLst (tCons (tC (.str "?x")) (tCons (tC (.str "?y")) (tCons (tC (.str "?z")) tNil)))) tNil)))) tNext) (tSeq (tAsg (tC (.str "?")) (gName 1)) (tSeq (tFor (iRng1 (tCons (tOp (rAddA K) (tC (.int 1)) (tCall sp__law_take [] E0 (tCons (tVar 0) (tCons (tC (.int 4)) tNil)))) tNil)) (gName 2) (tAsg (tOp (rAddA K) (tVar 1) (tOp (rIx K) (tC (.str "abcdefghijklmnopqrstuvwxyz")) (tCall sp__law_take [] E0 (tCons (tVar 0) (tCons (tC (.int 26)) tNil))))) (gName 1))) (tRet (tVar 1)))))
theorem d__law_hole {P : Program} {w : World} {K : PySem.W.Frag} {mg : Str → Option Value} {base : Heap} {f : Addr} {cdv : Value} {A : Around} {outer : List PySem.Env} {s : Shared} {H : Hp} {E : XK} {k : Nat} {sp__law_take : Sp} {sp__law_pick : Sp} (G : Gb mg) (C__law_take : Cl P w K mg base k "_law_take" ["_law_draw", "_law_size_here"] sp__law_take) (C__law_pick : Cl P w K mg base k "_law_pick" ["_law_draw", "_law_some"] sp__law_pick) (hr : Room k (A.deeper (PyProof.Rows.envOfC "_law_hole" (defScope s__law_hole) s.heap.objs.size f cdv))) :
    PSs (cxOf CX0 P w K mg base N__law_hole "_law_hole" (defScope s__law_hole) f cdv A outer s H E).nox (defBody s__law_hole) (t__law_hole K sp__law_take sp__law_pick) :=
  (pss_cons (ps_if (pt_cmpR op_gt (pe_cl C__law_take hr (by rfl) (L2.pa_cons (pv 0) (L2.pa_cons pe_int L2.pa_nil))) pe_int (nomark _)) (pss_one (ps_ret (pe_cl C__law_pick hr (by rfl) (L2.pa_cons (pv 0) (L2.pa_cons (pe_lst (L2.pa_cons pe_str (L2.pa_cons pe_str (L2.pa_cons pe_str L2.pa_nil)))) L2.pa_nil))))) pss_nil)
    (pss_cons (ps_set (i := 1) sc__law_hole.nd rfl (Or.inl rfl) pe_str)
    (pss_cons (ps_for PassesOwn.never rfl (pi_range1 (by rfl) G.n_range (L2.pa_cons (pe_op op_addA pe_int (pe_cl C__law_take hr (by rfl) (L2.pa_cons (pv 0) (L2.pa_cons pe_int L2.pa_nil)))) L2.pa_nil)) (pg_name (i := 2) sc__law_hole.nd rfl (Or.inl rfl)) (pss_one (ps_set (i := 1) sc__law_hole.nd rfl (Or.inl rfl) (pe_op op_addA (pv 1) (pe_ix ix_seq pe_str (pe_cl C__law_take hr (by rfl) (L2.pa_cons (pv 0) (L2.pa_cons pe_int L2.pa_nil))) (fun _ _ => rfl))))))
    (pss_one (ps_ret (pv 1))))))

abbrev s__law_pattern : Stmt := top 19
abbrev N__law_pattern : List Str := ["_law_draw", "_law_left", "_law_holed", "_law_many", "_law_k"]
abbrev p__law_pattern : List Str := ["_law_draw", "_law_left", "_law_holed"]
theorem sc__law_pattern : FnScope N__law_pattern p__law_pattern (defScope s__law_pattern) := ⟨rfl, rfl, rfl, by decide +kernel, rfl, by decide +kernel, by decide +kernel⟩
def t__law_pattern (K : PySem.W.Frag) (sp__law_take : Sp) (sp__law_hole : Sp) (sp__law_word : Sp) (sp__law_pattern : Sp) : TS :=
  (tSeq (tIfS (tAnd (tB (tVar 2)) (tTest (tOp (rEqA K) (tCall sp__law_take [] E0 (tCons (tVar 0) (tCons (tC (.int 4)) tNil))) (tC (.int 0))))) (tRet (tCall sp__law_hole [] E0 (tCons (tVar 0) tNil))) tNext) (tSeq (tAsg (tIf (tTest (tOp (rI0 fun i j => .bl (decide (j < i))) (tVar 1) (tC (.int 1)))) (tCall sp__law_take [] E0 (tCons (tVar 0) (tCons (tC (.int 4)) tNil))) (tC (.int 0))) (gName 3)) (tRet (tThen (tOp (rAddA K) (tLst (tCons (tCall sp__law_word [] E0 (tCons (tVar 0) tNil)) tNil)) (tLc (iRng1 (tCons (tVar 3) tNil)) (gName 4) tYes (tCall sp__law_pattern [] E0 (tCons (tVar 0) (tCons (tOp (rI0 fun i j => .int (i - j)) (tVar 1) (tC (.int 1))) (tCons (tVar 2) tNil)))) [4])) (kTup K)))))
theorem d__law_pattern {P : Program} {w : World} {K : PySem.W.Frag} {mg : Str → Option Value} {base : Heap} {f : Addr} {cdv : Value} {A : Around} {outer : List PySem.Env} {s : Shared} {H : Hp} {E : XK} {k : Nat} {sp__law_take : Sp} {sp__law_hole : Sp} {sp__law_word : Sp} {sp__law_pattern : Sp} (G : Gb mg) (C__law_take : Cl P w K mg base k "_law_take" ["_law_draw", "_law_size_here"] sp__law_take) (C__law_hole : Cl P w K mg base k "_law_hole" ["_law_draw"] sp__law_hole) (C__law_word : Cl P w K mg base k "_law_word" ["_law_draw"] sp__law_word) (C__law_pattern : Cl P w K mg base k "_law_pattern" ["_law_draw", "_law_left", "_law_holed"] sp__law_pattern) (hr : Room k (A.deeper (PyProof.Rows.envOfC "_law_pattern" (defScope s__law_pattern) s.heap.objs.size f cdv))) :
    PSs (cxOf CX0 P w K mg base N__law_pattern "_law_pattern" (defScope s__law_pattern) f cdv A outer s H E).nox (defBody s__law_pattern) (t__law_pattern K sp__law_take sp__law_hole sp__law_word sp__law_pattern) :=
  (pss_cons (ps_if ((pw_and (pt_val (pv 2)) (pw_and1 (pt_cmpR (op_eqA hr.units) (pe_cl C__law_take hr (by rfl) (L2.pa_cons (pv 0) (L2.pa_cons pe_int L2.pa_nil))) pe_int (nomark _))))).pt (pss_one (ps_ret (pe_cl C__law_hole hr (by rfl) (L2.pa_cons (pv 0) L2.pa_nil)))) pss_nil)
    (pss_cons (ps_set (i := 3) sc__law_pattern.nd rfl (Or.inl rfl) (pe_ifExp (pt_cmpR op_gt (pv 1) pe_int (nomark _)) (pe_cl C__law_take hr (by rfl) (L2.pa_cons (pv 0) (L2.pa_cons pe_int L2.pa_nil))) pe_int))
    (pss_one (ps_ret (pe_tupleOf (by rfl) G.n_tuple (pe_op op_addA (pe_lst (L2.pa_cons (pe_cl C__law_word hr (by rfl) (L2.pa_cons (pv 0) L2.pa_nil)) L2.pa_nil)) (pe_lc (own := [("_law_k", 4)]) (g := gName 4) (by rfl) sc__law_pattern.nd (pi_range1 (by rfl) G.n_range (L2.pa_cons (pv 3) L2.pa_nil)) (blkOk_by (own := [("_law_k", 4)]) (N := N__law_pattern) (sc := defScope s__law_pattern) (by decide +kernel)) (fun _ _ _ _ _ => pg_name (i := 4) sc__law_pattern.nd rfl (Or.inl rfl)) (fun _ _ _ _ _ => pts_nil) (fun _ _ _ _ _ => (pe_cl C__law_pattern hr (by rfl) (L2.pa_cons (pv 0) (L2.pa_cons (pe_op op_sub (pv 1) pe_int) (L2.pa_cons (pv 2) L2.pa_nil))))))))))))

abbrev s__law_letters : Stmt := top 20
abbrev N__law_letters : List Str := ["_law_text", "_law_most", "_law_sign"]
abbrev p__law_letters : List Str := ["_law_text", "_law_most"]
theorem sc__law_letters : FnScope N__law_letters p__law_letters (defScope s__law_letters) := ⟨rfl, rfl, rfl, by decide +kernel, rfl, by decide +kernel, by decide +kernel⟩
def t__law_letters (K : PySem.W.Frag) : TS :=
  (tRet (tAndV (tChain (rI0 fun i j => .bl (decide (i < j))) (rI0 fun i j => .bl (decide (i ≤ j))) (tC (.int 0)) (tCB (rLenA K) (tCons (tVar 0) tNil)) (tVar 1)) (tOp (rEqA K) (tLc (iAny K (tVar 0)) (gName 2) (tTest (tOp (rNotInA K) (tVar 2) (tC (.str "abcdefghijklmnopqrstuvwxyz")))) (tVar 2) [2]) (tLst tNil))))
theorem d__law_letters {P : Program} {w : World} {K : PySem.W.Frag} {mg : Str → Option Value} {base : Heap} {f : Addr} {cdv : Value} {A : Around} {outer : List PySem.Env} {s : Shared} {H : Hp} {E : XK} {k : Nat} (G : Gb mg) (hr : Room k (A.deeper (PyProof.Rows.envOfC "_law_letters" (defScope s__law_letters) s.heap.objs.size f cdv))) :
    PSs (cxOf CX0 P w K mg base N__law_letters "_law_letters" (defScope s__law_letters) f cdv A outer s H E).nox (defBody s__law_letters) (t__law_letters K) :=
  (pss_one (ps_ret (pe_and (pe_chain op_lt op_le pe_int (pe_callB call_lenA (by rfl) G.n_len PySem.boot_len (L2.pa_cons (pv 0) L2.pa_nil)) (pv 1)) (pe_one (pe_cmpR (op_eqA hr.units) (pe_lc (own := [("_law_sign", 2)]) (g := gName 2) (by rfl) sc__law_letters.nd (pi_any (pv 0)) (blkOk_by (own := [("_law_sign", 2)]) (N := N__law_letters) (sc := defScope s__law_letters) (by decide +kernel)) (fun _ _ _ _ _ => pg_name (i := 2) sc__law_letters.nd rfl (Or.inl rfl)) (fun _ _ _ _ _ => (pts_one (pt_cmpR op_notInA (pv 2) pe_str (by with_unfolding_all rfl)))) (fun _ _ _ _ _ => (pv 2))) (pe_lst L2.pa_nil) (nomark _))))))

abbrev s__law_shape : Stmt := top 21
abbrev N__law_shape : List Str := ["_law_one", "_law_holed", "_law_part"]
abbrev p__law_shape : List Str := ["_law_one", "_law_holed"]
theorem sc__law_shape : FnScope N__law_shape p__law_shape (defScope s__law_shape) := ⟨rfl, rfl, rfl, by decide +kernel, rfl, by decide +kernel, by decide +kernel⟩
def t__law_shape (K : PySem.W.Frag) (sp__law_letters : Sp) (sp__law_shape : Sp) : TS :=
  (tSeq (tIfS (tB (tCB (rIsi K) (tCons (tVar 0) (tCons (tC (.ty "str")) tNil)))) (tRet (tAndV (tVar 1) (tAndV (tOp (rEqA K) (tSl (rSlX K) (tVar 0) tNoPart (tPart (tC (.int 1)))) (tC (.str "?"))) (tCall sp__law_letters [] E0 (tCons (tSl (rSlX K) (tVar 0) (tPart (tC (.int 1))) tNoPart) (tCons (tC (.int 4)) tNil)))))) tNext) (tSeq (tIfS (tOr (tNot (tB (tCB (rIsi K) (tCons (tVar 0) (tCons (tC (.ty "tuple")) tNil))))) (tOr (tNot (tTest (tChain (rI0 fun i j => .bl (decide (i < j))) (rI0 fun i j => .bl (decide (i < j))) (tC (.int 0)) (tCB (rLenA K) (tCons (tVar 0) tNil)) (tC (.int 5))))) (tNot (tB (tCB (rIsi K) (tCons (tOp (rIx K) (tVar 0) (tC (.int 0))) (tCons (tC (.ty "str")) tNil))))))) (tRet (tC (.bl false))) tNext) (tRet (tAndV (tCall sp__law_letters [] E0 (tCons (tOp (rIx K) (tVar 0) (tC (.int 0))) (tCons (tC (.int 8)) tNil))) (tCB (rAll K) (tCons (tLc (iAny K (tSl (rSlX K) (tVar 0) (tPart (tC (.int 1))) tNoPart)) (gName 2) tYes (tCall sp__law_shape [] E0 (tCons (tVar 2) (tCons (tVar 1) tNil))) [2]) tNil))))))
theorem d__law_shape {P : Program} {w : World} {K : PySem.W.Frag} {mg : Str → Option Value} {base : Heap} {f : Addr} {cdv : Value} {A : Around} {outer : List PySem.Env} {s : Shared} {H : Hp} {E : XK} {k : Nat} {sp__law_letters : Sp} {sp__law_shape : Sp} (G : Gb mg) (C__law_letters : Cl P w K mg base k "_law_letters" ["_law_text", "_law_most"] sp__law_letters) (C__law_shape : Cl P w K mg base k "_law_shape" ["_law_one", "_law_holed"] sp__law_shape) (hr : Room k (A.deeper (PyProof.Rows.envOfC "_law_shape" (defScope s__law_shape) s.heap.objs.size f cdv))) :
    PSs (cxOf CX0 P w K mg base N__law_shape "_law_shape" (defScope s__law_shape) f cdv A outer s H E).nox (defBody s__law_shape) (t__law_shape K sp__law_letters sp__law_shape) :=
  (pss_cons (ps_if (pt_val (pe_callB call_isi (by rfl) G.n_isinstance (by decide +kernel) (L2.pa_cons (pv 0) (L2.pa_cons (pe_gty (by rfl) G.n_str (by decide +kernel)) L2.pa_nil)))) (pss_one (ps_ret (pe_and (pv 1) (pe_and (pe_cmpR (op_eqA hr.units) (pe_slice sl_any (pv 0) L2.po_none (L2.po_some pe_int)) pe_str (nomark _)) (pe_one (pe_cl C__law_letters hr (by rfl) (L2.pa_cons (pe_slice sl_any (pv 0) (L2.po_some pe_int) L2.po_none) (L2.pa_cons pe_int L2.pa_nil)))))))) pss_nil)
    (pss_cons (ps_if ((pw_or (L2.pt_not (pt_val (pe_callB call_isi (by rfl) G.n_isinstance (by decide +kernel) (L2.pa_cons (pv 0) (L2.pa_cons (pe_gty (by rfl) G.n_tuple (by decide +kernel)) L2.pa_nil))))) (pw_or (L2.pt_not (pt_chain op_lt op_lt pe_int (pe_callB call_lenA (by rfl) G.n_len PySem.boot_len (L2.pa_cons (pv 0) L2.pa_nil)) pe_int)) (pw_or1 (L2.pt_not (pt_val (pe_callB call_isi (by rfl) G.n_isinstance (by decide +kernel) (L2.pa_cons (pe_ix ix_seq (pv 0) pe_int (fun _ _ => rfl)) (L2.pa_cons (pe_gty (by rfl) G.n_str (by decide +kernel)) L2.pa_nil))))))))).pt (pss_one (ps_ret pe_bl)) pss_nil)
    (pss_one (ps_ret (pe_and (pe_cl C__law_letters hr (by rfl) (L2.pa_cons (pe_ix ix_seq (pv 0) pe_int (fun _ _ => rfl)) (L2.pa_cons pe_int L2.pa_nil))) (pe_one (pe_callB (cr_all rfl) (by rfl) G.n_all (by decide +kernel) (L2.pa_cons (pe_lc (own := [("_law_part", 2)]) (g := gName 2) (by rfl) sc__law_shape.nd (pi_any (pe_slice sl_any (pv 0) (L2.po_some pe_int) L2.po_none)) (blkOk_by (own := [("_law_part", 2)]) (N := N__law_shape) (sc := defScope s__law_shape) (by decide +kernel)) (fun _ _ _ _ _ => pg_name (i := 2) sc__law_shape.nd rfl (Or.inl rfl)) (fun _ _ _ _ _ => pts_nil) (fun _ _ _ _ _ => (pe_cl C__law_shape hr (by rfl) (L2.pa_cons (pv 2) (L2.pa_cons (pv 1) L2.pa_nil))))) L2.pa_nil))))))))

abbrev s__law_size : Stmt := top 22
abbrev N__law_size : List Str := ["_law_one", "_law_part"]
abbrev p__law_size : List Str := ["_law_one"]
theorem sc__law_size : FnScope N__law_size p__law_size (defScope s__law_size) := ⟨rfl, rfl, rfl, by decide +kernel, rfl, by decide +kernel, by decide +kernel⟩
def t__law_size (K : PySem.W.Frag) (sp__law_size : Sp) : TS :=
  (tSeq (tIfS (tB (tCB (rIsi K) (tCons (tVar 0) (tCons (tC (.ty "str")) tNil)))) (tRet (tC (.int 1))) tNext) (tRet (tOp (rAddA K) (tC (.int 1)) (tCB (rSum K) (tCons (tLc (iAny K (tSl (rSlX K) (tVar 0) (tPart (tC (.int 1))) tNoPart)) (gName 1) tYes (tCall sp__law_size [] E0 (tCons (tVar 1) tNil)) [1]) tNil)))))
theorem d__law_size {P : Program} {w : World} {K : PySem.W.Frag} {mg : Str → Option Value} {base : Heap} {f : Addr} {cdv : Value} {A : Around} {outer : List PySem.Env} {s : Shared} {H : Hp} {E : XK} {k : Nat} {sp__law_size : Sp} (G : Gb mg) (C__law_size : Cl P w K mg base k "_law_size" ["_law_one"] sp__law_size) (hr : Room k (A.deeper (PyProof.Rows.envOfC "_law_size" (defScope s__law_size) s.heap.objs.size f cdv))) :
    PSs (cxOf CX0 P w K mg base N__law_size "_law_size" (defScope s__law_size) f cdv A outer s H E).nox (defBody s__law_size) (t__law_size K sp__law_size) :=
  (pss_cons (ps_if (pt_val (pe_callB call_isi (by rfl) G.n_isinstance (by decide +kernel) (L2.pa_cons (pv 0) (L2.pa_cons (pe_gty (by rfl) G.n_str (by decide +kernel)) L2.pa_nil)))) (pss_one (ps_ret pe_int)) pss_nil)
    (pss_one (ps_ret (pe_op op_addA pe_int (pe_callB (cr_sum rfl) (by rfl) G.n_sum (by decide +kernel) (L2.pa_cons (pe_lc (own := [("_law_part", 1)]) (g := gName 1) (by rfl) sc__law_size.nd (pi_any (pe_slice sl_any (pv 0) (L2.po_some pe_int) L2.po_none)) (blkOk_by (own := [("_law_part", 1)]) (N := N__law_size) (sc := defScope s__law_size) (by decide +kernel)) (fun _ _ _ _ _ => pg_name (i := 1) sc__law_size.nd rfl (Or.inl rfl)) (fun _ _ _ _ _ => pts_nil) (fun _ _ _ _ _ => (pe_cl C__law_size hr (by rfl) (L2.pa_cons (pv 1) L2.pa_nil)))) L2.pa_nil))))))

abbrev s__law_depth : Stmt := top 23
abbrev N__law_depth : List Str := ["_law_one", "_law_part"]
abbrev p__law_depth : List Str := ["_law_one"]
theorem sc__law_depth : FnScope N__law_depth p__law_depth (defScope s__law_depth) := ⟨rfl, rfl, rfl, by decide +kernel, rfl, by decide +kernel, by decide +kernel⟩
def t__law_depth (K : PySem.W.Frag) (sp__law_depth : Sp) : TS :=
  (tSeq (tIfS (tOr (tB (tCB (rIsi K) (tCons (tVar 0) (tCons (tC (.ty "str")) tNil)))) (tTest (tOp (rEqA K) (tCB (rLenA K) (tCons (tVar 0) tNil)) (tC (.int 1))))) (tRet (tC (.int 1))) tNext) (tRet (tOp (rAddA K) (tC (.int 1)) (tCB (rMax K) (tCons (tLc (iAny K (tSl (rSlX K) (tVar 0) (tPart (tC (.int 1))) tNoPart)) (gName 1) tYes (tCall sp__law_depth [] E0 (tCons (tVar 1) tNil)) [1]) tNil)))))
theorem d__law_depth {P : Program} {w : World} {K : PySem.W.Frag} {mg : Str → Option Value} {base : Heap} {f : Addr} {cdv : Value} {A : Around} {outer : List PySem.Env} {s : Shared} {H : Hp} {E : XK} {k : Nat} {sp__law_depth : Sp} (G : Gb mg) (C__law_depth : Cl P w K mg base k "_law_depth" ["_law_one"] sp__law_depth) (hr : Room k (A.deeper (PyProof.Rows.envOfC "_law_depth" (defScope s__law_depth) s.heap.objs.size f cdv))) :
    PSs (cxOf CX0 P w K mg base N__law_depth "_law_depth" (defScope s__law_depth) f cdv A outer s H E).nox (defBody s__law_depth) (t__law_depth K sp__law_depth) :=
  (pss_cons (ps_if ((pw_or (pt_val (pe_callB call_isi (by rfl) G.n_isinstance (by decide +kernel) (L2.pa_cons (pv 0) (L2.pa_cons (pe_gty (by rfl) G.n_str (by decide +kernel)) L2.pa_nil)))) (pw_or1 (pt_cmpR (op_eqA hr.units) (pe_callB call_lenA (by rfl) G.n_len PySem.boot_len (L2.pa_cons (pv 0) L2.pa_nil)) pe_int (nomark _))))).pt (pss_one (ps_ret pe_int)) pss_nil)
    (pss_one (ps_ret (pe_op op_addA pe_int (pe_callB (cr_max rfl) (by rfl) G.n_max (by decide +kernel) (L2.pa_cons (pe_lc (own := [("_law_part", 1)]) (g := gName 1) (by rfl) sc__law_depth.nd (pi_any (pe_slice sl_any (pv 0) (L2.po_some pe_int) L2.po_none)) (blkOk_by (own := [("_law_part", 1)]) (N := N__law_depth) (sc := defScope s__law_depth) (by decide +kernel)) (fun _ _ _ _ _ => pg_name (i := 1) sc__law_depth.nd rfl (Or.inl rfl)) (fun _ _ _ _ _ => pts_nil) (fun _ _ _ _ _ => (pe_cl C__law_depth hr (by rfl) (L2.pa_cons (pv 1) L2.pa_nil)))) L2.pa_nil))))))

abbrev s__law_due : Stmt := top 24
abbrev N__law_due : List Str := ["_law_one", "_law_holed"]
abbrev p__law_due : List Str := ["_law_one", "_law_holed"]
theorem sc__law_due : FnScope N__law_due p__law_due (defScope s__law_due) := ⟨rfl, rfl, rfl, by decide +kernel, rfl, by decide +kernel, by decide +kernel⟩
def t__law_due (K : PySem.W.Frag) (sp__law_shape : Sp) (sp__law_size : Sp) (sp__law_depth : Sp) : TS :=
  (tRet (tAndV (tCall sp__law_shape [] E0 (tCons (tVar 0) (tCons (tVar 1) tNil))) (tAndV (tOp (rI0 fun i j => .bl (decide (i < j))) (tCall sp__law_size [] E0 (tCons (tVar 0) tNil)) (tC (.int 31))) (tOp (rI0 fun i j => .bl (decide (i < j))) (tCall sp__law_depth [] E0 (tCons (tVar 0) tNil)) (tC (.int 6))))))
theorem d__law_due {P : Program} {w : World} {K : PySem.W.Frag} {mg : Str → Option Value} {base : Heap} {f : Addr} {cdv : Value} {A : Around} {outer : List PySem.Env} {s : Shared} {H : Hp} {E : XK} {k : Nat} {sp__law_shape : Sp} {sp__law_size : Sp} {sp__law_depth : Sp} (G : Gb mg) (C__law_shape : Cl P w K mg base k "_law_shape" ["_law_one", "_law_holed"] sp__law_shape) (C__law_size : Cl P w K mg base k "_law_size" ["_law_one"] sp__law_size) (C__law_depth : Cl P w K mg base k "_law_depth" ["_law_one"] sp__law_depth) (hr : Room k (A.deeper (PyProof.Rows.envOfC "_law_due" (defScope s__law_due) s.heap.objs.size f cdv))) :
    PSs (cxOf CX0 P w K mg base N__law_due "_law_due" (defScope s__law_due) f cdv A outer s H E).nox (defBody s__law_due) (t__law_due K sp__law_shape sp__law_size sp__law_depth) :=
  (pss_one (ps_ret (pe_and (pe_cl C__law_shape hr (by rfl) (L2.pa_cons (pv 0) (L2.pa_cons (pv 1) L2.pa_nil))) (pe_and (pe_cmpR op_lt (pe_cl C__law_size hr (by rfl) (L2.pa_cons (pv 0) L2.pa_nil)) pe_int (nomark _)) (pe_one (pe_cmpR op_lt (pe_cl C__law_depth hr (by rfl) (L2.pa_cons (pv 0) L2.pa_nil)) pe_int (nomark _)))))))

abbrev s__law_odd : Stmt := top 25
abbrev N__law_odd : List Str := ["_law_draw", "_law_one", "_law_odd_here", "_law_way"]
abbrev p__law_odd : List Str := ["_law_draw", "_law_one"]
theorem sc__law_odd : FnScope N__law_odd p__law_odd (defScope s__law_odd) := ⟨rfl, rfl, rfl, by decide +kernel, rfl, by decide +kernel, by decide +kernel⟩
def t__law_odd (K : PySem.W.Frag) (sp__law_take : Sp) (sp__law_pick : Sp) : TS :=
  (tSeq (tAsg (tLst (tCons (tC .non) (tCons (tC (.int 0)) (tCons (tC (.bl true)) (tCons (tC (.str "")) (tCons (tC (.str "?")) (tCons (tC (.str "?A")) (tCons (tC (.str "?abcde")) (tCons (tC (.str "a")) (tCons (tC (.str "A")) (tCons (tTup tNil) (tCons (tLst tNil) (tCons (tLst (tCons (tC (.str "a")) tNil)) (tCons (tTup (tCons (tC (.str "")) tNil)) (tCons (tTup (tCons (tC (.str "abcdefghi")) tNil)) (tCons (tTup (tCons (tC (.str "?x")) tNil)) (tCons (tTup (tCons (tC (.int 1)) tNil)) (tCons tDNewK tNil)))))))))))))))))) (gName 2)) (tSeq (tAsg (tCall sp__law_take [] E0 (tCons (tVar 0) (tCons (tC (.int 6)) tNil))) (gName 3)) (tSeq (tIfS (tAnd (tTest (tOp (rEqA K) (tVar 3) (tC (.int 0)))) (tB (tCB (rIsi K) (tCons (tVar 1) (tCons (tC (.ty "tuple")) tNil))))) (tRet (tCB (rListA K) (tCons (tVar 1) tNil))) tNext) (tSeq (tIfS (tAnd (tTest (tOp (rEqA K) (tVar 3) (tC (.int 1)))) (tB (tCB (rIsi K) (tCons (tVar 1) (tCons (tC (.ty "tuple")) tNil))))) (tRet (tOp (rAddA K) (tVar 1) (tOp (rMulA K) (tTup (tCons (tTup (tCons (tC (.str "b")) tNil)) tNil)) (tOp (rI0 fun i j => .int (i - j)) (tC (.int 5)) (tCB (rLenA K) (tCons (tVar 1) tNil)))))) tNext) (tSeq (tIfS (tTest (tOp (rEqA K) (tVar 3) (tC (.int 2)))) (tRet (tTup (tCons (tC (.str "g")) (tCons (tVar 1) tNil)))) tNext) (tSeq (tIfS (tTest (tOp (rEqA K) (tVar 3) (tC (.int 3)))) (tRet (tTup (tCons (tC (.str "f")) (tCons (tVar 1) (tCons (tVar 1) (tCons (tVar 1) tNil)))))) tNext) (tRet (tCall sp__law_pick [] E0 (tCons (tVar 0) (tCons (tVar 2) tNil))))))))))
theorem d__law_odd {P : Program} {w : World} {K : PySem.W.Frag} {mg : Str → Option Value} {base : Heap} {f : Addr} {cdv : Value} {A : Around} {outer : List PySem.Env} {s : Shared} {H : Hp} {E : XK} {k : Nat} {sp__law_take : Sp} {sp__law_pick : Sp} (G : Gb mg) (C__law_take : Cl P w K mg base k "_law_take" ["_law_draw", "_law_size_here"] sp__law_take) (C__law_pick : Cl P w K mg base k "_law_pick" ["_law_draw", "_law_some"] sp__law_pick) (hr : Room k (A.deeper (PyProof.Rows.envOfC "_law_odd" (defScope s__law_odd) s.heap.objs.size f cdv))) :
    PSs (cxOf CX0 P w K mg base N__law_odd "_law_odd" (defScope s__law_odd) f cdv A outer s H E).nox (defBody s__law_odd) (t__law_odd K sp__law_take sp__law_pick) :=
  (pss_cons (ps_set (i := 2) sc__law_odd.nd rfl (Or.inl rfl) (pe_lst (L2.pa_cons pe_non (L2.pa_cons pe_int (L2.pa_cons pe_bl (L2.pa_cons pe_str (L2.pa_cons pe_str (L2.pa_cons pe_str (L2.pa_cons pe_str (L2.pa_cons pe_str (L2.pa_cons pe_str (L2.pa_cons (pe_tup L2.pa_nil) (L2.pa_cons (pe_lst L2.pa_nil) (L2.pa_cons (pe_lst (L2.pa_cons pe_str L2.pa_nil)) (L2.pa_cons (pe_tup (L2.pa_cons pe_str L2.pa_nil)) (L2.pa_cons (pe_tup (L2.pa_cons pe_str L2.pa_nil)) (L2.pa_cons (pe_tup (L2.pa_cons pe_str L2.pa_nil)) (L2.pa_cons (pe_tup (L2.pa_cons pe_int L2.pa_nil)) (L2.pa_cons pe_dnewK L2.pa_nil)))))))))))))))))))
    (pss_cons (ps_set (i := 3) sc__law_odd.nd rfl (Or.inl rfl) (pe_cl C__law_take hr (by rfl) (L2.pa_cons (pv 0) (L2.pa_cons pe_int L2.pa_nil))))
    (pss_cons (ps_if ((pw_and (pt_cmpR (op_eqA hr.units) (pv 3) pe_int (nomark _)) (pw_and1 (pt_val (pe_callB call_isi (by rfl) G.n_isinstance (by decide +kernel) (L2.pa_cons (pv 1) (L2.pa_cons (pe_gty (by rfl) G.n_tuple (by decide +kernel)) L2.pa_nil))))))).pt (pss_one (ps_ret (pe_callTy call_listA (by rfl) G.n_list (by decide +kernel) (L2.pa_cons (pv 1) L2.pa_nil)))) pss_nil)
    (pss_cons (ps_if ((pw_and (pt_cmpR (op_eqA hr.units) (pv 3) pe_int (nomark _)) (pw_and1 (pt_val (pe_callB call_isi (by rfl) G.n_isinstance (by decide +kernel) (L2.pa_cons (pv 1) (L2.pa_cons (pe_gty (by rfl) G.n_tuple (by decide +kernel)) L2.pa_nil))))))).pt (pss_one (ps_ret (pe_op op_addA (pv 1) (pe_op op_mulA (pe_tup (L2.pa_cons (pe_tup (L2.pa_cons pe_str L2.pa_nil)) L2.pa_nil)) (pe_op op_sub pe_int (pe_callB call_lenA (by rfl) G.n_len PySem.boot_len (L2.pa_cons (pv 1) L2.pa_nil))))))) pss_nil)
    (pss_cons (ps_if (pt_cmpR (op_eqA hr.units) (pv 3) pe_int (nomark _)) (pss_one (ps_ret (pe_tup (L2.pa_cons pe_str (L2.pa_cons (pv 1) L2.pa_nil))))) pss_nil)
    (pss_cons (ps_if (pt_cmpR (op_eqA hr.units) (pv 3) pe_int (nomark _)) (pss_one (ps_ret (pe_tup (L2.pa_cons pe_str (L2.pa_cons (pv 1) (L2.pa_cons (pv 1) (L2.pa_cons (pv 1) L2.pa_nil))))))) pss_nil)
    (pss_one (ps_ret (pe_cl C__law_pick hr (by rfl) (L2.pa_cons (pv 0) (L2.pa_cons (pv 2) L2.pa_nil)))))))))))

abbrev s__law_spoilt : Stmt := top 26
abbrev N__law_spoilt : List Str := ["_law_draw", "_law_one", "_law_at"]
abbrev p__law_spoilt : List Str := ["_law_draw", "_law_one"]
theorem sc__law_spoilt : FnScope N__law_spoilt p__law_spoilt (defScope s__law_spoilt) := ⟨rfl, rfl, rfl, by decide +kernel, rfl, by decide +kernel, by decide +kernel⟩
def t__law_spoilt (K : PySem.W.Frag) (sp__law_take : Sp) (sp__law_pick : Sp) (sp__law_spoilt : Sp) (sp__law_odd : Sp) : TS :=
  (tSeq (tIfS (tAnd (tB (tCB (rIsi K) (tCons (tVar 1) (tCons (tC (.ty "tuple")) tNil)))) (tTest (tOp (rI0 fun i j => .bl (decide (j < i))) (tCall sp__law_take [] E0 (tCons (tVar 0) (tCons (tC (.int 4)) tNil))) (tC (.int 0))))) (tSeq (tAsg (tCall sp__law_take [] E0 (tCons (tVar 0) (tCons (tCB (rLenA K) (tCons (tVar 1) tNil)) tNil))) (gName 2)) (tSeq (tIfS (tTest (tOp (rEqA K) (tVar 2) (tC (.int 0)))) (tRet (tOp (rAddA K) (tTup (tCons (tCall sp__law_pick [] E0 (tCons (tVar 0) (tCons (tLst (tCons (tC (.str "")) (tCons (tC (.str "A")) (tCons (tC (.str "?x")) (tCons (tC (.str "abcdefghi")) (tCons (tC (.str "a b")) (tCons (tC (.int 3)) (tCons (tC .non) (tCons (tTup (tCons (tC (.str "a")) tNil)) (tCons (tC (.str "ab")) tNil)))))))))) tNil))) tNil)) (tSl (rSlX K) (tVar 1) (tPart (tC (.int 1))) tNoPart))) tNext) (tRet (tOp (rAddA K) (tOp (rAddA K) (tSl (rSlX K) (tVar 1) tNoPart (tPart (tVar 2))) (tTup (tCons (tCall sp__law_spoilt [] E0 (tCons (tVar 0) (tCons (tOp (rIx K) (tVar 1) (tVar 2)) tNil))) tNil))) (tSl (rSlX K) (tVar 1) (tPart (tOp (rAddA K) (tVar 2) (tC (.int 1)))) tNoPart))))) tNext) (tRet (tCall sp__law_odd [] E0 (tCons (tVar 0) (tCons (tVar 1) tNil)))))
theorem d__law_spoilt {P : Program} {w : World} {K : PySem.W.Frag} {mg : Str → Option Value} {base : Heap} {f : Addr} {cdv : Value} {A : Around} {outer : List PySem.Env} {s : Shared} {H : Hp} {E : XK} {k : Nat} {sp__law_take : Sp} {sp__law_pick : Sp} {sp__law_spoilt : Sp} {sp__law_odd : Sp} (G : Gb mg) (C__law_take : Cl P w K mg base k "_law_take" ["_law_draw", "_law_size_here"] sp__law_take) (C__law_pick : Cl P w K mg base k "_law_pick" ["_law_draw", "_law_some"] sp__law_pick) (C__law_spoilt : Cl P w K mg base k "_law_spoilt" ["_law_draw", "_law_one"] sp__law_spoilt) (C__law_odd : Cl P w K mg base k "_law_odd" ["_law_draw", "_law_one"] sp__law_odd) (hr : Room k (A.deeper (PyProof.Rows.envOfC "_law_spoilt" (defScope s__law_spoilt) s.heap.objs.size f cdv))) :
    PSs (cxOf CX0 P w K mg base N__law_spoilt "_law_spoilt" (defScope s__law_spoilt) f cdv A outer s H E).nox (defBody s__law_spoilt) (t__law_spoilt K sp__law_take sp__law_pick sp__law_spoilt sp__law_odd) :=
  (pss_cons (ps_if ((pw_and (pt_val (pe_callB call_isi (by rfl) G.n_isinstance (by decide +kernel) (L2.pa_cons (pv 1) (L2.pa_cons (pe_gty (by rfl) G.n_tuple (by decide +kernel)) L2.pa_nil)))) (pw_and1 (pt_cmpR op_gt (pe_cl C__law_take hr (by rfl) (L2.pa_cons (pv 0) (L2.pa_cons pe_int L2.pa_nil))) pe_int (nomark _))))).pt (pss_cons (ps_set (i := 2) sc__law_spoilt.nd rfl (Or.inl rfl) (pe_cl C__law_take hr (by rfl) (L2.pa_cons (pv 0) (L2.pa_cons (pe_callB call_lenA (by rfl) G.n_len PySem.boot_len (L2.pa_cons (pv 1) L2.pa_nil)) L2.pa_nil))))
    (pss_cons (ps_if (pt_cmpR (op_eqA hr.units) (pv 2) pe_int (nomark _)) (pss_one (ps_ret (pe_op op_addA (pe_tup (L2.pa_cons (pe_cl C__law_pick hr (by rfl) (L2.pa_cons (pv 0) (L2.pa_cons (pe_lst (L2.pa_cons pe_str (L2.pa_cons pe_str (L2.pa_cons pe_str (L2.pa_cons pe_str (L2.pa_cons pe_str (L2.pa_cons pe_int (L2.pa_cons pe_non (L2.pa_cons (pe_tup (L2.pa_cons pe_str L2.pa_nil)) (L2.pa_cons pe_str L2.pa_nil)))))))))) L2.pa_nil))) L2.pa_nil)) (pe_slice sl_any (pv 1) (L2.po_some pe_int) L2.po_none)))) pss_nil)
    (pss_one (ps_ret (pe_op op_addA (pe_op op_addA (pe_slice sl_any (pv 1) L2.po_none (L2.po_some (pv 2))) (pe_tup (L2.pa_cons (pe_cl C__law_spoilt hr (by rfl) (L2.pa_cons (pv 0) (L2.pa_cons (pe_ix ix_seq (pv 1) (pv 2) (fun _ _ => rfl)) L2.pa_nil))) L2.pa_nil))) (pe_slice sl_any (pv 1) (L2.po_some (pe_op op_addA (pv 2) pe_int)) L2.po_none)))))) pss_nil)
    (pss_one (ps_ret (pe_cl C__law_odd hr (by rfl) (L2.pa_cons (pv 0) (L2.pa_cons (pv 1) L2.pa_nil))))))

abbrev s_law : Stmt := top 27
abbrev N_law : List Str := ["_law_script", "_law_draw", "_law_turn", "_law_k", "_law_widest", "_law_some", "_law_one", "_law_due_here", "_law_found", "_law_deepest", "_law_spoil", "_law_holed", "_law_told"]
abbrev p_law : List Str := ["_law_script"]
theorem sc_law : FnScope N_law p_law (defScope s_law) := ⟨rfl, rfl, rfl, by decide +kernel, rfl, by decide +kernel, by decide +kernel⟩
def t_law (K : PySem.W.Frag) (sp__law_begin : Sp) (sp__law_take : Sp) (sp__law_pattern : Sp) (sp__law_spoilt : Sp) (sp__law_due : Sp) (sp_is_term : Sp) (sp_is_pattern : Sp) : TS :=
  (tSeq (tAsg (tCall sp__law_begin [] E0 (tCons (tVar 0) tNil)) (gName 1)) (tSeq (tFor (iRng1 (tCons (tC (.int 6)) tNil)) (gName 2) (tSeq (tPar 10 11 (tCons (tCall sp__law_take [] E0 (tCons (tVar 1) (tCons (tC (.int 3)) tNil))) (tCons (tOp (rEqA K) (tCall sp__law_take [] E0 (tCons (tVar 1) (tCons (tC (.int 2)) tNil))) (tC (.int 0))) tNil))) (tSeq (tAsg (tCall sp__law_pattern [] E0 (tCons (tVar 1) (tCons (tOp (rAddA K) (tC (.int 1)) (tCall sp__law_take [] E0 (tCons (tVar 1) (tCons (tC (.int 5)) tNil)))) (tCons (tVar 11) tNil)))) (gName 6)) (tSeq (tIfS (tTest (tOp (rI0 fun i j => .bl (decide (j < i))) (tVar 10) (tC (.int 0)))) (tAsg (tCall sp__law_spoilt [] E0 (tCons (tVar 1) (tCons (tVar 6) tNil))) (gName 6)) tNext) (tSeq (tAsg (tOp (rMulA K) (tLst (tCons (tCall sp__law_due [] E0 (tCons (tVar 6) (tCons (tC (.bl false)) tNil))) (tCons (tCall sp__law_due [] E0 (tCons (tVar 6) (tCons (tC (.bl true)) tNil))) tNil))) (tC (.int 2))) (gName 7)) (tSeq (tAsg (tLst (tCons (tCall sp_is_term [] E0 (tCons (tVar 6) tNil)) (tCons (tCall sp_is_pattern [] E0 (tCons (tVar 6) tNil)) (tCons (tCallN 0 1 sp_is_term (fun vs zs => vs ++ zs) E0 tNil (tCons (tVar 6) tNil)) (tCons (tCallN 0 1 sp_is_pattern (fun vs zs => vs ++ zs) E0 tNil (tCons (tVar 6) tNil)) tNil))))) (gName 8)) (tIfS (tOr (tTest (tOp (rNeA K) (tLc (iAny K (tVar 8)) (gName 12) tYes (tCB (rIsi K) (tCons (tVar 12) (tCons (tC (.ty "bool")) tNil))) [12]) (tOp (rMulA K) (tLst (tCons (tC (.bl true)) tNil)) (tC (.int 4))))) (tTest (tOp (rNeA K) (tVar 8) (tVar 7)))) (tRet (tC (.bl false))) tNext))))))) (tSeq (tAsg (tTup (tCons (tTup (tCons (tC (.str "a")) tNil)) (tCons (tTup (tCons (tC (.str "f")) (tCons (tTup (tCons (tC (.str "a")) tNil)) (tCons (tTup (tCons (tC (.str "a")) tNil)) (tCons (tTup (tCons (tC (.str "a")) tNil)) tNil))))) tNil))) (gTup K 2 (gCons (gName 9) (gCons (gName 4) gNil)))) (tSeq (tFor (iRng1 (tCons (tC (.int 4)) tNil)) (gName 3) (tAsg (tTup (tCons (tC (.str "g")) (tCons (tVar 9) tNil))) (gName 9))) (tSeq (tAsg (tTup (tCons (tC (.str "f")) (tCons (tVar 4) (tCons (tVar 4) (tCons (tTup (tCons (tC (.str "f")) (tCons (tVar 4) (tCons (tVar 4) (tCons (tTup (tCons (tC (.str "f")) (tCons (tTup (tCons (tC (.str "a")) tNil)) (tCons (tTup (tCons (tC (.str "a")) tNil)) tNil)))) tNil))))) tNil))))) (gName 4)) (tSeq (tAsg (tLst (tCons (tVar 9) (tCons (tTup (tCons (tC (.str "g")) (tCons (tVar 9) tNil))) (tCons (tVar 4) (tCons (tOp (rAddA K) (tSl (rSlX K) (tVar 4) tNoPart (tPart (tC (.int 3)))) (tTup (tCons (tTup (tCons (tC (.str "f")) (tCons (tOp (rIx K) (tVar 4) (tC (.int 1))) (tCons (tOp (rIx K) (tVar 4) (tC (.int 1))) (tCons (tOp (rIx K) (tVar 4) (tC (.int 1))) tNil))))) tNil))) tNil))))) (gName 5)) (tRet (tOp (rEqA K) (tLc (iAny K (tVar 5)) (gName 6) tYes (tCall sp_is_term [] E0 (tCons (tVar 6) tNil)) [6]) (tLst (tCons (tC (.bl true)) (tCons (tC (.bl false)) (tCons (tCall sp__law_due [] E0 (tCons (tVar 4) (tCons (tC (.bl false)) tNil))) (tCons (tCall sp__law_due [] E0 (tCons (tOp (rIx K) (tVar 5) (tC (.int 3))) (tCons (tC (.bl false)) tNil))) tNil)))))))))))))
theorem d_law {P : Program} {w : World} {K : PySem.W.Frag} {mg : Str → Option Value} {base : Heap} {f : Addr} {cdv : Value} {A : Around} {outer : List PySem.Env} {s : Shared} {H : Hp} {E : XK} {k : Nat} {sp__law_begin : Sp} {sp__law_take : Sp} {sp__law_pattern : Sp} {sp__law_spoilt : Sp} {sp__law_due : Sp} {sp_is_term : Sp} {sp_is_pattern : Sp} (G : Gb mg) (C__law_begin : Cl P w K mg base k "_law_begin" ["_law_script"] sp__law_begin) (C__law_take : Cl P w K mg base k "_law_take" ["_law_draw", "_law_size_here"] sp__law_take) (C__law_pattern : Cl P w K mg base k "_law_pattern" ["_law_draw", "_law_left", "_law_holed"] sp__law_pattern) (C__law_spoilt : Cl P w K mg base k "_law_spoilt" ["_law_draw", "_law_one"] sp__law_spoilt) (C__law_due : Cl P w K mg base k "_law_due" ["_law_one", "_law_holed"] sp__law_due) (C_is_term : Cl P w K mg base k "is_term" ["thing"] sp_is_term) (C_is_pattern : Cl P w K mg base k "is_pattern" ["thing"] sp_is_pattern) (CN_is_term : ClN P w K mg base k "is_term" ["thing"] 0 ["thing"] sp_is_term) (CN_is_pattern : ClN P w K mg base k "is_pattern" ["thing"] 0 ["thing"] sp_is_pattern) (hr : Room k (A.deeper (PyProof.Rows.envOfC "law" (defScope s_law) s.heap.objs.size f cdv))) :
    PSs (cxOf CX0 P w K mg base N_law "law" (defScope s_law) f cdv A outer s H E).nox (defBody s_law) (t_law K sp__law_begin sp__law_take sp__law_pattern sp__law_spoilt sp__law_due sp_is_term sp_is_pattern) :=
  (pss_cons (ps_set (i := 1) sc_law.nd rfl (Or.inl rfl) (pe_cl C__law_begin hr (by rfl) (L2.pa_cons (pv 0) L2.pa_nil)))
    (pss_cons (ps_for PassesOwn.never rfl (pi_range1 (by rfl) G.n_range (L2.pa_cons pe_int L2.pa_nil)) (pg_name (i := 2) sc_law.nd rfl (Or.inl rfl)) (pss_cons (ps_par (i := 10) (j := 11) (by rfl) sc_law.nd rfl rfl (by decide) rfl rfl (L2.pa_cons (pe_cl C__law_take hr (by rfl) (L2.pa_cons (pv 1) (L2.pa_cons pe_int L2.pa_nil))) (L2.pa_cons (pe_cmpR (op_eqA hr.units) (pe_cl C__law_take hr (by rfl) (L2.pa_cons (pv 1) (L2.pa_cons pe_int L2.pa_nil))) pe_int (nomark _)) L2.pa_nil)) (by rfl))
    (pss_cons (ps_set (i := 6) sc_law.nd rfl (Or.inl rfl) (pe_cl C__law_pattern hr (by rfl) (L2.pa_cons (pv 1) (L2.pa_cons (pe_op op_addA pe_int (pe_cl C__law_take hr (by rfl) (L2.pa_cons (pv 1) (L2.pa_cons pe_int L2.pa_nil)))) (L2.pa_cons (pv 11) L2.pa_nil)))))
    (pss_cons (ps_if (pt_cmpR op_gt (pv 10) pe_int (nomark _)) (pss_one (ps_set (i := 6) sc_law.nd rfl (Or.inl rfl) (pe_cl C__law_spoilt hr (by rfl) (L2.pa_cons (pv 1) (L2.pa_cons (pv 6) L2.pa_nil))))) pss_nil)
    (pss_cons (ps_set (i := 7) sc_law.nd rfl (Or.inl rfl) (pe_op op_mulA (pe_lst (L2.pa_cons (pe_cl C__law_due hr (by rfl) (L2.pa_cons (pv 6) (L2.pa_cons pe_bl L2.pa_nil))) (L2.pa_cons (pe_cl C__law_due hr (by rfl) (L2.pa_cons (pv 6) (L2.pa_cons pe_bl L2.pa_nil))) L2.pa_nil))) pe_int))
    (pss_cons (ps_set (i := 8) sc_law.nd rfl (Or.inl rfl) (pe_lst (L2.pa_cons (pe_cl C_is_term hr (by rfl) (L2.pa_cons (pv 6) L2.pa_nil)) (L2.pa_cons (pe_cl C_is_pattern hr (by rfl) (L2.pa_cons (pv 6) L2.pa_nil)) (L2.pa_cons (pe_clN0 (ks := ["thing"]) CN_is_term hr (by rfl) (pk_cons (pv 6) pk_nil)) (L2.pa_cons (pe_clN0 (ks := ["thing"]) CN_is_pattern hr (by rfl) (pk_cons (pv 6) pk_nil)) L2.pa_nil))))))
    (pss_one (ps_if ((pw_or (pt_cmpR (op_neA hr.units) (pe_lc (own := [("_law_told", 12)]) (g := gName 12) (by rfl) sc_law.nd (pi_any (pv 8)) (blkOk_by (own := [("_law_told", 12)]) (N := N_law) (sc := defScope s_law) (by decide +kernel)) (fun _ _ _ _ _ => pg_name (i := 12) sc_law.nd rfl (Or.inl rfl)) (fun _ _ _ _ _ => pts_nil) (fun _ _ _ _ _ => (pe_callB call_isi (by rfl) G.n_isinstance (by decide +kernel) (L2.pa_cons (pv 12) (L2.pa_cons (pe_gty (by rfl) G.n_bool (by decide +kernel)) L2.pa_nil))))) (pe_op op_mulA (pe_lst (L2.pa_cons pe_bl L2.pa_nil)) pe_int) (nomark _)) (pw_or1 (pt_cmpR (op_neA hr.units) (pv 8) (pv 7) (nomark _))))).pt (pss_one (ps_ret pe_bl)) pss_nil))))))))
    (pss_cons (ps_asg (pe_tup (L2.pa_cons (pe_tup (L2.pa_cons pe_str L2.pa_nil)) (L2.pa_cons (pe_tup (L2.pa_cons pe_str (L2.pa_cons (pe_tup (L2.pa_cons pe_str L2.pa_nil)) (L2.pa_cons (pe_tup (L2.pa_cons pe_str L2.pa_nil)) (L2.pa_cons (pe_tup (L2.pa_cons pe_str L2.pa_nil)) L2.pa_nil))))) L2.pa_nil))) (pg_tup (by rfl) (pgs_cons (pg_name (i := 9) sc_law.nd rfl (Or.inl rfl)) (pgs_cons (pg_name (i := 4) sc_law.nd rfl (Or.inl rfl)) pgs_nil))))
    (pss_cons (ps_for PassesOwn.never rfl (pi_range1 (by rfl) G.n_range (L2.pa_cons pe_int L2.pa_nil)) (pg_name (i := 3) sc_law.nd rfl (Or.inl rfl)) (pss_one (ps_set (i := 9) sc_law.nd rfl (Or.inl rfl) (pe_tup (L2.pa_cons pe_str (L2.pa_cons (pv 9) L2.pa_nil))))))
    (pss_cons (ps_set (i := 4) sc_law.nd rfl (Or.inl rfl) (pe_tup (L2.pa_cons pe_str (L2.pa_cons (pv 4) (L2.pa_cons (pv 4) (L2.pa_cons (pe_tup (L2.pa_cons pe_str (L2.pa_cons (pv 4) (L2.pa_cons (pv 4) (L2.pa_cons (pe_tup (L2.pa_cons pe_str (L2.pa_cons (pe_tup (L2.pa_cons pe_str L2.pa_nil)) (L2.pa_cons (pe_tup (L2.pa_cons pe_str L2.pa_nil)) L2.pa_nil)))) L2.pa_nil))))) L2.pa_nil))))))
    (pss_cons (ps_set (i := 5) sc_law.nd rfl (Or.inl rfl) (pe_lst (L2.pa_cons (pv 9) (L2.pa_cons (pe_tup (L2.pa_cons pe_str (L2.pa_cons (pv 9) L2.pa_nil))) (L2.pa_cons (pv 4) (L2.pa_cons (pe_op op_addA (pe_slice sl_any (pv 4) L2.po_none (L2.po_some pe_int)) (pe_tup (L2.pa_cons (pe_tup (L2.pa_cons pe_str (L2.pa_cons (pe_ix ix_seq (pv 4) pe_int (fun _ _ => rfl)) (L2.pa_cons (pe_ix ix_seq (pv 4) pe_int (fun _ _ => rfl)) (L2.pa_cons (pe_ix ix_seq (pv 4) pe_int (fun _ _ => rfl)) L2.pa_nil))))) L2.pa_nil))) L2.pa_nil))))))
    (pss_one (ps_ret (pe_cmpR (op_eqA hr.units) (pe_lc (own := [("_law_one", 6)]) (g := gName 6) (by rfl) sc_law.nd (pi_any (pv 5)) (blkOk_by (own := [("_law_one", 6)]) (N := N_law) (sc := defScope s_law) (by decide +kernel)) (fun _ _ _ _ _ => pg_name (i := 6) sc_law.nd rfl (Or.inl rfl)) (fun _ _ _ _ _ => pts_nil) (fun _ _ _ _ _ => (pe_cl C_is_term hr (by rfl) (L2.pa_cons (pv 6) L2.pa_nil)))) (pe_lst (L2.pa_cons pe_bl (L2.pa_cons pe_bl (L2.pa_cons (pe_cl C__law_due hr (by rfl) (L2.pa_cons (pv 4) (L2.pa_cons pe_bl L2.pa_nil))) (L2.pa_cons (pe_cl C__law_due hr (by rfl) (L2.pa_cons (pe_ix ix_seq (pv 5) pe_int (fun _ _ => rfl)) (L2.pa_cons pe_bl L2.pa_nil))) L2.pa_nil))))) (nomark _))))))))))
end K01

set_option Elab.async false
set_option linter.all false
set_option maxRecDepth 100000
set_option maxHeartbeats 4000000
namespace K01
open PySem L2 DL

/-! ### names and holes -/
def lets : Str := "abcdefghijklmnopqrstuvwxyz"
def isLet (c : Nat) : Bool := decide (c ∈ lets.cps.toList)
def lettersOk (x : Str) (m : Int) : Bool := (decide ((1 : Int) ≤ (x.length : Int)) && decide ((x.length : Int) ≤ m)) && (x.cps.toList.map isLet).all id
def sgF : D → D
  | .str y => .bl (isLet (y.cps.toList.headD 0))
  | d => d
theorem signs_sg (x : Str) : (signs x).map sgF = (x.cps.toList.map isLet).map D.bl := by
  unfold signs
  rw [List.map_map, List.map_map]
  rfl
theorem signs_len (x : Str) : (signs x).length = x.length := by
  unfold signs
  rw [List.length_map, Array.length_toList]
  rfl
theorem mem_signs {x : Str} {d : D} (h : d ∈ signs x) : ∃ c, c ∈ x.cps.toList ∧ d = .str ⟨#[c]⟩ := by
  unfold signs at h
  obtain ⟨c, h1, h2⟩ := List.mem_map.mp h
  exact ⟨c, h1, h2.symm⟩
def Rletters (ds : List D) (z : D) : Prop := ∃ x m, ds = [.str x, .int m] ∧ x.length < sizeLine ∧ z = .bl (lettersOk x m)
theorem run_are_letters {K : PySem.W.Frag} (ds : List D) (z : D) (h : Rletters ds z) : RnP (t_are_letters K) (startD N_are_letters ds) z := fun τ J s => by
  obtain ⟨x, m, rfl, hx, rfl⟩ := h
  have hl : x.length ≤ sizeLine := Nat.le_of_lt hx
  refine rn_retP (d := .bl (lettersOk x m)) ?_ ⟨rfl, rfl⟩
  refine p_and (p_chain p_int (p_cb (a_cons (p_var rfl) a_nil) (len_str hl)) rv_intB (fun _ => ⟨p_var rfl, rv_intB⟩)) fun _ => ?_
  refine p_cb (a_cons (p_is (p_lcm sgF (it_str (p_var rfl)) (by simp) (by rw [signs_len]; exact hx) fun d hd => ?_) (congrArg D.lst (signs_sg x))) a_nil) all_bls
  obtain ⟨c, hc, rfl⟩ := mem_signs hd
  exact p_op (p_var rfl) p_str in_sign
def isName : D → Bool
  | .str x => lettersOk x 8
  | _ => false
/-- a thing that may be asked: no object of its own, texts below the line -/
def short : D → Prop
  | .str x => x.length < sizeLine ∧ PyData.strOk x = true
  | .ref _ => False
  | .ty _ => False
  | _ => True
theorem short.ty {d : D} (h : short d) : tyOf d ≠ "" := by
  cases d with
  | ref _ => exact h.elim
  | ty _ => exact h.elim
  | _ => intro e; simp [tyOf] at e
def Rname (ds : List D) (z : D) : Prop := ∃ d, ds = [d] ∧ short d ∧ z = .bl (isName d)
theorem run_is_name {K : PySem.W.Frag} (ds : List D) (z : D) (h : Rname ds z) : RnP (t_is_name K (spP Rletters)) (startD N_is_name ds) z := fun τ J s => by
  obtain ⟨d, rfl, hd, rfl⟩ := h
  refine rn_retP (d := .bl (isName d)) ?_ ⟨rfl, rfl⟩
  have e : EvP _ _ _ := p_cb (r := rIsi K) (a_cons (δ := startD N_is_name [d]) (p_var (i := 0) rfl) (a_cons (p_ty (n := "str")) a_nil)) (isi_str hd.ty)
  cases d with
  | str x => exact p_is (p_and e fun _ => p_call (a_cons (p_var rfl) (a_cons p_int a_nil)) ⟨x, 8, rfl, hd.1, rfl⟩) rfl
  | _ => exact p_is (p_and (c := true) e fun h => by cases h) rfl
def isHole : D → Bool
  | .str x => decide (cutS x none (some 1) = "?") && lettersOk (cutS x (some 1) none) 4
  | _ => false
def Rhole (ds : List D) (z : D) : Prop := ∃ d, ds = [d] ∧ short d ∧ z = .bl (isHole d)
theorem run_is_hole {K : PySem.W.Frag} (ds : List D) (z : D) (h : Rhole ds z) : RnP (t_is_hole K (spP Rletters)) (startD N_is_hole ds) z := fun τ J s => by
  obtain ⟨d, rfl, hd, rfl⟩ := h
  refine rn_retP (d := .bl (isHole d)) ?_ ⟨rfl, rfl⟩
  have e : EvP _ _ _ := p_cb (r := rIsi K) (a_cons (δ := startD N_is_hole [d]) (p_var (i := 0) rfl) (a_cons (p_ty (n := "str")) a_nil)) (isi_str hd.ty)
  cases d with
  | str x =>
    have hl : x.length ≤ sizeLine := Nat.le_of_lt hd.1
    exact p_is (p_and e fun _ => p_and (p_op (p_slice (p_var rfl) o_none (o_some p_int) (cut_str hl)) p_str eq_str) fun _ =>
      p_call (a_cons (p_slice (p_var rfl) (o_some p_int) o_none (cut_str hl)) (a_cons p_int a_nil)) ⟨_, 4, rfl, Nat.lt_of_le_of_lt (cutS_length x _ _) hd.1, rfl⟩) rfl
  | _ => exact p_is (p_and (c := true) e fun h => by cases h) rfl

/-! ### measured -/
/-- texts are short, tuples too, at most n levels of tuples -/
def fit : Nat → D → Prop
  | 0 => fun d => match d with
    | .tup _ => False
    | d => short d
  | n + 1 => fun d => match d with
    | .tup xs => xs.length ≤ 1000 ∧ ∀ x, x ∈ xs → fit n x
    | d => short d
theorem fit.short {n : Nat} {d : D} (h : fit n d) : short d := by
  cases n with
  | zero => cases d <;> first | exact h | trivial
  | succ n => cases d <;> first | exact h | trivial
theorem fit.up : ∀ {n : Nat} {d : D}, fit n d → fit (n + 1) d
  | 0, d, h => by cases d <;> first | exact h | exact h.elim
  | n + 1, d, h => by
    cases d with
    | tup xs => exact ⟨h.1, fun x hx => (h.2 x hx).up⟩
    | _ => exact h
theorem fit.le {n m : Nat} {d : D} (h : fit n d) (hm : n ≤ m) : fit m d := by
  induction hm with
  | refl => exact h
  | step _ ih => exact ih.up
def meas (b : Bool) : Nat → D → Int
  | 0 => fun _ => 0
  | n + 1 => fun d => match d with
    | .str x => if (b && isHole (.str x)) = true then 1 else 0
    | .tup (h :: ps) => if (decide (ps.length ≤ 3) && isName h) = true then (if (ps.map (meas b n)).contains 0 = true then 0 else 1 + (ps.map (meas b n)).sum) else 0
    | _ => 0
theorem at0 {α : Type} {x : α} {xs : List α} : atI (x :: xs) 0 = some x := atI_nat (j := 0) rfl
def Rmeas (L : Nat) (ds : List D) (z : D) : Prop := ∃ d n b m, ds = [d, .int ((n : Nat) : Int), .bl b] ∧ n < L ∧ fit m d ∧ z = .int (meas b n d)
theorem small {n : Nat} (h : n ≤ 1000) : n < sizeLine := Nat.lt_of_le_of_lt h (by rw [sizeLine_eq]; decide)
theorem run_measured {K : PySem.W.Frag} {L : Nat} (ds : List D) (z : D) (h : Rmeas (L + 1) ds z) : RnP (t_measured K (spP Rhole) (spP Rname) (spP (Rmeas L))) (startD N_measured ds) z := fun τ J s => by
  obtain ⟨d, n, b, m, rfl, hn, hf, rfl⟩ := h
  have hs := hf.short
  refine rn_ifSeqP (pt_test (p_op (p_var rfl) p_int eq_int)) (fun h0 => rn_retSeqP p_int ?_) (fun h0 => rn_nextSeq ?_)
  · have e : n = 0 := by have := of_decide_eq_true h0; omega
    subst e
    exact ⟨rfl, rfl⟩
  have hn0 : n ≠ 0 := fun e => by subst e; exact absurd h0 (by decide)
  obtain ⟨n, rfl⟩ : ∃ n', n = n' + 1 := ⟨n - 1, by omega⟩
  refine rn_ifSeqP (pt_B (p_cb (a_cons (p_var rfl) (a_cons p_ty a_nil)) (isi_str hs.ty))) (fun h1 => ?_) (fun h1 => rn_nextSeq ?_)
  · cases d with
    | str x => exact rn_retSeqP (p_cb (a_cons (p_and (p_var rfl) fun _ => p_call (a_cons (p_var rfl) a_nil) ⟨_, rfl, hs, rfl⟩) a_nil) int_bl) ⟨rfl, rfl⟩
    | _ => cases h1
  cases d with
  | tup xs =>
    cases m with
    | zero => exact hf.elim
    | succ m =>
    obtain ⟨hl, hx⟩ := hf
    cases xs with
    | nil =>
      refine rn_ifSeqP (pt_or (pt_notP (pt_B (p_cb (a_cons (p_var rfl) (a_cons p_ty a_nil)) (isi_tup hs.ty)))) fun _ => pt_or (c := true) (pt_notP (pt_test (p_chain p_int (p_cb (a_cons (p_var rfl) a_nil) len_tup) rv_intB fun _ => ⟨p_op p_int p_int add_int, rv_intB⟩))) fun h => ?_) (fun _ => rn_retSeqP p_int ⟨rfl, rfl⟩) (fun h => ?_)
      · cases h
      · cases h
    | cons hd ps =>
      have hh := (hx hd List.mem_cons_self).short
      refine rn_ifSeqP (pt_or (pt_notP (pt_B (p_cb (a_cons (p_var rfl) (a_cons p_ty a_nil)) (isi_tup hs.ty)))) fun _ => pt_or (pt_notP (pt_test (p_chain p_int (p_cb (a_cons (p_var rfl) a_nil) len_tup) rv_intB fun _ => ⟨p_op p_int p_int add_int, rv_intB⟩))) fun _ => pt_notP (pt_B (p_call (a_cons (p_op (p_var rfl) p_int (at_tup at0)) a_nil) ⟨hd, rfl, hh, rfl⟩))) (fun hc => rn_retSeqP p_int ⟨?_, rfl⟩) (fun hc => rn_nextSeq ?_)
      · have e : (decide (ps.length ≤ 3) && isName hd) = false := by
          simp [isTup] at hc
          cases hq : isName hd with
          | false => simp
          | true =>
            simp [hq] at hc
            simp
            omega
        show D.int 0 = D.int (if (decide (ps.length ≤ 3) && isName hd) = true then _ else 0)
        rw [e]
        rfl
      · have e : (decide (ps.length ≤ 3) && isName hd) = true := by
          simp [isTup] at hc
          rw [hc.2]
          simp
          omega
        have hp : ∀ x, x ∈ ps → fit m x := fun x hxp => hx x (List.mem_cons_of_mem _ hxp)
        have hpl : ps.length < sizeLine := small (by rw [List.length_cons] at hl; omega)
        refine rn_star2P (p_var rfl) ?_
        refine rn_setP (p_is (p_lcm (fun x => D.int (meas b n x)) (it_lst (p_var rfl)) (by simp) hpl fun x hxp => p_callN (es := [.bl b]) (a_cons (p_var rfl) (a_cons (p_op (p_var rfl) p_int rv_int) a_nil)) (a_cons (p_var rfl) a_nil) rfl rfl ⟨x, n, b, m, ?_, by omega, hp x hxp, rfl⟩) (congrArg D.lst (show ps.map (fun x => D.int (meas b n x)) = (ps.map (meas b n)).map D.int by rw [List.map_map]; rfl))) ?_
        · have e1 : (((n + 1 : Nat)) : Int) - 1 = (n : Int) := by omega
          rw [e1]
          rfl
        refine rn_retP (d := D.int (meas b (n + 1) (.tup (hd :: ps)))) ?_ ⟨rfl, rfl⟩
        have e2 : meas b (n + 1) (.tup (hd :: ps)) = if (ps.map (meas b n)).contains 0 = true then 0 else 1 + (ps.map (meas b n)).sum := by
          show (if (decide (ps.length ≤ 3) && isName hd) = true then _ else 0) = _
          rw [e]
          rfl
        rw [e2]
        refine p_if (pt_test (p_op p_int (p_var rfl) in_ints)) (fun h => p_is p_int (by rw [h]; rfl)) (fun h => p_is (p_op p_int (p_cb (a_cons (p_var rfl) a_nil) sum_ints) add_int) (by rw [h]; rfl))
  | str x => cases h1
  | ref a => exact hs.elim
  | ty a => exact hs.elim
  | _ =>
    refine rn_ifSeqP (pt_or (c := true) (pt_notP (pt_B (p_cb (a_cons (p_var rfl) (a_cons p_ty a_nil)) (isi_tup hs.ty)))) fun h => ?_) (fun _ => rn_retSeqP p_int ⟨rfl, rfl⟩) (fun h => ?_)
    · cases h
    · cases h
def Rterm (b : Bool) (ds : List D) (z : D) : Prop := ∃ d m, ds = [d] ∧ fit m d ∧ z = .bl (decide ((1 : Int) ≤ meas b 5 d) && decide (meas b 5 d ≤ 30))
theorem run_is_term {K : PySem.W.Frag} (ds : List D) (z : D) (h : Rterm false ds z) : RnP (t_is_term K (spP (Rmeas 6))) (startD N_is_term ds) z := fun τ J s => by
  obtain ⟨d, m, rfl, hf, rfl⟩ := h
  exact rn_retP (p_chain p_int (p_callN (es := [.bl false]) (a_cons (p_var rfl) (a_cons p_int a_nil)) (a_cons p_bl a_nil) rfl rfl ⟨d, 5, false, m, rfl, by omega, hf, rfl⟩) rv_intB fun _ => ⟨p_int, rv_intB⟩) ⟨rfl, rfl⟩
theorem run_is_pattern {K : PySem.W.Frag} (ds : List D) (z : D) (h : Rterm true ds z) : RnP (t_is_pattern K (spP (Rmeas 6))) (startD N_is_pattern ds) z := fun τ J s => by
  obtain ⟨d, m, rfl, hf, rfl⟩ := h
  exact rn_retP (p_chain p_int (p_callN (es := [.bl true]) (a_cons (p_var rfl) (a_cons p_int a_nil)) (a_cons p_bl a_nil) rfl rfl ⟨d, 5, true, m, rfl, by omega, hf, rfl⟩) rv_intB fun _ => ⟨p_int, rv_intB⟩) ⟨rfl, rfl⟩

/-! ### the law's own walk -/
def lettersL (x : Str) (m : Int) : Bool := (decide ((0 : Int) < (x.length : Int)) && decide ((x.length : Int) ≤ m)) && (x.cps.toList.filter fun c => !isLet c).isEmpty
theorem lettersL_eq (x : Str) (m : Int) : lettersL x m = lettersOk x m := by
  unfold lettersL lettersOk
  have e1 : decide ((0 : Int) < (x.length : Int)) = decide ((1 : Int) ≤ (x.length : Int)) := decide_eq_decide.mpr (by omega)
  have e2 : ∀ l : List Nat, (l.filter fun c => !isLet c).isEmpty = (l.map isLet).all id := by
    intro l
    induction l with
    | nil => rfl
    | cons c l ih =>
      rw [List.filter_cons, List.map_cons, List.all_cons]
      cases h : isLet c with
      | true => simpa using ih
      | false => simp
  rw [e1, e2]
theorem plains_signs : ∀ l : List Nat, (∀ c ∈ l, c < 0x110000) → plains (l.map fun c => D.str ⟨#[c]⟩) = true
  | [], _ => by simp [plains]
  | c :: l, h => by
    have h1 : PyData.strOk ⟨#[c]⟩ = true := by
      have := h c List.mem_cons_self
      simp [PyData.strOk, this]
    have h2 := plains_signs l fun c hc => h c (List.mem_cons_of_mem _ hc)
    simp only [List.map_cons, plains, DL.plain, h1, h2, Bool.and_self]
theorem deep_signs : ∀ l : List Nat, deepDs (l.map fun c => D.str ⟨#[c]⟩) = 0
  | [] => by simp [deepDs]
  | c :: l => by simp [deepDs, deepD, deep_signs l]
theorem eqD_nil (ds : List D) : eqD (.lst ds) (.lst []) = ds.isEmpty := by
  cases ds <;> simp [eqD, toPy, toPys, PyData.eqv, PyData.eqvAll]
theorem strOk_mem {x : Str} (h : PyData.strOk x = true) : ∀ c ∈ x.cps.toList, c < 0x110000 := by
  intro c hc
  unfold PyData.strOk at h
  rw [Array.all_eq_true_iff_forall_mem] at h
  simpa using h c (by simpa using hc)
theorem cmpOk_nil : cmpOk (.lst []) := ⟨by simp [DL.plain, plains], by simp [deepD, deepDs]⟩
def sgP : D → Bool
  | .str y => !isLet (y.cps.toList.headD 0)
  | _ => false
def RlettersL (ds : List D) (z : D) : Prop := ∃ x m, ds = [.str x, .int m] ∧ x.length < sizeLine ∧ PyData.strOk x = true ∧ z = .bl (lettersL x m)
theorem run_letters {K : PySem.W.Frag} (ds : List D) (z : D) (h : RlettersL ds z) : RnP (t__law_letters K) (startD N__law_letters ds) z := fun τ J s => by
  obtain ⟨x, m, rfl, hx, ho, rfl⟩ := h
  have hl : x.length ≤ sizeLine := Nat.le_of_lt hx
  have e0 : ((signs x).filter sgP).map id = (x.cps.toList.filter fun c => !isLet c).map fun c => D.str ⟨#[c]⟩ := by
    unfold signs
    rw [List.map_id, List.filter_map]
    rfl
  refine rn_retP (d := .bl (lettersL x m)) ?_ ⟨rfl, rfl⟩
  refine p_and (p_chain p_int (p_cb (a_cons (p_var rfl) a_nil) (len_str hl)) rv_intB (fun _ => ⟨p_var rfl, rv_intB⟩)) fun _ => ?_
  refine p_is (p_op (p_is (p_lc sgP id (it_str (p_var rfl)) (by simp) (by rw [signs_len]; exact hx) (fun d hd => ?_) (fun d hd _ => p_var rfl)) (congrArg D.lst e0)) (p_lst a_nil (Nat.zero_le _)) (eq_deep ⟨?_, ?_⟩ cmpOk_nil)) ?_
  · obtain ⟨c, hc, rfl⟩ := mem_signs hd
    exact pt_test (p_op (p_var rfl) p_str notIn_sign)
  · simp only [DL.plain]
    exact plains_signs _ fun c hc => strOk_mem ho c (List.mem_filter.mp hc).1
  · simp [deepD, deep_signs]
  · rw [eqD_nil]
    simp
/-- whether it has the shape of a pattern, or of a term -/
def shp (b : Bool) : Nat → D → Bool
  | 0 => fun d => match d with
    | .str x => b && isHole (.str x)
    | _ => false
  | n + 1 => fun d => match d with
    | .str x => b && isHole (.str x)
    | .tup (.str h :: ps) => decide (ps.length ≤ 3) && (lettersL h 8 && (ps.map (shp b n)).all id)
    | _ => false
theorem cutS_ok {x : Str} {lo hi : Option Int} (h : PyData.strOk x = true) : PyData.strOk (cutS x lo hi) = true := by
  unfold PyData.strOk
  rw [Array.all_eq_true_iff_forall_mem]
  intro c hc
  have h1 : c ∈ x.cps.toList := by
    unfold cutS at hc
    have h2 : c ∈ (x.cps.toList.drop (HT.sIx x.length 0 lo)).take (HT.sIx x.length x.length hi - HT.sIx x.length 0 lo) := by simpa using hc
    exact List.mem_of_mem_drop (List.mem_of_mem_take h2)
  simpa using strOk_mem h c h1
theorem cut1 {x : D} {xs : List D} : cutD (x :: xs) (some 1) none = xs := by
  unfold cutD
  have e1 : HT.sIx (x :: xs).length 0 (some 1) = 1 := by
    have := HT.sIx_nat (x :: xs).length 0 1
    rw [show ((1 : Nat) : Int) = 1 from rfl] at this
    rw [this, List.length_cons]
    omega
  rw [e1]
  show List.take ((x :: xs).length - 1) xs = xs
  simp
def Rshp (L : Nat) (ds : List D) (z : D) : Prop := ∃ d n b, ds = [d, .bl b] ∧ n < L ∧ fit n d ∧ z = .bl (shp b n d)
theorem shp_str (b : Bool) (n : Nat) (x : Str) : shp b n (.str x) = (b && isHole (.str x)) := by cases n <;> rfl
theorem run_shape {K : PySem.W.Frag} {L : Nat} (ds : List D) (z : D) (h : Rshp (L + 1) ds z) : RnP (t__law_shape K (spP RlettersL) (spP (Rshp L))) (startD N__law_shape ds) z := fun τ J s => by
  obtain ⟨d, n, b, rfl, hn, hf, rfl⟩ := h
  have hs := hf.short
  refine rn_ifSeqP (pt_B (p_cb (a_cons (p_var rfl) (a_cons p_ty a_nil)) (isi_str hs.ty))) (fun h1 => ?_) (fun h1 => rn_nextSeq ?_)
  · cases d with
    | str x =>
      have hl : x.length ≤ sizeLine := Nat.le_of_lt hs.1
      refine rn_retSeqP (p_and (p_var rfl) fun _ => p_and (p_op (p_slice (p_var rfl) o_none (o_some p_int) (cut_str hl)) p_str eq_str) fun _ =>
        p_call (a_cons (p_slice (p_var rfl) (o_some p_int) o_none (cut_str hl)) (a_cons p_int a_nil)) ⟨_, 4, rfl, Nat.lt_of_le_of_lt (cutS_length x _ _) hs.1, cutS_ok hs.2, rfl⟩) ⟨?_, rfl⟩
      rw [shp_str, lettersL_eq]
      rfl
    | _ => cases h1
  cases d with
  | tup xs =>
    cases n with
    | zero => exact hf.elim
    | succ n =>
    obtain ⟨hl, hx⟩ := hf
    cases xs with
    | nil =>
      refine rn_ifSeqP (pt_or (pt_notP (pt_B (p_cb (a_cons (p_var rfl) (a_cons p_ty a_nil)) (isi_tup hs.ty)))) fun _ => pt_or (c := true) (pt_notP (pt_test (p_chain p_int (p_cb (a_cons (p_var rfl) a_nil) len_tup) rv_intB fun _ => ⟨p_int, rv_intB⟩))) fun h => ?_) (fun _ => rn_retSeqP p_bl ⟨rfl, rfl⟩) (fun h => ?_)
      · cases h
      · cases h
    | cons hd ps =>
      have hh := (hx hd List.mem_cons_self).short
      have hp : ∀ x, x ∈ ps → fit n x := fun x hxp => hx x (List.mem_cons_of_mem _ hxp)
      have hpl : ps.length < sizeLine := small (by rw [List.length_cons] at hl; omega)
      refine rn_ifSeqP (pt_or (pt_notP (pt_B (p_cb (a_cons (p_var rfl) (a_cons p_ty a_nil)) (isi_tup hs.ty)))) fun _ => pt_or (pt_notP (pt_test (p_chain p_int (p_cb (a_cons (p_var rfl) a_nil) len_tup) rv_intB fun _ => ⟨p_int, rv_intB⟩))) fun _ => pt_notP (pt_B (p_cb (a_cons (p_op (p_var rfl) p_int (at_tup at0)) (a_cons p_ty a_nil)) (isi_str hh.ty)))) (fun hc => rn_retSeqP p_bl ⟨?_, rfl⟩) (fun hc => rn_nextSeq ?_)
      · cases hd with
        | str y =>
          simp [isTup, isStr] at hc
          have e : decide (ps.length ≤ 3) = false := by simp; omega
          show D.bl false = D.bl (decide (ps.length ≤ 3) && _)
          rw [e]
          rfl
        | _ => rfl
      · cases hd with
        | str y =>
          simp [isTup, isStr] at hc
          have e : decide (ps.length ≤ 3) = true := by simp; omega
          have e3 : shp b (n + 1) (.tup (.str y :: ps)) = (lettersL y 8 && (ps.map (shp b n)).all id) := by
            show (decide (ps.length ≤ 3) && _) = _
            rw [e]
            rfl
          rw [e3]
          refine rn_retP (p_and (p_call (a_cons (p_op (p_var rfl) p_int (at_tup at0)) (a_cons p_int a_nil)) ⟨y, 8, rfl, hh.1, hh.2, rfl⟩) fun _ => p_cb (a_cons (p_is (p_lcm (fun x => D.bl (shp b n x)) (it_tup (p_is (p_slice (p_var rfl) (o_some p_int) o_none cut_tup) (congrArg D.tup cut1))) (by simp) hpl fun x hxp => p_call (a_cons (p_var rfl) (a_cons (p_var rfl) a_nil)) ⟨x, n, b, rfl, by omega, hp x hxp, rfl⟩) (congrArg D.lst (show ps.map (fun x => D.bl (shp b n x)) = (ps.map (shp b n)).map D.bl by rw [List.map_map]; rfl))) a_nil) all_bls) ⟨rfl, rfl⟩
        | _ => simp [isTup, isStr] at hc
  | str x => cases h1
  | ref a => exact hs.elim
  | ty a => exact hs.elim
  | _ =>
    refine rn_ifSeqP (pt_or (c := true) (pt_notP (pt_B (p_cb (a_cons (p_var rfl) (a_cons p_ty a_nil)) (isi_tup hs.ty)))) fun h => ?_) (fun _ => rn_retSeqP p_bl ⟨?_, rfl⟩) (fun h => ?_)
    · cases h
    · cases n <;> rfl
    · cases h

/-- sizes and depths of what has the shape -/
def pat : Nat → D → Prop
  | 0 => fun d => match d with
    | .str x => short (.str x)
    | _ => False
  | n + 1 => fun d => match d with
    | .str x => short (.str x)
    | .tup (_ :: ps) => ps.length ≤ 3 ∧ ∀ x, x ∈ ps → pat n x
    | _ => False
def sz : Nat → D → Int
  | 0 => fun _ => 1
  | n + 1 => fun d => match d with
    | .tup (_ :: ps) => 1 + (ps.map (sz n)).sum
    | _ => 1
def dp : Nat → D → Int
  | 0 => fun _ => 1
  | n + 1 => fun d => match d with
    | .tup (_ :: p :: ps) => 1 + maxL ((p :: ps).map (dp n))
    | _ => 1
theorem pat.cases {n : Nat} {d : D} (h : pat n d) : (∃ x, d = .str x ∧ short (.str x)) ∨ ∃ m hd ps, n = m + 1 ∧ d = .tup (hd :: ps) ∧ ps.length ≤ 3 ∧ ∀ x, x ∈ ps → pat m x := by
  cases n with
  | zero => cases d <;> first | exact h.elim | exact .inl ⟨_, rfl, h⟩
  | succ n =>
    cases d with
    | str x => exact .inl ⟨x, rfl, h⟩
    | tup xs =>
      cases xs with
      | nil => exact h.elim
      | cons hd ps => exact .inr ⟨n, hd, ps, rfl, rfl, h.1, h.2⟩
    | _ => exact h.elim
theorem sz_str (n : Nat) (x : Str) : sz n (.str x) = 1 := by cases n <;> rfl
theorem dp_str (n : Nat) (x : Str) : dp n (.str x) = 1 := by cases n <;> rfl
def Rsz (L : Nat) (ds : List D) (z : D) : Prop := ∃ d n, ds = [d] ∧ n < L ∧ pat n d ∧ z = .int (sz n d)
theorem run_size {K : PySem.W.Frag} {L : Nat} (ds : List D) (z : D) (h : Rsz (L + 1) ds z) : RnP (t__law_size K (spP (Rsz L))) (startD N__law_size ds) z := fun τ J s => by
  obtain ⟨d, n, rfl, hn, hp, rfl⟩ := h
  rcases hp.cases with ⟨x, rfl, hs⟩ | ⟨m, hd, ps, rfl, rfl, hl, hx⟩
  · exact rn_ifSeqP (pt_B (p_cb (a_cons (p_var rfl) (a_cons p_ty a_nil)) (isi_str hs.ty))) (fun h1 => rn_retSeqP p_int ⟨by rw [sz_str], rfl⟩) (fun h1 => by cases h1)
  · have hs : short (.tup (hd :: ps)) := trivial
    have hpl : ps.length < sizeLine := small (by omega)
    refine rn_ifSeqP (pt_B (p_cb (a_cons (p_var rfl) (a_cons p_ty a_nil)) (isi_str hs.ty))) (fun h1 => by cases h1) (fun h1 => rn_nextSeq ?_)
    exact rn_retP (p_op p_int (p_cb (a_cons (p_is (p_lcm (fun x => D.int (sz m x)) (it_tup (p_is (p_slice (p_var rfl) (o_some p_int) o_none cut_tup) (congrArg D.tup cut1))) (by simp) hpl fun x hxp => p_call (a_cons (p_var rfl) a_nil) ⟨x, m, rfl, by omega, hx x hxp, rfl⟩) (congrArg D.lst (show ps.map (fun x => D.int (sz m x)) = (ps.map (sz m)).map D.int by rw [List.map_map]; rfl))) a_nil) sum_ints) add_int) ⟨rfl, rfl⟩
def Rdp (L : Nat) (ds : List D) (z : D) : Prop := ∃ d n, ds = [d] ∧ n < L ∧ pat n d ∧ z = .int (dp n d)
theorem run_depth {K : PySem.W.Frag} {L : Nat} (ds : List D) (z : D) (h : Rdp (L + 1) ds z) : RnP (t__law_depth K (spP (Rdp L))) (startD N__law_depth ds) z := fun τ J s => by
  obtain ⟨d, n, rfl, hn, hp, rfl⟩ := h
  rcases hp.cases with ⟨x, rfl, hs⟩ | ⟨m, hd, ps, rfl, rfl, hl, hx⟩
  · exact rn_ifSeqP (pt_or (c := true) (pt_B (p_cb (a_cons (p_var rfl) (a_cons p_ty a_nil)) (isi_str hs.ty))) (fun h => by cases h)) (fun h1 => rn_retSeqP p_int ⟨by rw [dp_str], rfl⟩) (fun h1 => by cases h1)
  · have hs : short (.tup (hd :: ps)) := trivial
    have hpl : ps.length < sizeLine := small (by omega)
    refine rn_ifSeqP (pt_or (pt_B (p_cb (a_cons (p_var rfl) (a_cons p_ty a_nil)) (isi_str hs.ty))) fun _ => pt_test (p_op (p_cb (a_cons (p_var rfl) a_nil) len_tup) p_int eq_int)) (fun h1 => rn_retSeqP p_int ?_) (fun h1 => rn_nextSeq ?_)
    · cases ps with
      | nil => exact ⟨rfl, rfl⟩
      | cons p ps =>
        simp [isStr] at h1
        omega
    · cases ps with
      | nil => simp [isStr] at h1
      | cons p ps =>
        exact rn_retP (p_op p_int (p_cb (a_cons (p_is (p_lcm (fun x => D.int (dp m x)) (it_tup (p_is (p_slice (p_var rfl) (o_some p_int) o_none cut_tup) (congrArg D.tup cut1))) (by simp) hpl fun x hxp => p_call (a_cons (p_var rfl) a_nil) ⟨x, m, rfl, by omega, hx x hxp, rfl⟩) (congrArg D.lst (show (p :: ps).map (fun x => D.int (dp m x)) = ((p :: ps).map (dp m)).map D.int by rw [List.map_map]; rfl))) a_nil) (max_ints (by simp))) add_int) ⟨rfl, rfl⟩
theorem shp_pat {b : Bool} : ∀ {n : Nat} {d : D}, fit n d → shp b n d = true → pat n d
  | 0, d, hf, h => by cases d <;> first | exact hf | cases h | exact hf.elim
  | n + 1, d, hf, h => by
    cases d with
    | str x => exact hf
    | tup xs =>
      cases xs with
      | nil => cases h
      | cons hd ps =>
        cases hd with
        | str y =>
          have h' : (decide (ps.length ≤ 3) && (lettersL y 8 && (ps.map (shp b n)).all id)) = true := h
          simp only [Bool.and_eq_true, decide_eq_true_eq] at h'
          refine ⟨h'.1, fun x hx => shp_pat (b := b) (hf.2 x (List.mem_cons_of_mem _ hx)) ?_⟩
          have := List.all_eq_true.mp h'.2.2 (shp b n x) (List.mem_map.mpr ⟨x, hx, rfl⟩)
          exact this
        | _ => cases h
    | _ => cases h
def due (b : Bool) (n : Nat) (d : D) : Bool := shp b n d && (decide (sz n d < 31) && decide (dp n d < 6))
def Rdue (L : Nat) (ds : List D) (z : D) : Prop := ∃ d n b, ds = [d, .bl b] ∧ n < L ∧ fit n d ∧ z = .bl (due b n d)
theorem run_due {K : PySem.W.Frag} {L : Nat} (ds : List D) (z : D) (h : Rdue L ds z) : RnP (t__law_due K (spP (Rshp L)) (spP (Rsz L)) (spP (Rdp L))) (startD N__law_due ds) z := fun τ J s => by
  obtain ⟨d, n, b, rfl, hn, hf, rfl⟩ := h
  refine rn_retP (p_and (p_call (a_cons (p_var rfl) (a_cons (p_var rfl) a_nil)) ⟨d, n, b, rfl, hn, hf, rfl⟩) fun h => p_and (p_op (p_call (a_cons (p_var rfl) a_nil) ⟨d, n, rfl, hn, shp_pat hf h, rfl⟩) p_int rv_intB) fun _ => p_op (p_call (a_cons (p_var rfl) a_nil) ⟨d, n, rfl, hn, shp_pat hf h, rfl⟩) p_int rv_intB) ⟨rfl, rfl⟩

/-! ### both walks tell the same -/
theorem sz_pos : ∀ (n : Nat) (d : D), 1 ≤ sz n d
  | 0, _ => Int.le_refl 1
  | n + 1, d => by
    cases d with
    | tup xs =>
      cases xs with
      | nil => exact Int.le_refl 1
      | cons hd ps =>
        show 1 ≤ 1 + (ps.map (sz n)).sum
        have : ∀ l : List D, 0 ≤ (l.map (sz n)).sum := by
          intro l
          induction l with
          | nil => exact Int.le_refl 0
          | cons a l ih =>
            rw [List.map_cons, List.sum_cons]
            have := sz_pos n a
            omega
        have := this ps
        omega
    | _ => exact Int.le_refl 1
theorem dp_pos : ∀ (n : Nat) (d : D), 1 ≤ dp n d
  | 0, _ => Int.le_refl 1
  | n + 1, d => by
    cases d with
    | tup xs =>
      cases xs with
      | nil => exact Int.le_refl 1
      | cons hd ps =>
        cases ps with
        | nil => exact Int.le_refl 1
        | cons p ps =>
          show 1 ≤ 1 + maxL ((p :: ps).map (dp n))
          have := (maxL_mem (ns := (p :: ps).map (dp n)) (by simp)).2 (dp n p) (by simp)
          have := dp_pos n p
          omega
    | _ => exact Int.le_refl 1
theorem meas_eq (b : Bool) : ∀ (k n : Nat) (d : D), fit n d → meas b k d = if shp b n d = true ∧ dp n d ≤ (k : Int) then sz n d else 0
  | 0, n, d, hf => by
    have h1 := dp_pos n d
    rw [if_neg (by omega)]
    rfl
  | k + 1, n, d, hf => by
    cases d with
    | str x =>
      rw [shp_str, sz_str, dp_str]
      show (if (b && isHole (.str x)) = true then (1 : Int) else 0) = _
      by_cases h : (b && isHole (.str x)) = true
      · rw [if_pos h, if_pos ⟨h, by omega⟩]
      · rw [if_neg h, if_neg (fun q => h q.1)]
    | tup xs =>
      cases n with
      | zero => exact hf.elim
      | succ n =>
      cases xs with
      | nil => rfl
      | cons hd ps =>
        cases hd with
        | str y =>
          have hp : ∀ x, x ∈ ps → fit n x := fun x hxp => hf.2 x (List.mem_cons_of_mem _ hxp)
          have ih : ∀ x, x ∈ ps → meas b k x = if shp b n x = true ∧ dp n x ≤ (k : Int) then sz n x else 0 := fun x hx => meas_eq b k n x (hp x hx)
          have e1 : isName (.str y) = lettersL y 8 := by rw [lettersL_eq]; rfl
          show (if (decide (ps.length ≤ 3) && isName (.str y)) = true then (if (ps.map (meas b k)).contains 0 = true then (0 : Int) else 1 + (ps.map (meas b k)).sum) else 0)
            = if (decide (ps.length ≤ 3) && (lettersL y 8 && (ps.map (shp b n)).all id)) = true ∧ dp (n + 1) (.tup (.str y :: ps)) ≤ ((k + 1 : Nat) : Int) then 1 + (ps.map (sz n)).sum else 0
          rw [e1]
          by_cases h0 : (decide (ps.length ≤ 3) && lettersL y 8) = true
          · rw [if_pos h0]
            simp only [Bool.and_eq_true] at h0
            have hd' : dp (n + 1) (.tup (.str y :: ps)) ≤ ((k + 1 : Nat) : Int) ↔ ∀ x, x ∈ ps → dp n x ≤ (k : Int) := by
              cases ps with
              | nil =>
                constructor
                · intro _ x hx; cases hx
                · intro _
                  show (1 : Int) ≤ _
                  omega
              | cons p ps =>
                have hm := maxL_mem (ns := (p :: ps).map (dp n)) (by simp)
                constructor
                · intro h x hx
                  have h' : 1 + maxL ((p :: ps).map (dp n)) ≤ ((k + 1 : Nat) : Int) := h
                  have := hm.2 (dp n x) (List.mem_map.mpr ⟨x, hx, rfl⟩)
                  omega
                · intro h
                  obtain ⟨x, hx, e⟩ := List.mem_map.mp hm.1
                  have := h x hx
                  show 1 + maxL ((p :: ps).map (dp n)) ≤ ((k + 1 : Nat) : Int)
                  omega
            by_cases h1 : ∀ x, x ∈ ps → shp b n x = true ∧ dp n x ≤ (k : Int)
            · have e2 : ps.map (meas b k) = ps.map (sz n) := List.map_congr_left fun x hx => by rw [ih x hx, if_pos (h1 x hx)]
              have e3 : (ps.map (meas b k)).contains 0 = false := by
                rw [e2]
                cases hc : (ps.map (sz n)).contains 0 with
                | false => rfl
                | true =>
                  have := List.contains_iff_mem.mp hc
                  obtain ⟨x, hx, e⟩ := List.mem_map.mp this
                  have := sz_pos n x
                  omega
              have e4 : (ps.map (shp b n)).all id = true := List.all_eq_true.mpr fun q hq => by
                obtain ⟨x, hx, e⟩ := List.mem_map.mp hq
                rw [← e]
                exact (h1 x hx).1
              rw [e3, e2, if_neg Bool.false_ne_true, if_pos]
              refine ⟨?_, hd'.mpr fun x hx => (h1 x hx).2⟩
              simp only [Bool.and_eq_true]
              exact ⟨h0.1, h0.2, e4⟩
            · have e3 : (ps.map (meas b k)).contains 0 = true := by
                refine List.contains_iff_mem.mpr ?_
                obtain ⟨x, hx⟩ := Classical.not_forall.mp h1
                obtain ⟨hx, hx2⟩ := Classical.not_imp.mp hx
                exact List.mem_map.mpr ⟨x, hx, by rw [ih x hx, if_neg hx2]⟩
              rw [if_pos e3, if_neg]
              intro ⟨q1, q2⟩
              simp only [Bool.and_eq_true] at q1
              refine h1 fun x hx => ⟨?_, hd'.mp q2 x hx⟩
              exact List.all_eq_true.mp q1.2.2 (shp b n x) (List.mem_map.mpr ⟨x, hx, rfl⟩)
          · rw [if_neg h0, if_neg]
            intro ⟨q1, _⟩
            simp only [Bool.and_eq_true] at q1 h0
            exact h0 ⟨q1.1, q1.2.1⟩
        | _ =>
          show (if (decide (ps.length ≤ 3) && false) = true then _ else (0 : Int)) = _
          rw [Bool.and_false, if_neg Bool.false_ne_true, if_neg]
          intro q
          exact absurd q.1 Bool.false_ne_true
    | _ =>
      show (0 : Int) = _
      rw [if_neg]
      intro q
      cases n <;> exact absurd q.1 Bool.false_ne_true
theorem both_same (b : Bool) {n : Nat} {d : D} (hf : fit n d) : (decide ((1 : Int) ≤ meas b 5 d) && decide (meas b 5 d ≤ 30)) = due b n d := by
  rw [meas_eq b 5 n d hf]
  have h1 := sz_pos n d
  unfold due
  by_cases h : shp b n d = true ∧ dp n d ≤ ((5 : Nat) : Int)
  · rw [if_pos h, h.1]
    have e1 : decide ((1 : Int) ≤ sz n d) = true := decide_eq_true h1
    have e2 : decide (dp n d < 6) = true := decide_eq_true (by have := h.2; omega)
    have e3 : decide (sz n d ≤ 30) = decide (sz n d < 31) := decide_eq_decide.mpr (by omega)
    rw [e1, e2, e3]
    simp
  · rw [if_neg h]
    have e1 : decide ((1 : Int) ≤ 0) = false := by decide
    rw [e1, Bool.false_and]
    cases hs : shp b n d with
    | false => rfl
    | true =>
      have e2 : decide (dp n d < 6) = false := decide_eq_false (fun q => h ⟨hs, by omega⟩)
      rw [e2]
      simp
end K01

set_option Elab.async false
set_option linter.all false
set_option maxRecDepth 100000
set_option maxHeartbeats 4000000
namespace K01
open PySem L2 DL
/-! ### names and holes that are drawn -/
def allLet (x : Str) : Prop := ∀ c, c ∈ x.cps.toList → isLet c = true
theorem app_toList (x y : Str) : (x ++ y).cps.toList = x.cps.toList ++ y.cps.toList := by
  show (x.cps ++ y.cps).toList = _
  rw [Array.toList_append]
theorem app_length (x y : Str) : (x ++ y).length = x.length + y.length := by
  show (x.cps ++ y.cps).size = _
  rw [Array.size_append]
  rfl
theorem lets_length : lets.length = 26 := by decide +kernel
theorem lets_list : (lets.cps.toList.length : Int) = 26 := by decide +kernel
theorem lettersOk_of {x : Str} {m : Int} (h1 : 1 ≤ x.length) (h2 : (x.length : Int) ≤ m) (h : allLet x) : lettersOk x m = true := by
  unfold lettersOk
  rw [decide_eq_true (by omega), decide_eq_true h2]
  simp only [Bool.and_self, Bool.true_and]
  exact List.all_eq_true.mpr fun b hb => by
    obtain ⟨c, hc, rfl⟩ := List.mem_map.mp hb
    exact h c hc
theorem of_lettersOk {x : Str} {m : Int} (h : lettersOk x m = true) : 1 ≤ x.length ∧ (x.length : Int) ≤ m ∧ allLet x := by
  unfold lettersOk at h
  simp only [Bool.and_eq_true, decide_eq_true_eq] at h
  refine ⟨by omega, h.1.2, fun c hc => ?_⟩
  exact List.all_eq_true.mp h.2 (isLet c) (List.mem_map.mpr ⟨c, hc, rfl⟩)
theorem isLet_small {c : Nat} (h : isLet c = true) : c < 0x110000 := by
  have h' : c ∈ lets.cps.toList := of_decide_eq_true h
  have all : ∀ c, c ∈ lets.cps.toList → c < 0x110000 := by decide +kernel
  exact all c h'
theorem strOk_of {x : Str} (h : ∀ c, c ∈ x.cps.toList → c < 0x110000) : PyData.strOk x = true := by
  unfold PyData.strOk
  rw [Array.all_eq_true_iff_forall_mem]
  intro c hc
  simpa using h c (by simpa using hc)
def isWord (d : D) : Prop := ∃ x, d = .str x ∧ lettersOk x 8 = true
theorem isWord.short {d : D} (h : isWord d) : short d := by
  obtain ⟨x, rfl, h⟩ := h
  obtain ⟨h1, h2, h3⟩ := of_lettersOk h
  exact ⟨by rw [sizeLine_eq]; omega, strOk_of fun c hc => isLet_small (h3 c hc)⟩
def isHoleD (d : D) : Prop := ∃ x, d = .str x ∧ x.length ≤ 5 ∧ isHole (.str x) = true
def Rword (ds : List D) (P : D → Prop) : Prop := ds = [] ∧ P = isWord
theorem words_ok : ∀ x, x ∈ (["a", "b", "f", "g"] : List Str) → lettersOk x 8 = true := by decide +kernel
theorem words_ok2 : ∀ x, x ∈ (["told", "back", "then", "parts", "same", "like", "put", "rule", "hole", "z"] : List Str) → lettersOk x 8 = true := by decide +kernel
theorem pick_strs {xs : List Str} {Q : Str → Prop} (h : ∀ x, x ∈ xs → Q x) {d : D} (hd : d ∈ xs.map D.str) : ∃ x, d = .str x ∧ Q x := by
  obtain ⟨x, hx, rfl⟩ := List.mem_map.mp hd
  exact ⟨x, rfl, h x hx⟩
/-- the loop that puts letters behind one another: slot j -/
theorem letters_loop {K : PySem.W.Frag} {a : Addr} {δ : DL.Env} {j q : Nat} {n : Int} {w0 : Str} {Po : PostD} (h0 : δ[0]? = some (some (.ref a))) (hj : δ[j]? = some (some (.str w0))) (hj0 : j ≠ 0) (hq0 : q ≠ 0) (hqj : q ≠ j) (hn : 0 < n) (hn2 : n ≤ 100)
    (hw : w0.length ≤ 100) (hd : ∀ δ' x, allLet x → 1 ≤ x.length → (x.length : Int) ≤ n → δ'[j]? = some (some (.str (w0 ++ x))) → Po.nx δ') :
    RnD a (tFor (iRng1 (tCons (tOp (rAddA K) (tC (.int 1)) (tCall (spD Rtake) [] E0 (tCons (tVar 0) (tCons (tC (.int n)) tNil)))) tNil)) (gName q) (tAsg (tOp (rAddA K) (tVar j) (tOp (rIx K) (tC (.str "abcdefghijklmnopqrstuvwxyz")) (tCall (spD Rtake) [] E0 (tCons (tVar 0) (tCons (tC (.int 26)) tNil))))) (gName j))) δ Po := by
  refine r_for (A := fun xs => ∃ m : Int, xs = rng m.toNat ∧ 1 ≤ m ∧ m ≤ n) ?_ (fun i δ' => ∃ x, allLet x ∧ x.length = i ∧ δ'[0]? = some (some (.ref a)) ∧ δ'[j]? = some (some (.str (w0 ++ x))) ∧ δ'.length = δ.length) ⟨⟨#[]⟩, fun c hc => by simp at hc, rfl, h0, ?_, rfl⟩ (fun xs i x δ' ⟨m, e, h1, h2⟩ hx ⟨y, hy, hl, g0, gj, gl⟩ => ?_) (fun xs δ' ⟨m, e, h1, h2⟩ ⟨y, hy, hl, g0, gj, gl⟩ => ?_)
  · refine itd_rng (N := fun m => 1 ≤ m ∧ m ≤ n) (da_cons (P1 := fun d => ∃ m, d = .int m ∧ 1 ≤ m ∧ m ≤ n) ?_ fun d ⟨m, e, h1, h2⟩ => da_nil ⟨m, by rw [e], by omega, by omega, h1, h2⟩)
    refine d_op (P2 := fun d e => d = .int 1 ∧ ∃ i, e = .int i ∧ 0 ≤ i ∧ i < n) (EvP.eqD p_int) (fun d hd => ?_) (fun d e ⟨h1, i, h2, h3, h4⟩ => ?_)
    · subst hd
      exact (d_callP (a_cons (p_var h0) (a_cons p_int a_nil)) ⟨n, rfl, hn, by omega, rfl⟩).imp fun d ⟨i, h⟩ => ⟨rfl, i, h⟩
    · subst h1; subst h2
      exact ⟨_, add_int, 1 + i, rfl, by omega, by omega⟩
  · rw [hj]
    have : w0 ++ (⟨#[]⟩ : Str) = w0 := by
      show (⟨w0.cps ++ #[]⟩ : Str) = w0
      rw [Array.append_empty]
    rw [this]
  · subst e
    obtain ⟨hi, _⟩ := rng_get hx
    have q0 : (δ'.set q (some x))[0]? = some (some (.ref a)) := by rw [List.getElem?_set_ne hq0]; exact g0
    have qj : (δ'.set q (some x))[j]? = some (some (.str (w0 ++ y))) := by rw [List.getElem?_set_ne hqj]; exact gj
    have hjl : j < (δ'.set q (some x)).length := (List.getElem?_eq_some_iff.mp qj).1
    refine r_set (P := fun d => ∃ c, isLet c = true ∧ d = .str (w0 ++ y ++ ⟨#[c]⟩)) (d_op (P2 := fun d e => d = .str (w0 ++ y) ∧ ∃ c, isLet c = true ∧ e = .str ⟨#[c]⟩) (EvP.eqD (p_var qj)) (fun d hd => ?_) (fun d e ⟨h1, c, h2, h3⟩ => ?_)) (fun d ⟨c, hc, e⟩ => ?_)
    · subst hd
      refine d_op (P2 := fun d e => d = .str "abcdefghijklmnopqrstuvwxyz" ∧ ∃ i, e = .int i ∧ 0 ≤ i ∧ i < 26) (EvP.eqD p_str) (fun d hd => ?_) (fun d e ⟨h1, i, h2, h3, h4⟩ => ?_)
      · subst hd
        exact (d_callP (a_cons (p_var q0) (a_cons p_int a_nil)) ⟨26, rfl, by omega, by omega, rfl⟩).imp fun d ⟨i, h⟩ => ⟨rfl, i, h⟩
      · subst h1; subst h2
        obtain ⟨c, hc, hm⟩ := atI_of (xs := lets.cps.toList) h3 (by rw [lets_list]; exact h4)
        exact ⟨_, at_str (by show lets.length ≤ sizeLine; rw [lets_length, sizeLine_eq]; decide) hc, rfl, c, decide_eq_true hm, rfl⟩
    · subst h1; subst h3
      refine ⟨_, add_str ?_, c, h2, rfl⟩
      rw [app_length, sizeLine_eq]
      show w0.length + y.length + 1 ≤ 16777216
      omega
    · subst e
      refine ⟨y ++ ⟨#[c]⟩, fun c' hc' => ?_, ?_, ?_, ?_, ?_⟩
      · rw [app_toList] at hc'
        rcases List.mem_append.mp hc' with h | h
        · exact hy c' h
        · simp at h
          rw [h]
          exact hc
      · rw [app_length, hl]
        rfl
      · rw [List.getElem?_set_ne hj0]
        exact q0
      · rw [List.getElem?_set_self hjl]
        have : w0 ++ y ++ (⟨#[c]⟩ : Str) = w0 ++ (y ++ (⟨#[c]⟩ : Str)) := by
          show (⟨w0.cps ++ y.cps ++ #[c]⟩ : Str) = ⟨w0.cps ++ (y.cps ++ #[c])⟩
          rw [Array.append_assoc]
        rw [this]
      · rw [List.length_set, List.length_set]
        exact gl
  · subst e
    rw [rng_length] at hl
    exact hd δ' y hy (by omega) (by omega) gj
theorem run_word {K : PySem.W.Frag} (a : Addr) (ds : List D) (P : D → Prop) (h : Rword ds P) : RnD a (t__law_word K (spD Rtake) (spD Rpick)) (startD N__law_word (.ref a :: ds)) { rt := P } := by
  obtain ⟨rfl, rfl⟩ := h
  refine r_setSeq (d_callP (a_cons (p_var rfl) (a_cons p_int a_nil)) ⟨6, rfl, by omega, by omega, rfl⟩) fun d ⟨i, e, hi0, hi1⟩ => ?_
  subst e
  refine r_ifSeq (T := fun _ => True) (EtP.toD (pt_test (p_op (p_var rfl) p_int rv_intB)) trivial) (fun _ => r_retSeq ?_) (fun _ => r_nextSeq ?_)
  · refine (d_callP (P := fun d => d ∈ (["a", "b", "f", "g"] : List Str).map D.str) (a_cons (p_var rfl) (a_cons (p_lst (a_cons p_str (a_cons p_str (a_cons p_str (a_cons p_str a_nil)))) (by rw [sizeLine_eq]; decide)) a_nil)) ⟨_, rfl, by simp, by simp, rfl⟩).imp fun d hd => ?_
    exact pick_strs words_ok hd
  refine r_ifSeq (T := fun _ => True) (EtP.toD (pt_test (p_op (p_var rfl) p_int eq_int)) trivial) (fun _ => r_retSeq ?_) (fun _ => r_nextSeq ?_)
  · refine (d_callP (P := fun d => d ∈ (["told", "back", "then", "parts", "same", "like", "put", "rule", "hole", "z"] : List Str).map D.str) (a_cons (p_var rfl) (a_cons (p_lst (a_cons p_str (a_cons p_str (a_cons p_str (a_cons p_str (a_cons p_str (a_cons p_str (a_cons p_str (a_cons p_str (a_cons p_str (a_cons p_str a_nil)))))))))) (by rw [sizeLine_eq]; decide)) a_nil)) ⟨_, rfl, by simp, by simp, rfl⟩).imp fun d hd => ?_
    exact pick_strs words_ok2 hd
  refine r_setSeq (EvP.eqD p_str) fun d hd => ?_
  subst hd
  refine r_seq (M := fun δ' => ∃ x, lettersOk x 8 = true ∧ δ'[2]? = some (some (.str x))) (letters_loop rfl rfl (by decide) (by decide) (by decide) (by decide) (by decide) (by decide +kernel) fun δ' x h1 h2 h3 h4 => ⟨x, lettersOk_of h2 h3 h1, ?_⟩) fun δ' ⟨x, h1, h2⟩ => r_ret (EvP.toD (p_var h2) ⟨x, rfl, h1⟩)
  rw [h4]
  have : ("" : Str) ++ x = x := by
    show (⟨("" : Str).cps ++ x.cps⟩ : Str) = x
    have e0 : ("" : Str).cps = #[] := by decide +kernel
    rw [e0, Array.empty_append]
  rw [this]

theorem cut_head {x : Str} {c : Nat} {l : List Nat} (h : x.cps.toList = c :: l) : cutS x none (some 1) = ⟨#[c]⟩ := by
  have hx : x.length = l.length + 1 := by
    show x.cps.size = _
    rw [← Array.length_toList, h, List.length_cons]
  unfold cutS
  have e1 : HT.sIx x.length x.length (some 1) = min 1 x.length := HT.sIx_nat _ _ 1
  rw [HT.sIx_none, e1, h, hx]
  have e2 : min 1 (l.length + 1) = 1 := by omega
  rw [e2]
  rfl
theorem cut_tail {x : Str} {c : Nat} {l : List Nat} (h : x.cps.toList = c :: l) : cutS x (some 1) none = ⟨l.toArray⟩ := by
  have hx : x.length = l.length + 1 := by
    show x.cps.size = _
    rw [← Array.length_toList, h, List.length_cons]
  unfold cutS
  have e1 : HT.sIx x.length 0 (some 1) = min 1 x.length := HT.sIx_nat _ _ 1
  rw [HT.sIx_none, e1, h, hx]
  have e2 : min 1 (l.length + 1) = 1 := by omega
  rw [e2]
  show (⟨(List.take (l.length + 1 - 1) l).toArray⟩ : Str) = _
  rw [Nat.add_sub_cancel, List.take_length]
theorem quest : ("?" : Str) = ⟨#[63]⟩ := by decide +kernel
theorem isHole_of {y : Str} (h1 : allLet y) (h2 : 1 ≤ y.length) (h3 : y.length ≤ 4) : isHoleD (.str ("?" ++ y)) := by
  have e : (("?" : Str) ++ y).cps.toList = 63 :: y.cps.toList := by
    rw [app_toList, quest]
    rfl
  refine ⟨_, rfl, ?_, ?_⟩
  · rw [app_length, quest]
    show 1 + y.length ≤ 5
    omega
  · show (decide (cutS (("?" : Str) ++ y) none (some 1) = "?") && lettersOk (cutS (("?" : Str) ++ y) (some 1) none) 4) = true
    rw [cut_head e, cut_tail e, quest]
    have e2 : (⟨y.cps.toList.toArray⟩ : Str) = y := by simp
    rw [e2, lettersOk_of h2 (by omega) h1]
    simp
theorem isHoleD.short {d : D} (h : isHoleD d) : short d := by
  obtain ⟨x, rfl, h1, h2⟩ := h
  refine ⟨by rw [sizeLine_eq]; omega, ?_⟩
  have h2' : (decide (cutS x none (some 1) = "?") && lettersOk (cutS x (some 1) none) 4) = true := h2
  simp only [Bool.and_eq_true, decide_eq_true_eq] at h2'
  refine strOk_of fun c hc => ?_
  cases e : x.cps.toList with
  | nil => rw [e] at hc; cases hc
  | cons c0 l =>
    rw [e] at hc
    have q1 := cut_head e
    have q2 := cut_tail e
    rw [h2'.1, quest] at q1
    have c0' : c0 = 63 := by
      have := congrArg Str.cps q1
      simp at this
      exact this.symm
    rcases List.mem_cons.mp hc with rfl | hc
    · rw [c0']; decide
    · have := (of_lettersOk h2'.2).2.2
      rw [q2] at this
      exact isLet_small (this c (by simpa using hc))
theorem holes_ok : ∀ x, x ∈ (["?x", "?y", "?z"] : List Str) → x.length ≤ 5 ∧ isHole (.str x) = true := by
  intro x hx
  simp at hx
  rcases hx with rfl | rfl | rfl <;> exact ⟨by decide +kernel, by decide +kernel⟩
def Rholes (ds : List D) (P : D → Prop) : Prop := ds = [] ∧ P = isHoleD
theorem run_hole {K : PySem.W.Frag} (a : Addr) (ds : List D) (P : D → Prop) (h : Rholes ds P) : RnD a (t__law_hole K (spD Rtake) (spD Rpick)) (startD N__law_hole (.ref a :: ds)) { rt := P } := by
  obtain ⟨rfl, rfl⟩ := h
  refine r_ifSeq (T := fun _ => True) (dt_test (d_op (P2 := fun d e => ∃ i, d = .int i ∧ e = .int 0) (d_callP (P := fun d => ∃ i, d = .int i ∧ 0 ≤ i ∧ i < 4) (a_cons (p_var rfl) (a_cons p_int a_nil)) ⟨4, rfl, by omega, by omega, rfl⟩) (fun d ⟨i, h, _⟩ => EvP.toD p_int ⟨i, h, rfl⟩) fun d e ⟨i, h1, h2⟩ => ?_)) (fun _ => r_retSeq ?_) (fun _ => r_nextSeq ?_)
  · subst h1; subst h2
    exact ⟨_, rv_intB, _, rfl, trivial⟩
  · refine (d_callP (P := fun d => d ∈ (["?x", "?y", "?z"] : List Str).map D.str) (a_cons (p_var rfl) (a_cons (p_lst (a_cons p_str (a_cons p_str (a_cons p_str a_nil))) (by rw [sizeLine_eq]; decide)) a_nil)) ⟨_, rfl, by simp, by simp, rfl⟩).imp fun d hd => ?_
    obtain ⟨x, rfl, h1, h2⟩ := pick_strs holes_ok hd
    exact ⟨x, rfl, h1, h2⟩
  refine r_setSeq (EvP.eqD p_str) fun d hd => ?_
  subst hd
  exact r_seq (M := fun δ' => ∃ d, isHoleD d ∧ δ'[1]? = some (some d)) (letters_loop rfl rfl (by decide) (by decide) (by decide) (by decide) (by decide) (by decide +kernel) fun δ' x h1 h2 h3 h4 => ⟨_, isHole_of h1 h2 (by omega), h4⟩) fun δ' ⟨x, h1, h2⟩ => r_ret (EvP.toD (p_var h2) h1)
/-! ### patterns that are drawn -/
def gpat (b : Bool) : Nat → D → Prop
  | 0 => fun d => b = true ∧ isHoleD d
  | n + 1 => fun d => (b = true ∧ isHoleD d) ∨ ∃ h ps, d = .tup (h :: ps) ∧ isWord h ∧ ps.length ≤ 3 ∧ ∀ p, p ∈ ps → gpat b n p
theorem fit_str {n : Nat} {x : Str} (h : short (.str x)) : fit n (.str x) := by cases n <;> exact h
theorem isWord.fit {d : D} {n : Nat} (h : isWord d) : fit n d := by
  have hs := h.short
  obtain ⟨x, rfl, _⟩ := h
  exact fit_str hs
theorem isHoleD.fit {d : D} {n : Nat} (h : isHoleD d) : fit n d := by
  have hs := h.short
  obtain ⟨x, rfl, _⟩ := h
  exact fit_str hs
theorem gpat.fit {b : Bool} : ∀ {n : Nat} {d : D}, gpat b n d → fit n d
  | 0, d, h => h.2.fit
  | n + 1, d, h => by
    rcases h with ⟨_, h⟩ | ⟨hd, ps, rfl, hw, hl, hp⟩
    · exact h.fit
    · refine ⟨by rw [List.length_cons]; omega, fun x hx => ?_⟩
      rcases List.mem_cons.mp hx with rfl | hx
      · exact hw.fit
      · exact (hp x hx).fit
def Rpat (L : Nat) (ds : List D) (P : D → Prop) : Prop := ∃ n b, ds = [.int ((n : Nat) : Int), .bl b] ∧ 1 ≤ n ∧ n < L ∧ P = gpat b n
theorem run_pattern {K : PySem.W.Frag} {L : Nat} (a : Addr) (ds : List D) (P : D → Prop) (h : Rpat (L + 1) ds P) : RnD a (t__law_pattern K (spD Rtake) (spD Rholes) (spD Rword) (spD (Rpat L))) (startD N__law_pattern (.ref a :: ds)) { rt := P } := by
  obtain ⟨n, b, rfl, hn0, hn, rfl⟩ := h
  obtain ⟨n, rfl⟩ : ∃ m, n = m + 1 := ⟨n - 1, by omega⟩
  refine r_ifSeq (T := fun c => c = true → b = true) (dt_and (T1 := fun c => c = b) (EtP.toD (pt_B (p_var rfl)) rfl) (fun hb => dt_test (d_op (P2 := fun d e => ∃ i, d = .int i ∧ e = .int 0) (d_callP (P := fun d => ∃ i, d = .int i ∧ 0 ≤ i ∧ i < 4) (a_cons (p_var rfl) (a_cons p_int a_nil)) ⟨4, rfl, by omega, by omega, rfl⟩) (fun d ⟨i, h, _⟩ => EvP.toD p_int ⟨i, h, rfl⟩) fun d e ⟨i, h1, h2⟩ => ?_)) (fun _ h => by cases h)) (fun hb => r_retSeq ?_) (fun _ => r_nextSeq ?_)
  · subst h1; subst h2
    exact ⟨_, eq_int, _, rfl, fun _ => hb.symm⟩
  · exact (d_callP (P := isHoleD) (a_cons (p_var rfl) a_nil) ⟨rfl, rfl⟩).imp fun d hd => .inl ⟨hb rfl, hd⟩
  refine r_setSeq (P := fun d => ∃ m : Int, d = .int m ∧ 0 ≤ m ∧ m ≤ 3 ∧ (0 < m → 1 ≤ n)) (d_if (T := fun c => c = decide (((1 : Int)) < (((n + 1 : Nat)) : Int))) (EtP.toD (pt_test (p_op (p_var rfl) p_int rv_intB)) rfl) (fun hc => ?_) (fun _ => EvP.toD p_int ⟨0, rfl, by omega, by omega, by omega⟩)) fun d ⟨m, e, h0, h3, hm⟩ => ?_
  · have := of_decide_eq_true hc.symm
    exact (d_callP (P := fun d => ∃ i, d = .int i ∧ 0 ≤ i ∧ i < 4) (a_cons (p_var rfl) (a_cons p_int a_nil)) ⟨4, rfl, by omega, by omega, rfl⟩).imp fun d ⟨i, h1, h2, h3⟩ => ⟨i, h1, h2, by omega, fun _ => by omega⟩
  subst e
  refine r_ret (d_then (d_op (P1 := fun d => ∃ w, d = .lst [w] ∧ isWord w) (P2 := fun d e => ∃ w ps, d = .lst [w] ∧ isWord w ∧ e = .lst ps ∧ ps.length ≤ 3 ∧ ∀ p, p ∈ ps → gpat b n p) (d_lst (da_cons (d_callP (P := isWord) (a_cons (p_var rfl) a_nil) ⟨rfl, rfl⟩) fun d hd => da_nil ⟨by rw [sizeLine_eq]; show 1 ≤ 16777216; decide, d, rfl, hd⟩)) (fun d ⟨w, hw, hw'⟩ => ?_) (fun d e ⟨w, ps, h1, h2, h3, h4, h5⟩ => ?_)))
  · refine d_lc (A := fun xs => xs = rng m.toNat) (ItP.toD (it_rng (a_cons (p_var rfl) a_nil) (by omega) (by omega)) rfl) (by simp) (fun xs e => by rw [e, rng_length, sizeLine_eq]; omega) (fun i ds => ds.length = i ∧ ∀ p, p ∈ ds → gpat b n p) ⟨rfl, fun p hp => by cases hp⟩ (fun xs i x ds e hx ⟨hl, hp⟩ => ?_) (fun xs ds e ⟨hl, hp⟩ => ⟨w, ds, hw, hw', rfl, by rw [hl, e, rng_length]; omega, hp⟩)
    subst e
    obtain ⟨hi, _⟩ := rng_get hx
    have hn1 : 1 ≤ n := hm (by omega)
    refine (d_callP (P := gpat b n) (a_cons (p_var rfl) (a_cons (p_is (p_op (p_var rfl) p_int rv_int) (show D.int ((((n + 1 : Nat)) : Int) - 1) = .int ((n : Nat) : Int) by congr 1; omega)) (a_cons (p_var rfl) a_nil))) ⟨n, b, rfl, hn1, by omega, rfl⟩).imp fun d hd => ⟨by rw [List.length_append, hl]; rfl, fun p hp' => ?_⟩
    rcases List.mem_append.mp hp' with h | h
    · exact hp p h
    · rw [List.mem_singleton.mp h]
      exact hd
  · subst h1; subst h3
    refine ⟨_, add_lst (by rw [sizeLine_eq]; show 1 + ps.length ≤ 16777216; omega), _, tuple_lst, .inr ⟨w, ps, rfl, h2, h4, h5⟩⟩

/-! ### things otherwise -/
theorem gpat.cases {b : Bool} {n : Nat} {d : D} (h : gpat b n d) : (∃ x, d = .str x ∧ short (.str x)) ∨ ∃ m hd ps, n = m + 1 ∧ d = .tup (hd :: ps) ∧ isWord hd ∧ ps.length ≤ 3 ∧ ∀ p, p ∈ ps → gpat b m p := by
  cases n with
  | zero =>
    have hs := h.2.short
    obtain ⟨x, rfl, _⟩ := h.2
    exact .inl ⟨x, rfl, hs⟩
  | succ n =>
    rcases h with ⟨_, h⟩ | ⟨hd, ps, rfl, hw, hl, hp⟩
    · have hs := h.short
      obtain ⟨x, rfl, _⟩ := h
      exact .inl ⟨x, rfl, hs⟩
    · exact .inr ⟨n, hd, ps, rfl, rfl, hw, hl, hp⟩
def Rodd (ds : List D) (P : D → Prop) : Prop := ∃ d n b, ds = [d] ∧ gpat b n d ∧ P = fit (n + 2)
def odds : List D := [.non, .int 0, .bl true, .str "", .str "?", .str "?A", .str "?abcde", .str "a", .str "A", .tup [], .lst [], .lst [.str "a"], .tup [.str ""], .tup [.str "abcdefghi"], .tup [.str "?x"], .tup [.int 1], .dct []]
theorem short_lit (x : Str) (h : (decide (x.length < 1000) && PyData.strOk x) = true) : short (.str x) := by
  simp only [Bool.and_eq_true, decide_eq_true_eq] at h
  exact ⟨by rw [sizeLine_eq]; omega, h.2⟩
theorem fit_tup1 {n : Nat} {d : D} (h : fit n d) : fit (n + 1) (.tup [d]) := ⟨by simp, fun x hx => by rw [List.mem_singleton.mp hx]; exact h⟩
theorem odds_fit {n : Nat} : ∀ d, d ∈ odds → fit (n + 2) d := by
  intro d hd
  unfold odds at hd
  simp only [List.mem_cons, List.not_mem_nil, or_false] at hd
  rcases hd with rfl | rfl | rfl | rfl | rfl | rfl | rfl | rfl | rfl | rfl | rfl | rfl | rfl | rfl | rfl | rfl | rfl
  · trivial
  · trivial
  · trivial
  · exact short_lit _ (by decide +kernel)
  · exact short_lit _ (by decide +kernel)
  · exact short_lit _ (by decide +kernel)
  · exact short_lit _ (by decide +kernel)
  · exact short_lit _ (by decide +kernel)
  · exact short_lit _ (by decide +kernel)
  · exact ⟨by simp, fun x hx => by cases hx⟩
  · trivial
  · trivial
  · exact fit_tup1 (fit_str (short_lit _ (by decide +kernel)))
  · exact fit_tup1 (fit_str (short_lit _ (by decide +kernel)))
  · exact fit_tup1 (fit_str (short_lit _ (by decide +kernel)))
  · exact fit_tup1 trivial
  · trivial
theorem sl1 {n : Nat} (h : n ≤ 1000) : n ≤ sizeLine := Nat.le_of_lt (small h)
theorem run_odd {K : PySem.W.Frag} (a : Addr) (ds : List D) (P : D → Prop) (h : Rodd ds P) : RnD a (t__law_odd K (spD Rtake) (spD Rpick)) (startD N__law_odd (.ref a :: ds)) { rt := P } := by
  obtain ⟨d, n, b, rfl, hg, rfl⟩ := h
  have hf := hg.fit
  have hs := hf.short
  refine r_setSeq (P := (· = .lst odds)) (EvP.eqD (p_lst (a_cons p_non (a_cons p_int (a_cons p_bl (a_cons p_str (a_cons p_str (a_cons p_str (a_cons p_str (a_cons p_str (a_cons p_str (a_cons (p_tup a_nil (Nat.zero_le _)) (a_cons (p_lst a_nil (Nat.zero_le _)) (a_cons (p_lst (a_cons p_str a_nil) (sl1 (by simp))) (a_cons (p_tup (a_cons p_str a_nil) (sl1 (by simp))) (a_cons (p_tup (a_cons p_str a_nil) (sl1 (by simp))) (a_cons (p_tup (a_cons p_str a_nil) (sl1 (by simp))) (a_cons (p_tup (a_cons p_int a_nil) (sl1 (by simp))) (a_cons p_dnew a_nil))))))))))))))))) (sl1 (by show 17 ≤ 1000; decide)))) fun d' hd' => ?_
  subst hd'
  refine r_setSeq (d_callP (P := fun d => ∃ i, d = .int i ∧ 0 ≤ i ∧ i < 6) (a_cons (p_var rfl) (a_cons p_int a_nil)) ⟨6, rfl, by omega, by omega, rfl⟩) fun d' ⟨i, e, hi0, hi1⟩ => ?_
  subst e
  refine r_ifSeq (T := fun c => c = true → isTup d = true) (EtP.toD (pt_and (pt_test (p_op (p_var rfl) p_int eq_int)) fun _ => pt_B (p_cb (a_cons (p_var rfl) (a_cons p_ty a_nil)) (isi_tup hs.ty))) (fun h => by simp at h; exact h.2)) (fun ht => r_retSeq ?_) (fun _ => r_nextSeq ?_)
  · cases d with
    | tup xs => exact EvP.toD (p_cb (a_cons (p_var rfl) a_nil) list_tup) trivial
    | _ => cases ht rfl
  refine r_ifSeq (T := fun c => c = true → isTup d = true) (EtP.toD (pt_and (pt_test (p_op (p_var rfl) p_int eq_int)) fun _ => pt_B (p_cb (a_cons (p_var rfl) (a_cons p_ty a_nil)) (isi_tup hs.ty))) (fun h => by simp at h; exact h.2)) (fun ht => r_retSeq ?_) (fun _ => r_nextSeq ?_)
  · rcases hg.cases with ⟨x, rfl, _⟩ | ⟨m, hd, ps, rfl, rfl, hw, hl, hp⟩
    · cases ht rfl
    · have hz : ((hd :: ps).length : Int) ≤ 4 := by rw [List.length_cons]; omega
      refine EvP.toD (p_op (p_var rfl) (p_op (p_tup (a_cons (p_tup (a_cons p_str a_nil) (sl1 (by simp))) a_nil) (sl1 (by simp))) (p_op p_int (p_cb (a_cons (p_var rfl) a_nil) len_tup) rv_int) (rep_tup (by simp) (by omega) (by omega) (by simp))) (add_tup ?_)) ?_
      · rw [sizeLine_eq, PyProof.Rows.lm_len_rep_flat]
        simp
        omega
      · refine ⟨?_, fun x hx => ?_⟩
        · rw [List.length_append, PyProof.Rows.lm_len_rep_flat]
          simp
          omega
        · rcases List.mem_append.mp hx with hx | hx
          · exact (hf.2 x hx).le (by omega)
          · obtain ⟨l, h1, h2⟩ := List.mem_flatten.mp hx
            rw [(List.mem_replicate.mp h1).2] at h2
            rw [List.mem_singleton.mp h2]
            exact fit_tup1 (fit_str (short_lit _ (by decide +kernel)))
  refine r_ifSeq (T := fun _ => True) (EtP.toD (pt_test (p_op (p_var rfl) p_int eq_int)) trivial) (fun _ => r_retSeq ?_) (fun _ => r_nextSeq ?_)
  · refine EvP.toD (p_tup (a_cons p_str (a_cons (p_var rfl) a_nil)) (sl1 (by simp))) ⟨by simp, fun x hx => ?_⟩
    simp only [List.mem_cons, List.not_mem_nil, or_false] at hx
    rcases hx with rfl | rfl
    · exact fit_str (short_lit _ (by decide +kernel))
    · exact hf.le (by omega)
  refine r_ifSeq (T := fun _ => True) (EtP.toD (pt_test (p_op (p_var rfl) p_int eq_int)) trivial) (fun _ => r_retSeq ?_) (fun _ => r_nextSeq ?_)
  · refine EvP.toD (p_tup (a_cons p_str (a_cons (p_var rfl) (a_cons (p_var rfl) (a_cons (p_var rfl) a_nil)))) (sl1 (by simp))) ⟨by simp, fun x hx => ?_⟩
    simp only [List.mem_cons, List.not_mem_nil, or_false] at hx
    rcases hx with rfl | rfl | rfl | rfl
    · exact fit_str (short_lit _ (by decide +kernel))
    · exact hf.le (by omega)
    · exact hf.le (by omega)
    · exact hf.le (by omega)
  · exact r_ret ((d_callP (P := fun d => d ∈ odds) (a_cons (p_var rfl) (a_cons (p_var rfl) a_nil)) ⟨odds, rfl, by simp [odds], by simp [odds], rfl⟩).imp odds_fit)
theorem mem_cut {xs : List D} {lo hi : Option Int} {x : D} (h : x ∈ cutD xs lo hi) : x ∈ xs := List.mem_of_mem_drop (List.mem_of_mem_take h)
theorem len_cut (xs : List D) (lo hi : Option Int) : (cutD xs lo hi).length ≤ xs.length := by
  unfold cutD
  rw [List.length_take, List.length_drop]
  omega
def heads : List D := [.str "", .str "A", .str "?x", .str "abcdefghi", .str "a b", .int 3, .non, .tup [.str "a"], .str "ab"]
theorem heads_fit {n : Nat} : ∀ d, d ∈ heads → fit (n + 1) d := by
  intro d hd
  unfold heads at hd
  simp only [List.mem_cons, List.not_mem_nil, or_false] at hd
  rcases hd with rfl | rfl | rfl | rfl | rfl | rfl | rfl | rfl | rfl
  · exact short_lit _ (by decide +kernel)
  · exact short_lit _ (by decide +kernel)
  · exact short_lit _ (by decide +kernel)
  · exact short_lit _ (by decide +kernel)
  · exact short_lit _ (by decide +kernel)
  · trivial
  · trivial
  · exact fit_tup1 (fit_str (short_lit _ (by decide +kernel)))
  · exact short_lit _ (by decide +kernel)
def Rspo (L : Nat) (ds : List D) (P : D → Prop) : Prop := ∃ d n b, ds = [d] ∧ n < L ∧ gpat b n d ∧ P = fit (n + 2)
theorem run_spoilt {K : PySem.W.Frag} {L : Nat} (a : Addr) (ds : List D) (P : D → Prop) (h : Rspo (L + 1) ds P) : RnD a (t__law_spoilt K (spD Rtake) (spD Rpick) (spD (Rspo L)) (spD Rodd)) (startD N__law_spoilt (.ref a :: ds)) { rt := P } := by
  obtain ⟨d, n, b, rfl, hn, hg, rfl⟩ := h
  have hf := hg.fit
  have hs := hf.short
  refine r_ifSeq (T := fun c => c = true → isTup d = true) (dt_and (T1 := fun c => c = isTup d) (EtP.toD (pt_B (p_cb (a_cons (p_var rfl) (a_cons p_ty a_nil)) (isi_tup hs.ty))) rfl) (fun ht => dt_test (d_op (P2 := fun d e => ∃ i, d = .int i ∧ e = .int 0) (d_callP (P := fun d => ∃ i, d = .int i ∧ 0 ≤ i ∧ i < 4) (a_cons (p_var rfl) (a_cons p_int a_nil)) ⟨4, rfl, by omega, by omega, rfl⟩) (fun d ⟨i, h, _⟩ => EvP.toD p_int ⟨i, h, rfl⟩) fun d e ⟨i, h1, h2⟩ => ?_)) (fun _ h => by cases h)) (fun ht => ?_) (fun _ => r_nextSeq ?_)
  · subst h1; subst h2
    exact ⟨_, rv_intB, _, rfl, fun _ => ht.symm⟩
  · rcases hg.cases with ⟨x, rfl, _⟩ | ⟨m, hd, ps, rfl, rfl, hw, hl, hp⟩
    · cases ht rfl
    have hz : ((hd :: ps).length : Int) ≤ 4 := by rw [List.length_cons]; omega
    have hz0 : 0 < ((hd :: ps).length : Int) := by rw [List.length_cons]; omega
    show RnD a (tSeq (tSeq _ _) _) _ _
    refine r_setSeq (d_callP (P := fun d => ∃ i, d = .int i ∧ 0 ≤ i ∧ i < ((hd :: ps).length : Int)) (a_cons (p_var rfl) (a_cons (p_cb (a_cons (p_var rfl) a_nil) len_tup) a_nil)) ⟨_, rfl, hz0, by omega, rfl⟩) fun d' ⟨i, e, hi0, hi1⟩ => ?_
    subst e
    refine r_ifSeq (T := fun c => c = decide (i = 0)) (EtP.toD (pt_test (p_op (p_var rfl) p_int eq_int)) rfl) (fun hi => r_retSeq ?_) (fun hi => r_nextSeq ?_)
    · refine d_op (P1 := fun d => ∃ h', d = .tup [h'] ∧ fit (m + 2) h') (P2 := fun d e => ∃ h', d = .tup [h'] ∧ fit (m + 2) h' ∧ e = .tup ps) (d_tup (da_cons (d_callP (P := fun d => d ∈ heads) (a_cons (p_var rfl) (a_cons (p_lst (a_cons p_str (a_cons p_str (a_cons p_str (a_cons p_str (a_cons p_str (a_cons p_int (a_cons p_non (a_cons (p_tup (a_cons p_str a_nil) (sl1 (by simp))) (a_cons p_str a_nil))))))))) (sl1 (by simp))) a_nil)) ⟨heads, rfl, by simp [heads], by simp [heads], rfl⟩) fun d hd => da_nil ⟨sl1 (by simp), d, rfl, heads_fit d hd⟩)) (fun d ⟨h', h1, h2⟩ => EvP.toD (p_is (p_slice (p_var rfl) (o_some p_int) o_none cut_tup) (congrArg D.tup cut1)) ⟨h', h1, h2, rfl⟩) (fun d e ⟨h', h1, h2, h3⟩ => ?_)
      subst h1; subst h3
      refine ⟨_, add_tup (sl1 (by simp; omega)), ⟨by simp; omega, fun x hx => ?_⟩⟩
      rcases List.mem_append.mp hx with hx | hx
      · rw [List.mem_singleton.mp hx]
        exact h2
      · exact ((hp x hx).fit).le (by omega)
    · have hi' : ¬ i = 0 := of_decide_eq_false hi.symm
      obtain ⟨k, rfl⟩ : ∃ k : Nat, i = ((k + 1 : Nat) : Int) := ⟨(i - 1).toNat, by omega⟩
      have hk : k < ps.length := by rw [List.length_cons] at hi1; omega
      have hat : atI (hd :: ps) ((k + 1 : Nat) : Int) = some ps[k] := atI_nat (by rw [List.getElem?_cons_succ]; exact List.getElem?_eq_getElem hk)
      have hgk := hp ps[k] (List.getElem_mem hk)
      refine r_retSeq ?_
      refine d_op (P1 := fun d => ∃ xs, d = .tup xs ∧ xs.length ≤ 5 ∧ ∀ x, x ∈ xs → fit (m + 2) x) (P2 := fun d e => ∃ xs ys, d = .tup xs ∧ e = .tup ys ∧ xs.length ≤ 5 ∧ ys.length ≤ 4 ∧ (∀ x, x ∈ xs → fit (m + 2) x) ∧ ∀ x, x ∈ ys → fit (m + 2) x) ?_ (fun d ⟨xs, h1, h2, h3⟩ => EvP.toD (p_slice (p_var rfl) (o_some (p_op (p_var rfl) p_int add_int)) o_none cut_tup) ⟨xs, _, h1, rfl, h2, ?_, h3, fun x hx => ?_⟩) (fun d e ⟨xs, ys, h1, h2, h3, h4, h5, h6⟩ => ?_)
      · refine d_op (P1 := fun d => ∃ xs, d = .tup xs ∧ xs.length ≤ 4 ∧ ∀ x, x ∈ xs → fit (m + 2) x) (P2 := fun d e => ∃ xs y, d = .tup xs ∧ e = .tup [y] ∧ xs.length ≤ 4 ∧ (∀ x, x ∈ xs → fit (m + 2) x) ∧ fit (m + 2) y) (EvP.toD (p_slice (p_var rfl) o_none (o_some (p_var rfl)) cut_tup) ⟨_, rfl, ?_, fun x hx => ?_⟩) (fun d ⟨xs, h1, h2, h3⟩ => ?_) (fun d e ⟨xs, y, h1, h2, h3, h4, h5⟩ => ?_)
        · have := len_cut (hd :: ps) none (some ((k + 1 : Nat) : Int)); omega
        · exact (hf.2 x (mem_cut hx)).le (by omega)
        · exact d_tup (da_cons (d_callP (P := fit (m + 2)) (a_cons (p_var rfl) (a_cons (p_op (p_var rfl) (p_var rfl) (at_tup hat)) a_nil)) ⟨_, m, b, rfl, by omega, hgk, rfl⟩) fun y hy => da_nil ⟨sl1 (by simp), xs, y, h1, rfl, h2, h3, hy⟩)
        · subst h1; subst h2
          refine ⟨_, add_tup (sl1 (by simp; omega)), _, rfl, by simp; omega, fun x hx => ?_⟩
          rcases List.mem_append.mp hx with hx | hx
          · exact h4 x hx
          · rw [List.mem_singleton.mp hx]
            exact h5
      · have := len_cut (hd :: ps) (some (((k + 1 : Nat) : Int) + 1)) none; omega
      · exact (hf.2 x (mem_cut hx)).le (by omega)
      · subst h1; subst h2
        refine ⟨_, add_tup (sl1 (by omega)), ⟨by rw [List.length_append]; omega, fun x hx => ?_⟩⟩
        rcases List.mem_append.mp hx with hx | hx
        · exact h5 x hx
        · exact h6 x hx
  · exact r_ret (d_callP (a_cons (p_var rfl) (a_cons (p_var rfl) a_nil)) ⟨d, n, b, rfl, hg, rfl⟩)
end K01

set_option Elab.async false
set_option linter.all false
set_option maxRecDepth 100000
set_option maxHeartbeats 4000000
namespace K01
open PySem L2 DL
def tA : D := .tup [.str "a"]
def tW : D := .tup [.str "f", tA, tA, tA]
def tX : D := .tup [.str "f", tW, tW, .tup [.str "f", tA, tA]]
def tWide : D := .tup [.str "f", tW, tW, tX]
def tLast : D := .tup [.str "f", tW, tW, .tup [.str "f", tW, tW, tW]]
def deepN : Nat → D
  | 0 => tA
  | n + 1 => .tup [.str "g", deepN n]
theorem fitA {n : Nat} : fit (n + 1) tA := fit_tup1 (fit_str (short_lit _ (by decide +kernel)))
theorem fit_tup {n : Nat} {xs : List D} (hl : xs.length ≤ 1000) (h : ∀ x, x ∈ xs → fit n x) : fit (n + 1) (.tup xs) := ⟨hl, h⟩
theorem fitS {n : Nat} (x : Str) (h : (decide (x.length < 1000) && PyData.strOk x) = true) : fit n (.str x) := fit_str (short_lit x h)
theorem fit4 {n : Nat} {a b c d : D} (h1 : fit n a) (h2 : fit n b) (h3 : fit n c) (h4 : fit n d) : fit (n + 1) (.tup [a, b, c, d]) := fit_tup (by simp) fun x hx => by
  simp only [List.mem_cons, List.not_mem_nil, or_false] at hx
  rcases hx with rfl | rfl | rfl | rfl <;> assumption
theorem fit3 {n : Nat} {a b c : D} (h1 : fit n a) (h2 : fit n b) (h3 : fit n c) : fit (n + 1) (.tup [a, b, c]) := fit_tup (by simp) fun x hx => by
  simp only [List.mem_cons, List.not_mem_nil, or_false] at hx
  rcases hx with rfl | rfl | rfl <;> assumption
theorem fit2 {n : Nat} {a b : D} (h1 : fit n a) (h2 : fit n b) : fit (n + 1) (.tup [a, b]) := fit_tup (by simp) fun x hx => by
  simp only [List.mem_cons, List.not_mem_nil, or_false] at hx
  rcases hx with rfl | rfl <;> assumption
theorem fF {n : Nat} : fit n (.str "f") := fitS _ (by decide +kernel)
theorem fG {n : Nat} : fit n (.str "g") := fitS _ (by decide +kernel)
theorem fitW {n : Nat} : fit (n + 2) tW := fit4 fF fitA fitA fitA
theorem fitX {n : Nat} : fit (n + 3) tX := fit4 fF fitW fitW (fit3 fF fitA fitA)
theorem fitWide : fit 8 tWide := fit4 fF fitW fitW fitX
theorem fitLast : fit 8 tLast := fit4 fF fitW fitW (fit4 fF fitW fitW fitW)
theorem fitDeep : ∀ n : Nat, fit (n + 1) (deepN n)
  | 0 => fitA
  | n + 1 => fit2 fG (fitDeep n)
theorem term_same (b : Bool) {d : D} (hf : fit 8 d) : Rterm b [d] (.bl (due b 8 d)) := ⟨d, 8, rfl, hf, by rw [both_same b hf]⟩
theorem bl_ok : ∀ bs : List Bool, plains (bs.map D.bl) = true
  | [] => by simp [plains]
  | n :: ns => by simp only [List.map_cons, plains, DL.plain, bl_ok ns, Bool.and_self]
theorem bl_deep : ∀ bs : List Bool, deepDs (bs.map D.bl) = 0
  | [] => by simp [deepDs]
  | n :: ns => by simp [deepDs, deepD, bl_deep ns]
theorem cmpOk_bls (bs : List Bool) : cmpOk (.lst (bs.map D.bl)) := ⟨by simp only [DL.plain]; exact bl_ok bs, by simp only [deepD, bl_deep]; decide⟩
theorem eqD_bls : ∀ bs : List Bool, eqD (.lst (bs.map D.bl)) (.lst (bs.map D.bl)) = true := by
  intro bs
  simp only [eqD, toPy, PyData.eqv]
  induction bs with
  | nil => simp [toPys, PyData.eqvAll]
  | cons b bs ih => simp [toPys, toPy, PyData.eqv, PyData.eqvAll, ih]
theorem run_law {K : PySem.W.Frag} : ∃ rest, t_law K (spBegin K) (spD Rtake) (spD (Rpat 6)) (spD (Rspo 6)) (spP (Rdue 9)) (spP (Rterm false)) (spP (Rterm true)) = tSeq (tAsg (tCall (spBegin K) [] E0 (tCons (tVar 0) tNil)) (gName 1)) rest ∧
    ∀ a, RnD a rest (none :: some (.ref a) :: List.replicate 11 none) { rt := fun d => d = .bl true } := by
  refine ⟨_, rfl, fun a => ?_⟩
  refine r_seq (M := fun δ' => δ' = none :: some (.ref a) :: List.replicate 11 none) (r_for (A := fun xs => xs = rng 6) (ItP.toD (it_rng (n := 6) (a_cons p_int a_nil) (by omega) (by omega)) rfl) (fun _ δ' => δ' = none :: some (.ref a) :: List.replicate 11 none) rfl (fun xs i x δ' e hx e2 => ?_) (fun xs δ' e e2 => e2)) fun δ' e => ?_
  · subst e2
    -- spoil, holed
    refine r_par (A := fun ds => ∃ i c, ds = [.int i, .bl c]) (da_cons (d_callP (P := fun d => ∃ i, d = .int i ∧ 0 ≤ i ∧ i < 3) (a_cons (p_var rfl) (a_cons p_int a_nil)) ⟨3, rfl, by omega, by omega, rfl⟩) fun d ⟨i, hi, _⟩ => da_cons (P1 := fun d => ∃ c, d = .bl c) (d_op (P2 := fun d e => ∃ i, d = .int i ∧ e = .int 0) (d_callP (P := fun d => ∃ i, d = .int i ∧ 0 ≤ i ∧ i < 2) (a_cons (p_var rfl) (a_cons p_int a_nil)) ⟨2, rfl, by omega, by omega, rfl⟩) (fun d ⟨i, h, _⟩ => EvP.toD p_int ⟨i, h, rfl⟩) fun d e ⟨i, h1, h2⟩ => by
      subst h1; subst h2
      exact ⟨_, eq_int, _, rfl⟩) fun d' ⟨c, hc⟩ => da_nil ⟨i, c, by rw [hi, hc]⟩) fun ds ⟨sp, ho, e⟩ => ⟨.int sp, .bl ho, e, ?_⟩
    -- one
    refine r_setSeq (P := fun d => ∃ n, n < 6 ∧ gpat ho n d) (d_call (da_cons (EvP.eqD (p_var rfl)) fun d hd => da_cons (P1 := fun d => ∃ n : Nat, d = .int (n : Int) ∧ 1 ≤ n ∧ n < 6) (d_op (P2 := fun d e => d = .int 1 ∧ ∃ i, e = .int i ∧ 0 ≤ i ∧ i < 5) (EvP.eqD p_int) (fun d hd => ?_) (fun d e ⟨h1, i, h2, h3, h4⟩ => ?_)) fun d2 ⟨n, h1, h2, h3⟩ => da_cons (EvP.eqD (p_var rfl)) fun d3 h4 => da_nil ⟨[.int (n : Int), .bl ho], gpat ho n, by rw [hd, h1, h4], ⟨n, ho, rfl, h2, h3, rfl⟩, fun d h => ⟨n, h3, h⟩⟩)) fun d ⟨n, hn, hg⟩ => ?_
    · subst hd
      exact (d_callP (P := fun d => ∃ i, d = .int i ∧ 0 ≤ i ∧ i < 5) (a_cons (p_var rfl) (a_cons p_int a_nil)) ⟨5, rfl, by omega, by omega, rfl⟩).imp fun d h => ⟨rfl, h⟩
    · subst h1; subst h2
      exact ⟨_, add_int, (1 + i).toNat, by congr 1; omega, by omega, by omega⟩
    -- spoilt
    refine r_seq (M := fun δ' => ∃ d, fit 8 d ∧ δ' = [none, some (.ref a), some x, none, none, none, some d, none, none, none, some (.int sp), some (.bl ho), none]) (r_ifP (pt_test (p_op (p_var rfl) p_int rv_intB)) (fun _ => ?_) (fun _ => r_next ⟨d, hg.fit.le (by omega), rfl⟩)) fun δ' ⟨d, hf, e⟩ => ?_
    · exact r_set (d_callP (P := fit (n + 2)) (a_cons (p_var rfl) (a_cons (p_var rfl) a_nil)) ⟨d, n, ho, rfl, hn, hg, rfl⟩) fun d' hd' => ⟨d', hd'.le (by omega), rfl⟩
    subst e
    refine r_setP (p_op (p_lst (a_cons (p_call (a_cons (p_var rfl) (a_cons p_bl a_nil)) ⟨d, 8, false, rfl, by omega, hf, rfl⟩) (a_cons (p_call (a_cons (p_var rfl) (a_cons p_bl a_nil)) ⟨d, 8, true, rfl, by omega, hf, rfl⟩) a_nil)) (sl1 (by simp))) p_int (rep_lst (by omega) (by omega) (sl1 (by simp)))) ?_
    refine r_setP (p_lst (a_cons (p_call (a_cons (p_var rfl) a_nil) (term_same false hf)) (a_cons (p_call (a_cons (p_var rfl) a_nil) (term_same true hf)) (a_cons (p_callN a_nil (a_cons (p_var rfl) a_nil) rfl rfl (term_same false hf)) (a_cons (p_callN a_nil (a_cons (p_var rfl) a_nil) rfl rfl (term_same true hf)) a_nil)))) (sl1 (by simp))) ?_
    refine r_ifP (pt_or (pt_test (p_op (p_lcm (fun x => .bl (isBl x)) (it_lst (p_var rfl)) (by simp) (small (by simp)) fun x hx => p_cb (a_cons (p_var rfl) (a_cons p_ty a_nil)) (isi_bl ?_)) (p_op (p_lst (a_cons p_bl a_nil) (sl1 (by simp))) p_int (rep_lst (by omega) (by omega) (sl1 (by simp)))) (ne_deep (cmpOk_bls [true, true, true, true]) (cmpOk_bls [true, true, true, true])))) fun _ => pt_test (p_op (p_var rfl) (p_var rfl) (ne_deep (cmpOk_bls [due false 8 d, due true 8 d, due false 8 d, due true 8 d]) (cmpOk_bls [due false 8 d, due true 8 d, due false 8 d, due true 8 d])))) (fun h => ?_) (fun _ => ?_)
    · simp only [List.mem_cons, List.not_mem_nil, or_false] at hx
      rcases hx with rfl | rfl | rfl | rfl <;> exact (fun h => by simp [tyOf] at h)
    · exfalso
      have e1 := eqD_bls [true, true, true, true]
      have e2 := eqD_bls [due false 8 d, due true 8 d, due false 8 d, due true 8 d]
      have h' : (!eqD (.lst ([true, true, true, true].map D.bl)) (.lst ([true, true, true, true].map D.bl)) || !eqD (.lst ([due false 8 d, due true 8 d, due false 8 d, due true 8 d].map D.bl)) (.lst ([due false 8 d, due true 8 d, due false 8 d, due true 8 d].map D.bl))) = true := h
      rw [e1, e2] at h'
      cases h'
    · refine r_wk (δ' := none :: some (.ref a) :: List.replicate 11 none) ?_ (r_next rfl)
      exact .keep (.keep (.drop (.keep (.keep (.keep (.drop (.drop (.drop (.keep (.drop (.drop (.keep .nil))))))))))))
  · subst e
    refine r_two (P := fun d => d = .tup [tA, tW]) (EvP.eqD (p_tup (a_cons (p_tup (a_cons p_str a_nil) (sl1 (by simp))) (a_cons (p_tup (a_cons p_str (a_cons (p_tup (a_cons p_str a_nil) (sl1 (by simp))) (a_cons (p_tup (a_cons p_str a_nil) (sl1 (by simp))) (a_cons (p_tup (a_cons p_str a_nil) (sl1 (by simp))) a_nil)))) (sl1 (by simp))) a_nil)) (sl1 (by simp)))) fun d hd => ⟨tA, tW, hd, ?_⟩
    refine r_seq (M := fun δ' => δ' = [none, some (.ref a), none, none, some tW, none, none, none, none, some (deepN 4), none, none, none]) (r_for (A := fun xs => xs = rng 4) (ItP.toD (it_rng (n := 4) (a_cons p_int a_nil) (by omega) (by omega)) rfl) (fun i δ' => δ' = [none, some (.ref a), none, none, some tW, none, none, none, none, some (deepN i), none, none, none]) rfl (fun xs i x δ' e hx e2 => ?_) (fun xs δ' e e2 => ?_)) fun δ' e => ?_
    · subst e2
      refine r_wk (δ' := [none, some (.ref a), none, none, some tW, none, none, none, none, some (deepN i), none, none, none]) (.keep (.keep (.keep (.drop (.keep (.keep (.keep (.keep (.keep (.keep (.keep (.keep (.keep .nil))))))))))))) ?_
      refine r_set (EvP.eqD (p_tup (a_cons p_str (a_cons (p_var rfl) a_nil)) (sl1 (by simp)))) fun d hd => ?_
      subst hd
      rfl
    · rw [e, rng_length] at e2
      exact e2
    subst e
    refine r_setP (d := tWide) (p_tup (a_cons p_str (a_cons (p_var rfl) (a_cons (p_var rfl) (a_cons (p_tup (a_cons p_str (a_cons (p_var rfl) (a_cons (p_var rfl) (a_cons (p_tup (a_cons p_str (a_cons (p_tup (a_cons p_str a_nil) (sl1 (by simp))) (a_cons (p_tup (a_cons p_str a_nil) (sl1 (by simp))) a_nil))) (sl1 (by simp))) a_nil)))) (sl1 (by simp))) a_nil)))) (sl1 (by simp))) ?_
    refine r_setP (d := .lst [deepN 4, deepN 5, tWide, tLast]) (p_lst (a_cons (p_var rfl) (a_cons (p_tup (a_cons p_str (a_cons (p_var rfl) a_nil)) (sl1 (by simp))) (a_cons (p_var rfl) (a_cons (p_op (p_slice (p_var rfl) o_none (o_some p_int) cut_tup) (p_tup (a_cons (p_tup (a_cons p_str (a_cons (p_op (p_var rfl) p_int (at_tup (z := tW) rfl)) (a_cons (p_op (p_var rfl) p_int (at_tup (z := tW) rfl)) (a_cons (p_op (p_var rfl) p_int (at_tup (z := tW) rfl)) a_nil)))) (sl1 (by simp))) a_nil) (sl1 (by simp))) (add_tup (sl1 (by decide)))) a_nil)))) (sl1 (by simp))) ?_
    refine r_ret (EvP.toD (p_op (p_lcm (fun x => .bl (due false 8 x)) (it_lst (p_var rfl)) (by simp) (small (by simp)) fun x hx => p_call (a_cons (p_var rfl) a_nil) (term_same false ?_)) (p_lst (a_cons p_bl (a_cons p_bl (a_cons (p_call (a_cons (p_var rfl) (a_cons p_bl a_nil)) ⟨tWide, 8, false, rfl, by omega, fitWide, rfl⟩) (a_cons (p_call (a_cons (p_op (p_var rfl) p_int (at_lst (z := tLast) rfl)) (a_cons p_bl a_nil)) ⟨tLast, 8, false, rfl, by omega, fitLast, rfl⟩) a_nil)))) (sl1 (by simp))) (eq_deep (cmpOk_bls [due false 8 (deepN 4), due false 8 (deepN 5), due false 8 tWide, due false 8 tLast]) (cmpOk_bls [true, false, due false 8 tWide, due false 8 tLast]))) ?_)
    · simp only [List.mem_cons, List.not_mem_nil, or_false] at hx
      rcases hx with rfl | rfl | rfl | rfl
      · exact (fitDeep 4).le (by omega)
      · exact (fitDeep 5).le (by omega)
      · exact fitWide
      · exact fitLast
    · have e4 : due false 8 (deepN 4) = true := by decide +kernel
      have e5 : due false 8 (deepN 5) = false := by decide +kernel
      show D.bl (eqD (.lst ([due false 8 (deepN 4), due false 8 (deepN 5), due false 8 tWide, due false 8 tLast].map D.bl)) (.lst ([true, false, due false 8 tWide, due false 8 tLast].map D.bl))) = .bl true
      rw [e4, e5, eqD_bls]
end K01

set_option Elab.async false
set_option linter.all false
set_option maxRecDepth 100000
set_option maxHeartbeats 4000000
namespace K01
open PySem L2 DL
/-- the defs of the text -/
structure Fx (K : PySem.W.Frag) (mg : Str → Option Value) : Prop where
  f_are_letters : ∃ f fd, Df K mg "are_letters" s_are_letters f fd ∧ Binds K fd p_are_letters []
  f_is_name : ∃ f fd, Df K mg "is_name" s_is_name f fd ∧ Binds K fd p_is_name []
  f_is_hole : ∃ f fd, Df K mg "is_hole" s_is_hole f fd ∧ Binds K fd p_is_hole []
  f_measured : ∃ f fd, Df K mg "measured" s_measured f fd ∧ KBn K fd p_measured 2 ["holed"] (fun us ws => us ++ ws) (fun vs zs => vs ++ zs)
  f_is_term : ∃ f fd, Df K mg "is_term" s_is_term f fd ∧ Binds K fd p_is_term [] ∧ KBn K fd p_is_term 0 ["thing"] (fun us ws => us ++ ws) (fun vs zs => vs ++ zs)
  f_is_pattern : ∃ f fd, Df K mg "is_pattern" s_is_pattern f fd ∧ Binds K fd p_is_pattern [] ∧ KBn K fd p_is_pattern 0 ["thing"] (fun us ws => us ++ ws) (fun vs zs => vs ++ zs)
  f__law_begin : ∃ f fd, Df K mg "_law_begin" s__law_begin f fd ∧ Binds K fd p__law_begin []
  f__law_take : ∃ f fd, Df K mg "_law_take" s__law_take f fd ∧ Binds K fd p__law_take []
  f__law_pick : ∃ f fd, Df K mg "_law_pick" s__law_pick f fd ∧ Binds K fd p__law_pick []
  f__law_word : ∃ f fd, Df K mg "_law_word" s__law_word f fd ∧ Binds K fd p__law_word []
  f__law_hole : ∃ f fd, Df K mg "_law_hole" s__law_hole f fd ∧ Binds K fd p__law_hole []
  f__law_pattern : ∃ f fd, Df K mg "_law_pattern" s__law_pattern f fd ∧ Binds K fd p__law_pattern []
  f__law_letters : ∃ f fd, Df K mg "_law_letters" s__law_letters f fd ∧ Binds K fd p__law_letters []
  f__law_shape : ∃ f fd, Df K mg "_law_shape" s__law_shape f fd ∧ Binds K fd p__law_shape []
  f__law_size : ∃ f fd, Df K mg "_law_size" s__law_size f fd ∧ Binds K fd p__law_size []
  f__law_depth : ∃ f fd, Df K mg "_law_depth" s__law_depth f fd ∧ Binds K fd p__law_depth []
  f__law_due : ∃ f fd, Df K mg "_law_due" s__law_due f fd ∧ Binds K fd p__law_due []
  f__law_odd : ∃ f fd, Df K mg "_law_odd" s__law_odd f fd ∧ Binds K fd p__law_odd []
  f__law_spoilt : ∃ f fd, Df K mg "_law_spoilt" s__law_spoilt f fd ∧ Binds K fd p__law_spoilt []

section
variable {P : Program} {w : World} {K : PySem.W.Frag} {mg : Str → Option Value} {base : Heap}
theorem fn_measured {f : Addr} {fd : FuncData} (G : Gb mg) (D : Df K mg "measured" s_measured f fd) (B : KBn K fd p_measured 2 ["holed"] (fun us ws => us ++ ws) (fun vs zs => vs ++ zs)) (Ch : Cl P w K mg base 2 "is_hole" ["thing"] (spP Rhole)) (Cn : Cl P w K mg base 2 "is_name" ["thing"] (spP Rname)) :
    ∀ L : Nat, FnOk P w K mg base CX0 (L + 3) f fd p_measured (spP (Rmeas L))
  | 0 => fn_neverP fun ds z ⟨d, n, b, m, _, h, _⟩ => by omega
  | L + 1 => okP D.fn sc_measured (fun ds z ⟨d, n, b, m, e, _⟩ => by rw [e]; rfl) fun cdv A outer s H E hr => ⟨_, d_measured G (Ch.mono (by omega)) (Cn.mono (by omega)) (D.clN B (fn_measured G D B Ch Cn L)) hr, run_measured⟩
theorem fn_shape {f : Addr} {fd : FuncData} (G : Gb mg) (D : Df K mg "_law_shape" s__law_shape f fd) (B : Binds K fd p__law_shape []) (Cl' : Cl P w K mg base 1 "_law_letters" ["_law_text", "_law_most"] (spP RlettersL)) :
    ∀ L : Nat, FnOk P w K mg base CX0 (L + 2) f fd p__law_shape (spP (Rshp L))
  | 0 => fn_neverP fun ds z ⟨d, n, b, _, h, _⟩ => by omega
  | L + 1 => okP D.fn sc__law_shape (fun ds z ⟨d, n, b, e, _⟩ => by rw [e]; rfl) fun cdv A outer s H E hr => ⟨_, d__law_shape G (Cl'.mono (by omega)) (D.cl B (fn_shape G D B Cl' L)) hr, run_shape⟩
theorem fn_size {f : Addr} {fd : FuncData} (G : Gb mg) (D : Df K mg "_law_size" s__law_size f fd) (B : Binds K fd p__law_size []) :
    ∀ L : Nat, FnOk P w K mg base CX0 (L + 2) f fd p__law_size (spP (Rsz L))
  | 0 => fn_neverP fun ds z ⟨d, n, _, h, _⟩ => by omega
  | L + 1 => okP D.fn sc__law_size (fun ds z ⟨d, n, e, _⟩ => by rw [e]; rfl) fun cdv A outer s H E hr => ⟨_, d__law_size G (D.cl B (fn_size G D B L)) hr, run_size⟩
theorem fn_depth {f : Addr} {fd : FuncData} (G : Gb mg) (D : Df K mg "_law_depth" s__law_depth f fd) (B : Binds K fd p__law_depth []) :
    ∀ L : Nat, FnOk P w K mg base CX0 (L + 2) f fd p__law_depth (spP (Rdp L))
  | 0 => fn_neverP fun ds z ⟨d, n, _, h, _⟩ => by omega
  | L + 1 => okP D.fn sc__law_depth (fun ds z ⟨d, n, e, _⟩ => by rw [e]; rfl) fun cdv A outer s H E hr => ⟨_, d__law_depth G (D.cl B (fn_depth G D B L)) hr, run_depth⟩
theorem fn_pattern {f : Addr} {fd : FuncData} (G : Gb mg) (D : Df K mg "_law_pattern" s__law_pattern f fd) (B : Binds K fd p__law_pattern []) (Ct : Cl P w K mg base 3 "_law_take" ["_law_draw", "_law_size_here"] (spD Rtake)) (Ch : Cl P w K mg base 3 "_law_hole" ["_law_draw"] (spD Rholes)) (Cw : Cl P w K mg base 3 "_law_word" ["_law_draw"] (spD Rword)) :
    ∀ L : Nat, FnOk P w K mg base CX0 (L + 4) f fd p__law_pattern (spD (Rpat L))
  | 0 => fn_neverD fun ds z ⟨n, b, _, _, h, _⟩ => by omega
  | L + 1 => okD D.fn sc__law_pattern (fun ds z ⟨n, b, e, _⟩ => by rw [e]; rfl) fun cdv A outer s H E hr => ⟨_, d__law_pattern G (Ct.mono (by omega)) (Ch.mono (by omega)) (Cw.mono (by omega)) (D.cl B (fn_pattern G D B Ct Ch Cw L)) hr, run_pattern⟩
theorem fn_spoilt {f : Addr} {fd : FuncData} (G : Gb mg) (D : Df K mg "_law_spoilt" s__law_spoilt f fd) (B : Binds K fd p__law_spoilt []) (Ct : Cl P w K mg base 3 "_law_take" ["_law_draw", "_law_size_here"] (spD Rtake)) (Cp : Cl P w K mg base 3 "_law_pick" ["_law_draw", "_law_some"] (spD Rpick)) (Co : Cl P w K mg base 3 "_law_odd" ["_law_draw", "_law_one"] (spD Rodd)) :
    ∀ L : Nat, FnOk P w K mg base CX0 (L + 4) f fd p__law_spoilt (spD (Rspo L))
  | 0 => fn_neverD fun ds z ⟨d, n, b, _, h, _⟩ => by omega
  | L + 1 => okD D.fn sc__law_spoilt (fun ds z ⟨d, n, b, e, _⟩ => by rw [e]; rfl) fun cdv A outer s H E hr => ⟨_, d__law_spoilt G (Ct.mono (by omega)) (Cp.mono (by omega)) (D.cl B (fn_spoilt G D B Ct Cp Co L)) (Co.mono (by omega)) hr, run_spoilt⟩
theorem chain {f : Addr} {fd : FuncData} (G : Gb mg) (T : Fx K mg) (F : Fun K "law" "law" s_law f fd) : FnOk P w K mg base CX0 21 f fd ["_law_script"] (spLaw K) := by
  obtain ⟨f1, g1, D1, B1⟩ := T.f_are_letters
  obtain ⟨f2, g2, D2, B2⟩ := T.f_is_name
  obtain ⟨f3, g3, D3, B3⟩ := T.f_is_hole
  obtain ⟨f4, g4, D4, B4⟩ := T.f_measured
  obtain ⟨f5, g5, D5, B5, N5⟩ := T.f_is_term
  obtain ⟨f6, g6, D6, B6, N6⟩ := T.f_is_pattern
  obtain ⟨f7, g7, D7, B7⟩ := T.f__law_begin
  obtain ⟨f8, g8, D8, B8⟩ := T.f__law_take
  obtain ⟨f9, g9, D9, B9⟩ := T.f__law_pick
  obtain ⟨f10, g10, D10, B10⟩ := T.f__law_word
  obtain ⟨f11, g11, D11, B11⟩ := T.f__law_hole
  obtain ⟨f12, g12, D12, B12⟩ := T.f__law_pattern
  obtain ⟨f13, g13, D13, B13⟩ := T.f__law_letters
  obtain ⟨f14, g14, D14, B14⟩ := T.f__law_shape
  obtain ⟨f15, g15, D15, B15⟩ := T.f__law_size
  obtain ⟨f16, g16, D16, B16⟩ := T.f__law_depth
  obtain ⟨f17, g17, D17, B17⟩ := T.f__law_due
  obtain ⟨f18, g18, D18, B18⟩ := T.f__law_odd
  obtain ⟨f19, g19, D19, B19⟩ := T.f__law_spoilt
  have C1 : Cl P w K mg base 1 "are_letters" ["text", "most"] (spP Rletters) := D1.cl B1 (okP (k := 0) D1.fn sc_are_letters (fun ds z ⟨x, m, e, _⟩ => by rw [e]; rfl) fun cdv A outer s H E hr => ⟨_, d_are_letters G hr, run_are_letters⟩)
  have C2 : Cl P w K mg base 2 "is_name" ["thing"] (spP Rname) := D2.cl B2 (okP (k := 1) D2.fn sc_is_name (fun ds z ⟨x, e, _⟩ => by rw [e]; rfl) fun cdv A outer s H E hr => ⟨_, d_is_name G C1 hr, run_is_name⟩)
  have C3 : Cl P w K mg base 2 "is_hole" ["thing"] (spP Rhole) := D3.cl B3 (okP (k := 1) D3.fn sc_is_hole (fun ds z ⟨x, e, _⟩ => by rw [e]; rfl) fun cdv A outer s H E hr => ⟨_, d_is_hole G C1 hr, run_is_hole⟩)
  have C4 : ClN P w K mg base 9 "measured" ["thing", "left", "holed"] 2 ["holed"] (spP (Rmeas 6)) := D4.clN B4 (fn_measured G D4 B4 C3 C2 6)
  have F5 : FnOk P w K mg base CX0 10 f5 g5 p_is_term (spP (Rterm false)) := okP (k := 9) D5.fn sc_is_term (fun ds z ⟨x, m, e, _⟩ => by rw [e]; rfl) fun cdv A outer s H E hr => ⟨_, d_is_term G C4 hr, run_is_term⟩
  have F6 : FnOk P w K mg base CX0 10 f6 g6 p_is_pattern (spP (Rterm true)) := okP (k := 9) D6.fn sc_is_pattern (fun ds z ⟨x, m, e, _⟩ => by rw [e]; rfl) fun cdv A outer s H E hr => ⟨_, d_is_pattern G C4 hr, run_is_pattern⟩
  have C7 : Cl P w K mg base 1 "_law_begin" ["_law_script"] (spBegin K) := D7.cl B7 (ok_begin (k := 0) D7.fn sc__law_begin rfl rfl fun cdv A outer s H E hr => d__law_begin G hr)
  have C8 : Cl P w K mg base 1 "_law_take" ["_law_draw", "_law_size_here"] (spD Rtake) := D8.cl B8 (ok_take (k := 0) D8.fn sc__law_take rfl rfl fun cdv A outer s H E hr => d__law_take G hr)
  have C9 : Cl P w K mg base 2 "_law_pick" ["_law_draw", "_law_some"] (spD Rpick) := D9.cl B9 (okD (k := 1) D9.fn sc__law_pick (fun ds z ⟨x, e, _⟩ => by rw [e]; rfl) fun cdv A outer s H E hr => ⟨_, d__law_pick G C8 hr, run_pick rfl⟩)
  have C10 : Cl P w K mg base 3 "_law_word" ["_law_draw"] (spD Rword) := D10.cl B10 (okD (k := 2) D10.fn sc__law_word (fun ds z ⟨e, _⟩ => by rw [e]; rfl) fun cdv A outer s H E hr => ⟨_, d__law_word G (C8.mono (by omega)) C9 hr, run_word⟩)
  have C11 : Cl P w K mg base 3 "_law_hole" ["_law_draw"] (spD Rholes) := D11.cl B11 (okD (k := 2) D11.fn sc__law_hole (fun ds z ⟨e, _⟩ => by rw [e]; rfl) fun cdv A outer s H E hr => ⟨_, d__law_hole G (C8.mono (by omega)) C9 hr, run_hole⟩)
  have C12 : Cl P w K mg base 10 "_law_pattern" ["_law_draw", "_law_left", "_law_holed"] (spD (Rpat 6)) := D12.cl B12 (fn_pattern G D12 B12 (C8.mono (by omega)) C11 C10 6)
  have C13 : Cl P w K mg base 1 "_law_letters" ["_law_text", "_law_most"] (spP RlettersL) := D13.cl B13 (okP (k := 0) D13.fn sc__law_letters (fun ds z ⟨x, m, e, _⟩ => by rw [e]; rfl) fun cdv A outer s H E hr => ⟨_, d__law_letters G hr, run_letters⟩)
  have C14 : Cl P w K mg base 11 "_law_shape" ["_law_one", "_law_holed"] (spP (Rshp 9)) := D14.cl B14 (fn_shape G D14 B14 C13 9)
  have C15 : Cl P w K mg base 11 "_law_size" ["_law_one"] (spP (Rsz 9)) := D15.cl B15 (fn_size G D15 B15 9)
  have C16 : Cl P w K mg base 11 "_law_depth" ["_law_one"] (spP (Rdp 9)) := D16.cl B16 (fn_depth G D16 B16 9)
  have C17 : Cl P w K mg base 12 "_law_due" ["_law_one", "_law_holed"] (spP (Rdue 9)) := D17.cl B17 (okP (k := 11) D17.fn sc__law_due (fun ds z ⟨d, n, b, e, _⟩ => by rw [e]; rfl) fun cdv A outer s H E hr => ⟨_, d__law_due G C14 C15 C16 hr, run_due⟩)
  have C18 : Cl P w K mg base 3 "_law_odd" ["_law_draw", "_law_one"] (spD Rodd) := D18.cl B18 (okD (k := 2) D18.fn sc__law_odd (fun ds z ⟨d, n, b, e, _⟩ => by rw [e]; rfl) fun cdv A outer s H E hr => ⟨_, d__law_odd G (C8.mono (by omega)) C9 hr, run_odd⟩)
  have C19 : Cl P w K mg base 10 "_law_spoilt" ["_law_draw", "_law_one"] (spD (Rspo 6)) := D19.cl B19 (fn_spoilt G D19 B19 (C8.mono (by omega)) (C9.mono (by omega)) C18 6)
  refine ok_law (k := 20) (n := 11) F sc_law rfl fun cdv A outer s H E hr => ?_
  obtain ⟨rest, e, h⟩ := run_law (K := K)
  exact ⟨_, rest, d_law G (C7.mono (by omega)) (C8.mono (by omega)) (C12.mono (by omega)) (C19.mono (by omega)) (C17.mono (by omega)) ((D5.cl B5 F5).mono (by omega)) ((D6.cl B6 F6).mono (by omega)) ((D5.clN N5 F5).mono (by omega)) ((D6.clN N6 F6).mono (by omega)) hr, e, h⟩
end
theorem all_mk {l : PySem.W.OpenLaw} {w : World} {K : PySem.W.Frag} {h : Heap} {mg : Str → Option Value} {fa : Addr} (X : K.In h) (G : h.Ns mainGlobals mg) (hfa : mg "law" = some (.ref fa)) {f0 : Addr} {od0 an0 : Option Addr} {sl0 : Array (Option Value)} {oc0 kV0 dc0 pm0 cd0 ct0 : Value} {f1 : Addr} {od1 an1 : Option Addr} {sl1 : Array (Option Value)} {oc1 kV1 dc1 pm1 cd1 ct1 : Value} {f2 : Addr} {od2 an2 : Option Addr} {sl2 : Array (Option Value)} {oc2 kV2 dc2 pm2 cd2 ct2 : Value} {f3 : Addr} {od3 an3 : Option Addr} {sl3 : Array (Option Value)} {oc3 kV3 dc3 pm3 cd3 ct3 : Value} {f4 : Addr} {od4 an4 : Option Addr} {sl4 : Array (Option Value)} {oc4 kV4 dc4 pm4 cd4 ct4 : Value} {f5 : Addr} {od5 an5 : Option Addr} {sl5 : Array (Option Value)} {oc5 kV5 dc5 pm5 cd5 ct5 : Value} {f6 : Addr} {od6 an6 : Option Addr} {sl6 : Array (Option Value)} {oc6 kV6 dc6 pm6 cd6 ct6 : Value} {f7 : Addr} {od7 an7 : Option Addr} {sl7 : Array (Option Value)} {oc7 kV7 dc7 pm7 cd7 ct7 : Value} {f8 : Addr} {od8 an8 : Option Addr} {sl8 : Array (Option Value)} {oc8 kV8 dc8 pm8 cd8 ct8 : Value} {f9 : Addr} {od9 an9 : Option Addr} {sl9 : Array (Option Value)} {oc9 kV9 dc9 pm9 cd9 ct9 : Value} {f10 : Addr} {od10 an10 : Option Addr} {sl10 : Array (Option Value)} {oc10 kV10 dc10 pm10 cd10 ct10 : Value} {f11 : Addr} {od11 an11 : Option Addr} {sl11 : Array (Option Value)} {oc11 kV11 dc11 pm11 cd11 ct11 : Value} {f12 : Addr} {od12 an12 : Option Addr} {sl12 : Array (Option Value)} {oc12 kV12 dc12 pm12 cd12 ct12 : Value} {f13 : Addr} {od13 an13 : Option Addr} {sl13 : Array (Option Value)} {oc13 kV13 dc13 pm13 cd13 ct13 : Value} {f14 : Addr} {od14 an14 : Option Addr} {sl14 : Array (Option Value)} {oc14 kV14 dc14 pm14 cd14 ct14 : Value} {f15 : Addr} {od15 an15 : Option Addr} {sl15 : Array (Option Value)} {oc15 kV15 dc15 pm15 cd15 ct15 : Value} {f16 : Addr} {od16 an16 : Option Addr} {sl16 : Array (Option Value)} {oc16 kV16 dc16 pm16 cd16 ct16 : Value} {f17 : Addr} {od17 an17 : Option Addr} {sl17 : Array (Option Value)} {oc17 kV17 dc17 pm17 cd17 ct17 : Value} {f18 : Addr} {od18 an18 : Option Addr} {sl18 : Array (Option Value)} {oc18 kV18 dc18 pm18 cd18 ct18 : Value} {f19 : Addr} {od19 an19 : Option Addr} {sl19 : Array (Option Value)} {oc19 kV19 dc19 pm19 cd19 ct19 : Value} {tk_LETTERS : Tok} {tk_LONGEST : Tok} {tk_LONGEST_HOLE : Tok} {tk_MOST_DEEP : Tok} {tk_MOST_PARTS : Tok} {tk_MOST_SIZE : Tok}
    (a0 : PySem.W.nsIn K mainGlobals "are_letters" = some (some (.ref f0))) (l0 : K.lookup f0 = some ⟨oc0, od0, .func (PySem.W.fnOf "are_letters" "are_letters" (defArgs s_are_letters) (defBody s_are_letters) (defScope s_are_letters) .none kV0 dc0 pm0 an0 cd0 ct0), sl0⟩) (c0 : PySem.W.codeIn K cd0 "are_letters" = true) (k0 : PySem.W.keepIn K (.ref f0) = true)
    (a1 : PySem.W.nsIn K mainGlobals "is_name" = some (some (.ref f1))) (l1 : K.lookup f1 = some ⟨oc1, od1, .func (PySem.W.fnOf "is_name" "is_name" (defArgs s_is_name) (defBody s_is_name) (defScope s_is_name) .none kV1 dc1 pm1 an1 cd1 ct1), sl1⟩) (c1 : PySem.W.codeIn K cd1 "is_name" = true) (k1 : PySem.W.keepIn K (.ref f1) = true)
    (a2 : PySem.W.nsIn K mainGlobals "is_hole" = some (some (.ref f2))) (l2 : K.lookup f2 = some ⟨oc2, od2, .func (PySem.W.fnOf "is_hole" "is_hole" (defArgs s_is_hole) (defBody s_is_hole) (defScope s_is_hole) .none kV2 dc2 pm2 an2 cd2 ct2), sl2⟩) (c2 : PySem.W.codeIn K cd2 "is_hole" = true) (k2 : PySem.W.keepIn K (.ref f2) = true)
    (a3 : PySem.W.nsIn K mainGlobals "measured" = some (some (.ref f3))) (l3 : K.lookup f3 = some ⟨oc3, od3, .func (PySem.W.fnOf "measured" "measured" (defArgs s_measured) (defBody s_measured) (defScope s_measured) .none kV3 dc3 pm3 an3 cd3 ct3), sl3⟩) (c3 : PySem.W.codeIn K cd3 "measured" = true) (k3 : PySem.W.keepIn K (.ref f3) = true)
    (a4 : PySem.W.nsIn K mainGlobals "is_term" = some (some (.ref f4))) (l4 : K.lookup f4 = some ⟨oc4, od4, .func (PySem.W.fnOf "is_term" "is_term" (defArgs s_is_term) (defBody s_is_term) (defScope s_is_term) .none kV4 dc4 pm4 an4 cd4 ct4), sl4⟩) (c4 : PySem.W.codeIn K cd4 "is_term" = true) (k4 : PySem.W.keepIn K (.ref f4) = true)
    (a5 : PySem.W.nsIn K mainGlobals "is_pattern" = some (some (.ref f5))) (l5 : K.lookup f5 = some ⟨oc5, od5, .func (PySem.W.fnOf "is_pattern" "is_pattern" (defArgs s_is_pattern) (defBody s_is_pattern) (defScope s_is_pattern) .none kV5 dc5 pm5 an5 cd5 ct5), sl5⟩) (c5 : PySem.W.codeIn K cd5 "is_pattern" = true) (k5 : PySem.W.keepIn K (.ref f5) = true)
    (a6 : PySem.W.nsIn K mainGlobals "_law_begin" = some (some (.ref f6))) (l6 : K.lookup f6 = some ⟨oc6, od6, .func (PySem.W.fnOf "_law_begin" "_law_begin" (defArgs s__law_begin) (defBody s__law_begin) (defScope s__law_begin) .none kV6 dc6 pm6 an6 cd6 ct6), sl6⟩) (c6 : PySem.W.codeIn K cd6 "_law_begin" = true) (k6 : PySem.W.keepIn K (.ref f6) = true)
    (a7 : PySem.W.nsIn K mainGlobals "_law_take" = some (some (.ref f7))) (l7 : K.lookup f7 = some ⟨oc7, od7, .func (PySem.W.fnOf "_law_take" "_law_take" (defArgs s__law_take) (defBody s__law_take) (defScope s__law_take) .none kV7 dc7 pm7 an7 cd7 ct7), sl7⟩) (c7 : PySem.W.codeIn K cd7 "_law_take" = true) (k7 : PySem.W.keepIn K (.ref f7) = true)
    (a8 : PySem.W.nsIn K mainGlobals "_law_pick" = some (some (.ref f8))) (l8 : K.lookup f8 = some ⟨oc8, od8, .func (PySem.W.fnOf "_law_pick" "_law_pick" (defArgs s__law_pick) (defBody s__law_pick) (defScope s__law_pick) .none kV8 dc8 pm8 an8 cd8 ct8), sl8⟩) (c8 : PySem.W.codeIn K cd8 "_law_pick" = true) (k8 : PySem.W.keepIn K (.ref f8) = true)
    (a9 : PySem.W.nsIn K mainGlobals "_law_word" = some (some (.ref f9))) (l9 : K.lookup f9 = some ⟨oc9, od9, .func (PySem.W.fnOf "_law_word" "_law_word" (defArgs s__law_word) (defBody s__law_word) (defScope s__law_word) .none kV9 dc9 pm9 an9 cd9 ct9), sl9⟩) (c9 : PySem.W.codeIn K cd9 "_law_word" = true) (k9 : PySem.W.keepIn K (.ref f9) = true)
    (a10 : PySem.W.nsIn K mainGlobals "_law_hole" = some (some (.ref f10))) (l10 : K.lookup f10 = some ⟨oc10, od10, .func (PySem.W.fnOf "_law_hole" "_law_hole" (defArgs s__law_hole) (defBody s__law_hole) (defScope s__law_hole) .none kV10 dc10 pm10 an10 cd10 ct10), sl10⟩) (c10 : PySem.W.codeIn K cd10 "_law_hole" = true) (k10 : PySem.W.keepIn K (.ref f10) = true)
    (a11 : PySem.W.nsIn K mainGlobals "_law_pattern" = some (some (.ref f11))) (l11 : K.lookup f11 = some ⟨oc11, od11, .func (PySem.W.fnOf "_law_pattern" "_law_pattern" (defArgs s__law_pattern) (defBody s__law_pattern) (defScope s__law_pattern) .none kV11 dc11 pm11 an11 cd11 ct11), sl11⟩) (c11 : PySem.W.codeIn K cd11 "_law_pattern" = true) (k11 : PySem.W.keepIn K (.ref f11) = true)
    (a12 : PySem.W.nsIn K mainGlobals "_law_letters" = some (some (.ref f12))) (l12 : K.lookup f12 = some ⟨oc12, od12, .func (PySem.W.fnOf "_law_letters" "_law_letters" (defArgs s__law_letters) (defBody s__law_letters) (defScope s__law_letters) .none kV12 dc12 pm12 an12 cd12 ct12), sl12⟩) (c12 : PySem.W.codeIn K cd12 "_law_letters" = true) (k12 : PySem.W.keepIn K (.ref f12) = true)
    (a13 : PySem.W.nsIn K mainGlobals "_law_shape" = some (some (.ref f13))) (l13 : K.lookup f13 = some ⟨oc13, od13, .func (PySem.W.fnOf "_law_shape" "_law_shape" (defArgs s__law_shape) (defBody s__law_shape) (defScope s__law_shape) .none kV13 dc13 pm13 an13 cd13 ct13), sl13⟩) (c13 : PySem.W.codeIn K cd13 "_law_shape" = true) (k13 : PySem.W.keepIn K (.ref f13) = true)
    (a14 : PySem.W.nsIn K mainGlobals "_law_size" = some (some (.ref f14))) (l14 : K.lookup f14 = some ⟨oc14, od14, .func (PySem.W.fnOf "_law_size" "_law_size" (defArgs s__law_size) (defBody s__law_size) (defScope s__law_size) .none kV14 dc14 pm14 an14 cd14 ct14), sl14⟩) (c14 : PySem.W.codeIn K cd14 "_law_size" = true) (k14 : PySem.W.keepIn K (.ref f14) = true)
    (a15 : PySem.W.nsIn K mainGlobals "_law_depth" = some (some (.ref f15))) (l15 : K.lookup f15 = some ⟨oc15, od15, .func (PySem.W.fnOf "_law_depth" "_law_depth" (defArgs s__law_depth) (defBody s__law_depth) (defScope s__law_depth) .none kV15 dc15 pm15 an15 cd15 ct15), sl15⟩) (c15 : PySem.W.codeIn K cd15 "_law_depth" = true) (k15 : PySem.W.keepIn K (.ref f15) = true)
    (a16 : PySem.W.nsIn K mainGlobals "_law_due" = some (some (.ref f16))) (l16 : K.lookup f16 = some ⟨oc16, od16, .func (PySem.W.fnOf "_law_due" "_law_due" (defArgs s__law_due) (defBody s__law_due) (defScope s__law_due) .none kV16 dc16 pm16 an16 cd16 ct16), sl16⟩) (c16 : PySem.W.codeIn K cd16 "_law_due" = true) (k16 : PySem.W.keepIn K (.ref f16) = true)
    (a17 : PySem.W.nsIn K mainGlobals "_law_odd" = some (some (.ref f17))) (l17 : K.lookup f17 = some ⟨oc17, od17, .func (PySem.W.fnOf "_law_odd" "_law_odd" (defArgs s__law_odd) (defBody s__law_odd) (defScope s__law_odd) .none kV17 dc17 pm17 an17 cd17 ct17), sl17⟩) (c17 : PySem.W.codeIn K cd17 "_law_odd" = true) (k17 : PySem.W.keepIn K (.ref f17) = true)
    (a18 : PySem.W.nsIn K mainGlobals "_law_spoilt" = some (some (.ref f18))) (l18 : K.lookup f18 = some ⟨oc18, od18, .func (PySem.W.fnOf "_law_spoilt" "_law_spoilt" (defArgs s__law_spoilt) (defBody s__law_spoilt) (defScope s__law_spoilt) .none kV18 dc18 pm18 an18 cd18 ct18), sl18⟩) (c18 : PySem.W.codeIn K cd18 "_law_spoilt" = true) (k18 : PySem.W.keepIn K (.ref f18) = true)
    (a19 : PySem.W.nsIn K mainGlobals "law" = some (some (.ref f19))) (l19 : K.lookup f19 = some ⟨oc19, od19, .func (PySem.W.fnOf "law" "law" (defArgs s_law) (defBody s_law) (defScope s_law) .none kV19 dc19 pm19 an19 cd19 ct19), sl19⟩) (c19 : PySem.W.codeIn K cd19 "law" = true) (k19 : PySem.W.keepIn K (.ref f19) = true)
    (z_abs : PySem.W.nsIn K mainGlobals "abs" = some none)
    (z_all : PySem.W.nsIn K mainGlobals "all" = some none)
    (z_bool : PySem.W.nsIn K mainGlobals "bool" = some none)
    (z_int : PySem.W.nsIn K mainGlobals "int" = some none)
    (z_isinstance : PySem.W.nsIn K mainGlobals "isinstance" = some none)
    (z_len : PySem.W.nsIn K mainGlobals "len" = some none)
    (z_list : PySem.W.nsIn K mainGlobals "list" = some none)
    (z_max : PySem.W.nsIn K mainGlobals "max" = some none)
    (z_range : PySem.W.nsIn K mainGlobals "range" = some none)
    (z_str : PySem.W.nsIn K mainGlobals "str" = some none)
    (z_sum : PySem.W.nsIn K mainGlobals "sum" = some none)
    (z_tuple : PySem.W.nsIn K mainGlobals "tuple" = some none)
    (y_LETTERS : PySem.W.nsIn K mainGlobals "LETTERS" = some (some (.str "abcdefghijklmnopqrstuvwxyz" tk_LETTERS)))
    (y_LONGEST : PySem.W.nsIn K mainGlobals "LONGEST" = some (some (.int 8 tk_LONGEST)))
    (y_LONGEST_HOLE : PySem.W.nsIn K mainGlobals "LONGEST_HOLE" = some (some (.int 4 tk_LONGEST_HOLE)))
    (y_MOST_DEEP : PySem.W.nsIn K mainGlobals "MOST_DEEP" = some (some (.int 5 tk_MOST_DEEP)))
    (y_MOST_PARTS : PySem.W.nsIn K mainGlobals "MOST_PARTS" = some (some (.int 3 tk_MOST_PARTS)))
    (y_MOST_SIZE : PySem.W.nsIn K mainGlobals "MOST_SIZE" = some (some (.int 30 tk_MOST_SIZE))) :
    ∃ fd : FuncData, (∀ (s : Shared) (v : Value), BindsTo s fd ⟨[v], []⟩ [("_law_script", v)]) ∧ ∀ base : Heap, K.In base → base.Ns mainGlobals mg → FnOk l.prog w K mg base CX0 21 fa fd ["_law_script"] (spLaw K) := by
  have e := hfa.symm.trans (PySem.W.mg_of X G a19)
  cases e
  have T : Fx K mg := { f_are_letters := ⟨_, _, ⟨fun_mk (st := s_are_letters) l0 c0 k0, PySem.W.mg_of X G a0⟩, (fun_mk (st := s_are_letters) l0 c0 k0).binds (ps := p_are_letters) (fun _ _ _ _ _ _ us hl => match us, hl with | [_, _], _ => rfl)⟩, f_is_name := ⟨_, _, ⟨fun_mk (st := s_is_name) l1 c1 k1, PySem.W.mg_of X G a1⟩, (fun_mk (st := s_is_name) l1 c1 k1).binds (ps := p_is_name) (fun _ _ _ _ _ _ us hl => match us, hl with | [_], _ => rfl)⟩, f_is_hole := ⟨_, _, ⟨fun_mk (st := s_is_hole) l2 c2 k2, PySem.W.mg_of X G a2⟩, (fun_mk (st := s_is_hole) l2 c2 k2).binds (ps := p_is_hole) (fun _ _ _ _ _ _ us hl => match us, hl with | [_], _ => rfl)⟩, f_measured := ⟨_, _, ⟨fun_mk (st := s_measured) l3 c3 k3, PySem.W.mg_of X G a3⟩, Fun.kbn (fun_mk (st := s_measured) l3 c3 k3) (ps := p_measured) (n := 2) (ks := ["holed"]) (fun _ _ _ _ _ _ us ws h1 h2 => match us, ws, h1, h2 with | [_, _], [_], _, _ => rfl)⟩, f_is_term := ⟨_, _, ⟨fun_mk (st := s_is_term) l4 c4 k4, PySem.W.mg_of X G a4⟩, (fun_mk (st := s_is_term) l4 c4 k4).binds (ps := p_is_term) (fun _ _ _ _ _ _ us hl => match us, hl with | [_], _ => rfl), Fun.kbn (fun_mk (st := s_is_term) l4 c4 k4) (ps := p_is_term) (n := 0) (ks := ["thing"]) (fun _ _ _ _ _ _ us ws h1 h2 => match us, ws, h1, h2 with | [], [_], _, _ => rfl)⟩, f_is_pattern := ⟨_, _, ⟨fun_mk (st := s_is_pattern) l5 c5 k5, PySem.W.mg_of X G a5⟩, (fun_mk (st := s_is_pattern) l5 c5 k5).binds (ps := p_is_pattern) (fun _ _ _ _ _ _ us hl => match us, hl with | [_], _ => rfl), Fun.kbn (fun_mk (st := s_is_pattern) l5 c5 k5) (ps := p_is_pattern) (n := 0) (ks := ["thing"]) (fun _ _ _ _ _ _ us ws h1 h2 => match us, ws, h1, h2 with | [], [_], _, _ => rfl)⟩, f__law_begin := ⟨_, _, ⟨fun_mk (st := s__law_begin) l6 c6 k6, PySem.W.mg_of X G a6⟩, (fun_mk (st := s__law_begin) l6 c6 k6).binds (ps := p__law_begin) (fun _ _ _ _ _ _ us hl => match us, hl with | [_], _ => rfl)⟩, f__law_take := ⟨_, _, ⟨fun_mk (st := s__law_take) l7 c7 k7, PySem.W.mg_of X G a7⟩, (fun_mk (st := s__law_take) l7 c7 k7).binds (ps := p__law_take) (fun _ _ _ _ _ _ us hl => match us, hl with | [_, _], _ => rfl)⟩, f__law_pick := ⟨_, _, ⟨fun_mk (st := s__law_pick) l8 c8 k8, PySem.W.mg_of X G a8⟩, (fun_mk (st := s__law_pick) l8 c8 k8).binds (ps := p__law_pick) (fun _ _ _ _ _ _ us hl => match us, hl with | [_, _], _ => rfl)⟩, f__law_word := ⟨_, _, ⟨fun_mk (st := s__law_word) l9 c9 k9, PySem.W.mg_of X G a9⟩, (fun_mk (st := s__law_word) l9 c9 k9).binds (ps := p__law_word) (fun _ _ _ _ _ _ us hl => match us, hl with | [_], _ => rfl)⟩, f__law_hole := ⟨_, _, ⟨fun_mk (st := s__law_hole) l10 c10 k10, PySem.W.mg_of X G a10⟩, (fun_mk (st := s__law_hole) l10 c10 k10).binds (ps := p__law_hole) (fun _ _ _ _ _ _ us hl => match us, hl with | [_], _ => rfl)⟩, f__law_pattern := ⟨_, _, ⟨fun_mk (st := s__law_pattern) l11 c11 k11, PySem.W.mg_of X G a11⟩, (fun_mk (st := s__law_pattern) l11 c11 k11).binds (ps := p__law_pattern) (fun _ _ _ _ _ _ us hl => match us, hl with | [_, _, _], _ => rfl)⟩, f__law_letters := ⟨_, _, ⟨fun_mk (st := s__law_letters) l12 c12 k12, PySem.W.mg_of X G a12⟩, (fun_mk (st := s__law_letters) l12 c12 k12).binds (ps := p__law_letters) (fun _ _ _ _ _ _ us hl => match us, hl with | [_, _], _ => rfl)⟩, f__law_shape := ⟨_, _, ⟨fun_mk (st := s__law_shape) l13 c13 k13, PySem.W.mg_of X G a13⟩, (fun_mk (st := s__law_shape) l13 c13 k13).binds (ps := p__law_shape) (fun _ _ _ _ _ _ us hl => match us, hl with | [_, _], _ => rfl)⟩, f__law_size := ⟨_, _, ⟨fun_mk (st := s__law_size) l14 c14 k14, PySem.W.mg_of X G a14⟩, (fun_mk (st := s__law_size) l14 c14 k14).binds (ps := p__law_size) (fun _ _ _ _ _ _ us hl => match us, hl with | [_], _ => rfl)⟩, f__law_depth := ⟨_, _, ⟨fun_mk (st := s__law_depth) l15 c15 k15, PySem.W.mg_of X G a15⟩, (fun_mk (st := s__law_depth) l15 c15 k15).binds (ps := p__law_depth) (fun _ _ _ _ _ _ us hl => match us, hl with | [_], _ => rfl)⟩, f__law_due := ⟨_, _, ⟨fun_mk (st := s__law_due) l16 c16 k16, PySem.W.mg_of X G a16⟩, (fun_mk (st := s__law_due) l16 c16 k16).binds (ps := p__law_due) (fun _ _ _ _ _ _ us hl => match us, hl with | [_, _], _ => rfl)⟩, f__law_odd := ⟨_, _, ⟨fun_mk (st := s__law_odd) l17 c17 k17, PySem.W.mg_of X G a17⟩, (fun_mk (st := s__law_odd) l17 c17 k17).binds (ps := p__law_odd) (fun _ _ _ _ _ _ us hl => match us, hl with | [_, _], _ => rfl)⟩, f__law_spoilt := ⟨_, _, ⟨fun_mk (st := s__law_spoilt) l18 c18 k18, PySem.W.mg_of X G a18⟩, (fun_mk (st := s__law_spoilt) l18 c18 k18).binds (ps := p__law_spoilt) (fun _ _ _ _ _ _ us hl => match us, hl with | [_, _], _ => rfl)⟩ }
  have Gg : Gb mg := { n_abs := PySem.W.mg_none_of X G z_abs, n_all := PySem.W.mg_none_of X G z_all, n_bool := PySem.W.mg_none_of X G z_bool, n_int := PySem.W.mg_none_of X G z_int, n_isinstance := PySem.W.mg_none_of X G z_isinstance, n_len := PySem.W.mg_none_of X G z_len, n_list := PySem.W.mg_none_of X G z_list, n_max := PySem.W.mg_none_of X G z_max, n_range := PySem.W.mg_none_of X G z_range, n_str := PySem.W.mg_none_of X G z_str, n_sum := PySem.W.mg_none_of X G z_sum, n_tuple := PySem.W.mg_none_of X G z_tuple, c_LETTERS := ⟨_, PySem.W.mg_of X G y_LETTERS⟩, c_LONGEST := ⟨_, PySem.W.mg_of X G y_LONGEST⟩, c_LONGEST_HOLE := ⟨_, PySem.W.mg_of X G y_LONGEST_HOLE⟩, c_MOST_DEEP := ⟨_, PySem.W.mg_of X G y_MOST_DEEP⟩, c_MOST_PARTS := ⟨_, PySem.W.mg_of X G y_MOST_PARTS⟩, c_MOST_SIZE := ⟨_, PySem.W.mg_of X G y_MOST_SIZE⟩ }
  exact ⟨_, fun s v => .of_eq rfl, fun base _ _ => chain Gg T (fun_mk (st := s_law) l19 c19 k19)⟩
end K01

set_option Elab.async false
open PySem PySem.W PyProof.Rows
set_option maxRecDepth 100000 in
set_option maxHeartbeats 0 in
theorem PySem.Challenge.cw_likematch_k01_terms_and_patterns_holds : PySem.Challenge.rw_likematch_k01_terms_and_patterns.Holds := by
  w_on; o_law; k_head; (case hw => w_witness2)
  k_fill
  refine DL.walkL (k := 21) (l := PySem.Challenge.rw_likematch_k01_terms_and_patterns) rfl rfl ⟨rfl, by decide, by decide⟩ (fun w h Y => PySem.W.kIn_of Y) ?F
  case F =>
    intro w mg fa h KX G hmg
    refine' K01.all_mk KX G hmg ?a0 ?l0 ?c0 ?k0 ?a1 ?l1 ?c1 ?k1 ?a2 ?l2 ?c2 ?k2 ?a3 ?l3 ?c3 ?k3 ?a4 ?l4 ?c4 ?k4 ?a5 ?l5 ?c5 ?k5 ?a6 ?l6 ?c6 ?k6 ?a7 ?l7 ?c7 ?k7 ?a8 ?l8 ?c8 ?k8 ?a9 ?l9 ?c9 ?k9 ?a10 ?l10 ?c10 ?k10 ?a11 ?l11 ?c11 ?k11 ?a12 ?l12 ?c12 ?k12 ?a13 ?l13 ?c13 ?k13 ?a14 ?l14 ?c14 ?k14 ?a15 ?l15 ?c15 ?k15 ?a16 ?l16 ?c16 ?k16 ?a17 ?l17 ?c17 ?k17 ?a18 ?l18 ?c18 ?k18 ?a19 ?l19 ?c19 ?k19 ?z_abs ?z_all ?z_bool ?z_int ?z_isinstance ?z_len ?z_list ?z_max ?z_range ?z_str ?z_sum ?z_tuple ?y_LETTERS ?y_LONGEST ?y_LONGEST_HOLE ?y_MOST_DEEP ?y_MOST_PARTS ?y_MOST_SIZE
    (case a0 => k_is)
    (case l0 => k_is)
    (case c0 => k_is)
    (case k0 => k_is)
    (case a1 => k_is)
    (case l1 => k_is)
    (case c1 => k_is)
    (case k1 => k_is)
    (case a2 => k_is)
    (case l2 => k_is)
    (case c2 => k_is)
    (case k2 => k_is)
    (case a3 => k_is)
    (case l3 => k_is)
    (case c3 => k_is)
    (case k3 => k_is)
    (case a4 => k_is)
    (case l4 => k_is)
    (case c4 => k_is)
    (case k4 => k_is)
    (case a5 => k_is)
    (case l5 => k_is)
    (case c5 => k_is)
    (case k5 => k_is)
    (case a6 => k_is)
    (case l6 => k_is)
    (case c6 => k_is)
    (case k6 => k_is)
    (case a7 => k_is)
    (case l7 => k_is)
    (case c7 => k_is)
    (case k7 => k_is)
    (case a8 => k_is)
    (case l8 => k_is)
    (case c8 => k_is)
    (case k8 => k_is)
    (case a9 => k_is)
    (case l9 => k_is)
    (case c9 => k_is)
    (case k9 => k_is)
    (case a10 => k_is)
    (case l10 => k_is)
    (case c10 => k_is)
    (case k10 => k_is)
    (case a11 => k_is)
    (case l11 => k_is)
    (case c11 => k_is)
    (case k11 => k_is)
    (case a12 => k_is)
    (case l12 => k_is)
    (case c12 => k_is)
    (case k12 => k_is)
    (case a13 => k_is)
    (case l13 => k_is)
    (case c13 => k_is)
    (case k13 => k_is)
    (case a14 => k_is)
    (case l14 => k_is)
    (case c14 => k_is)
    (case k14 => k_is)
    (case a15 => k_is)
    (case l15 => k_is)
    (case c15 => k_is)
    (case k15 => k_is)
    (case a16 => k_is)
    (case l16 => k_is)
    (case c16 => k_is)
    (case k16 => k_is)
    (case a17 => k_is)
    (case l17 => k_is)
    (case c17 => k_is)
    (case k17 => k_is)
    (case a18 => k_is)
    (case l18 => k_is)
    (case c18 => k_is)
    (case k18 => k_is)
    (case a19 => k_is)
    (case l19 => k_is)
    (case c19 => k_is)
    (case k19 => k_is)
    (case z_abs => k_is)
    (case z_all => k_is)
    (case z_bool => k_is)
    (case z_int => k_is)
    (case z_isinstance => k_is)
    (case z_len => k_is)
    (case z_list => k_is)
    (case z_max => k_is)
    (case z_range => k_is)
    (case z_str => k_is)
    (case z_sum => k_is)
    (case z_tuple => k_is)
    (case y_LETTERS => k_is)
    (case y_LONGEST => k_is)
    (case y_LONGEST_HOLE => k_is)
    (case y_MOST_DEEP => k_is)
    (case y_MOST_PARTS => k_is)
    (case y_MOST_SIZE => k_is)
#print axioms PySem.Challenge.cw_likematch_k01_terms_and_patterns_holds

