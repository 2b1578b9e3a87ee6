import PyProof.Rows.All
import Wide.All
import OpenK.AllK
import Wide.FinOn
import HandS.ForMost
import HandS.Defaults
import HandS.IsInst
import HandS.TupAny
import HandS.TupMul
import HandS.Conv
import HandS.Flow
import HandS.Exc
import HandS.ExcIs
import HandS.ExcField
import HandS.ExcInit
import HandS.ExcValue
import HandS.WordsExc
import HandS.DictTup
import HandS.DictComp
import KE.KeyNested
import KE.KDictKeyed
import HandS.Walk
import KE.KUnpackStar
import HandS.Steps
import KE.LtData
import KE.DataMinMax
import HandS.Deep
import HandS.SortKw
import HandS.Text
import HandS.Small
import HandS.More
import HandS.DeepEq
import KE.DataFind
import HandS.Style
import PyProof.ReprRoads
import PyProof.NeKinds
import KE.GoesEnum
import HandS.ReplaceLit
import HandS.ReplaceList
import PyProof.ReprLen
import PySem.Challenge.RW_likematch_k05_texts_read_or_refused
set_option Elab.async false
set_option linter.all false
set_option maxRecDepth 100000
set_option maxHeartbeats 4000000
/-! The data layer: Python data as plain trees over the hand layer's heap. -/
namespace DL
open PySem L2

/-- the world that runs (its texts' hashes) -/
class Wd where
  w : World
/-- plain data -/
inductive D where
  | non
  | bl (b : Bool)
  | int (i : Int)
  | str (x : Str)
  | tup (xs : List D)
  | lst (xs : List D)
  | dct (kvs : List (D × D))
  | ref (a : Addr)
  | ty (n : String)
  | exc0 (c : Addr)
  | exc1 (c : Addr) (f : Str) (d : D)

/-- a caught exception at a: of the class cls, its dict at dd -/
def Caught (cls : Value) (dd : Option Addr) (a : Addr) : HO := .ext fun h => ∃ (oe : Obj) (vs : Array Value), h.get? a = some oe ∧ oe.data = .fields vs ∧ Zc cls dd oe

/-! ### keys -/
mutual
/-- data that may be a dict's key, as one -/
def keyOf : D → Option NestedKey
  | .non => some .none
  | .int i => some (.num i)
  | .str x => some (.text x)
  | .tup xs => match keysOf xs with
    | some ks => some (.tup ks)
    | none => none
  | .bl _ => none
  | .lst _ => none
  | .dct _ => none
  | .ref _ => none
  | .ty _ => none
  | .exc0 _ => none
  | .exc1 _ _ _ => none
def keysOf : List D → Option (List NestedKey)
  | [] => some []
  | d :: ds => match keyOf d, keysOf ds with
    | some k, some ks => some (k :: ks)
    | _, _ => none
end
theorem keysOf_cons {d : D} {ds : List D} {ks : List NestedKey} (h : keysOf (d :: ds) = some ks) : ∃ k ks', ks = k :: ks' ∧ keyOf d = some k ∧ keysOf ds = some ks' := by
  unfold keysOf at h
  split at h
  · cases h; exact ⟨_, _, rfl, by assumption, by assumption⟩
  · cases h
theorem keyOf_tup {ds : List D} {k : NestedKey} (h : keyOf (.tup ds) = some k) : ∃ ks, k = .tup ks ∧ keysOf ds = some ks := by
  unfold keyOf at h
  split at h
  · cases h; exact ⟨_, rfl, by assumption⟩
  · cases h
mutual
theorem keyOf_inj : ∀ (d e : D) (k : NestedKey), keyOf d = some k → keyOf e = some k → d = e
  | .non, e, k, h, h' => by
    have hk : NestedKey.none = k := by simpa [keyOf] using h
    subst hk
    cases e with
    | non => rfl
    | tup es => obtain ⟨_, z, _⟩ := keyOf_tup h'; cases z
    | _ => simp [keyOf] at h'
  | .int i, e, k, h, h' => by
    have hk : NestedKey.num i = k := by simpa [keyOf] using h
    subst hk
    cases e with
    | int j => simp [keyOf] at h'; rw [h']
    | tup es => obtain ⟨_, z, _⟩ := keyOf_tup h'; cases z
    | _ => simp [keyOf] at h'
  | .str i, e, k, h, h' => by
    have hk : NestedKey.text i = k := by simpa [keyOf] using h
    subst hk
    cases e with
    | str j => simp [keyOf] at h'; rw [h']
    | tup es => obtain ⟨_, z, _⟩ := keyOf_tup h'; cases z
    | _ => simp [keyOf] at h'
  | .tup ds, e, k, h, h' => by
    obtain ⟨ks, rfl, hk⟩ := keyOf_tup h
    cases e with
    | tup es =>
      obtain ⟨ks', e1, hk'⟩ := keyOf_tup h'
      cases e1
      rw [keysOf_inj ds es ks hk hk']
    | _ => simp [keyOf] at h'
  | .bl _, _, _, h, _ => by simp [keyOf] at h
  | .lst _, _, _, h, _ => by simp [keyOf] at h
  | .dct _, _, _, h, _ => by simp [keyOf] at h
  | .ref _, _, _, h, _ => by simp [keyOf] at h
  | .ty _, _, _, h, _ => by simp [keyOf] at h
  | .exc0 _, _, _, h, _ => by simp [keyOf] at h
  | .exc1 _ _ _, _, _, h, _ => by simp [keyOf] at h
theorem keysOf_inj : ∀ (ds es : List D) (ks : List NestedKey), keysOf ds = some ks → keysOf es = some ks → ds = es
  | [], es, ks, h, h' => by
    simp [keysOf] at h
    subst h
    cases es with
    | nil => rfl
    | cons e es => obtain ⟨_, _, z, _⟩ := keysOf_cons h'; cases z
  | d :: ds, es, ks, h, h' => by
    obtain ⟨k, ks', rfl, h1, h2⟩ := keysOf_cons h
    cases es with
    | nil => simp [keysOf] at h'
    | cons e es =>
      obtain ⟨k2, ks2, z, h3, h4⟩ := keysOf_cons h'
      cases z
      rw [keyOf_inj d e k h1 h3, keysOf_inj ds es ks' h2 h4]
end
/-- a dict whose keys are tuples (of texts, ints, None and such tuples), at a: key, the key's address, value -/
abbrev Ent := NestedKey × Addr × V
def RelE (p : Ent) (q : NestedKey × Addr × Value) : Prop := p.1 = q.1 ∧ p.2.1 = q.2.1 ∧ RelV p.2.2 q.2.2
def DnO [Wd] (a : Addr) (xs : List Ent) : HO := .ext fun h => xs.length ≤ sizeLine ∧ (a == sysModules) = false ∧ ∃ us : List (NestedKey × Addr × Value), Paired RelE xs us ∧
  ∃ o es ep, h.get? a = some o ∧ o.ExactDict ∧ o.data = .dict es ep ∧ es.toList = us.map (fun x => (⟨x.1.hash Wd.w, .ref x.2.1, x.2.2⟩ : DictEntry)) ∧ (us.map (·.1)).Nodup
variable [Wd]

abbrev Own := Addr → Prop

/-- an int's or text's key as data -/
def kD : Key → D
  | .inl i => .int i
  | .inr x => .str x
mutual
/-- the value v stands for the data d; no list or dict of it is one that own names -/
inductive Is (own : Own) (H : Hp) : V → D → Prop
  | non : Is own H .non .non
  | bl (b : Bool) : Is own H (.bl b) (.bl b)
  | int (i : Int) : Is own H (.int i) (.int i)
  | str (x : Str) : Is own H (.str x) (.str x)
  | tup {a : Addr} {vs : List V} {ds : List D} : H a = some (.tup vs) → ¬ own a → IsAll own H vs ds → Is own H (.ref a) (.tup ds)
  | lst {a : Addr} {vs : List V} {ds : List D} : H a = some (.lst vs) → ¬ own a → IsAll own H vs ds → Is own H (.ref a) (.lst ds)
  | dct {a : Addr} {o : Obj} {kvs : List (Key × V)} {ds : List (D × D)} : H a = some (.frz o (.dK kvs)) → ¬ own a → IsKV own H kvs ds → Is own H (.ref a) (.dct ds)
  | dcn {a : Addr} {o : Obj} {kvs : List Ent} {ds : List (D × D)} : H a = some (.frz o (DnO a kvs)) → ¬ own a → IsKN own H kvs ds → ds ≠ [] → Is own H (.ref a) (.dct ds)
  | ref (a : Addr) : Is own H (.ref a) (.ref a)
  | ty (n : String) : Is own H (.ty n) (.ty n)
  | exc0 {a c : Addr} : H a = some (Caught (.ref c) none a) → ¬ own a → Is own H (.ref a) (.exc0 c)
  | exc1 {a c dx : Addr} {f : Str} {v : V} {d : D} : H a = some (Caught (.ref c) (some dx) a) → ¬ own a → H dx = some (.xd [(f, v)]) → ¬ own dx → Is own H v d → Is own H (.ref a) (.exc1 c f d)
inductive IsAll (own : Own) (H : Hp) : List V → List D → Prop
  | nil : IsAll own H [] []
  | cons {v : V} {vs : List V} {d : D} {ds : List D} : Is own H v d → IsAll own H vs ds → IsAll own H (v :: vs) (d :: ds)
inductive IsKV (own : Own) (H : Hp) : List (Key × V) → List (D × D) → Prop
  | nil : IsKV own H [] []
  | cons {k : Key} {v : V} {vs : List (Key × V)} {d : D} {ds : List (D × D)} : Is own H v d → IsKV own H vs ds → IsKV own H ((k, v) :: vs) ((kD k, d) :: ds)
inductive IsKN (own : Own) (H : Hp) : List Ent → List (D × D) → Prop
  | nil : IsKN own H [] []
  | cons {k : NestedKey} {b : Addr} {v : V} {vs : List Ent} {e d : D} {ds : List (D × D)} : Is own H (.ref b) e → keyOf e = some k → k.depth ≤ 8 → Is own H v d → IsKN own H vs ds → IsKN own H ((k, b, v) :: vs) ((e, d) :: ds)
end

/-- .. where the value itself may be one that own names (its parts may not) -/
inductive IsT (own : Own) (H : Hp) : V → D → Prop
  | non : IsT own H .non .non
  | bl (b : Bool) : IsT own H (.bl b) (.bl b)
  | int (i : Int) : IsT own H (.int i) (.int i)
  | str (x : Str) : IsT own H (.str x) (.str x)
  | tup {a : Addr} {vs : List V} {ds : List D} : H a = some (.tup vs) → ¬ own a → IsAll own H vs ds → IsT own H (.ref a) (.tup ds)
  | lst {a : Addr} {vs : List V} {ds : List D} : H a = some (.lst vs) → True → IsAll own H vs ds → IsT own H (.ref a) (.lst ds)
  | dct {a : Addr} {kvs : List (Key × V)} {ds : List (D × D)} : Rd H a (.dK kvs) → True → IsKV own H kvs ds → IsT own H (.ref a) (.dct ds)
  | dcn {a : Addr} {kvs : List Ent} {ds : List (D × D)} : Rd H a (DnO a kvs) → True → IsKN own H kvs ds → ds ≠ [] → IsT own H (.ref a) (.dct ds)
  | ref (a : Addr) : IsT own H (.ref a) (.ref a)
  | ty (n : String) : IsT own H (.ty n) (.ty n)
  | exc0 {a c : Addr} : H a = some (Caught (.ref c) none a) → ¬ own a → IsT own H (.ref a) (.exc0 c)
  | exc1 {a c dx : Addr} {f : Str} {v : V} {d : D} : H a = some (Caught (.ref c) (some dx) a) → ¬ own a → H dx = some (.xd [(f, v)]) → ¬ own dx → Is own H v d → IsT own H (.ref a) (.exc1 c f d)
theorem Is.toT {own : Own} {H : Hp} {v : V} {d : D} (h : Is own H v d) : IsT own H v d := by
  cases h with
  | non => exact .non
  | bl b => exact .bl b
  | int i => exact .int i
  | str x => exact .str x
  | tup h1 n1 a1 => exact .tup h1 n1 a1
  | lst h1 n1 a1 => exact .lst h1 trivial a1
  | dct h1 n1 a1 => exact .dct (.inr ⟨_, h1⟩) trivial a1
  | dcn h1 n1 a1 e1 => exact .dcn (.inr ⟨_, h1⟩) trivial a1 e1
  | ref a => exact .ref a
  | ty n => exact .ty n
  | exc0 h1 n1 => exact .exc0 h1 n1
  | exc1 h1 n1 h2 n2 i => exact .exc1 h1 n1 h2 n2 i
inductive IsTAll (own : Own) (H : Hp) : List V → List D → Prop
  | nil : IsTAll own H [] []
  | cons {v : V} {vs : List V} {d : D} {ds : List D} : IsT own H v d → IsTAll own H vs ds → IsTAll own H (v :: vs) (d :: ds)
theorem IsAll.toT {own : Own} {H : Hp} : ∀ {vs : List V} {ds : List D}, IsAll own H vs ds → IsTAll own H vs ds
  | _, _, .nil => .nil
  | _, _, .cons h t => .cons h.toT t.toT
theorem IsTAll.length {own : Own} {H : Hp} : ∀ {vs : List V} {ds : List D}, IsTAll own H vs ds → vs.length = ds.length
  | _, _, .nil => rfl
  | _, _, .cons _ t => congrArg Nat.succ t.length

/-- what own does not name stands as it stood, and is not named later -/
def Kp (own : Own) (H : Hp) (own' : Own) (H' : Hp) : Prop := ∀ a o, H a = some o → ¬ own a → H' a = some o ∧ ¬ own' a
theorem Kp.refl {own : Own} {H : Hp} : Kp own H own H := fun _ _ h n => ⟨h, n⟩
theorem Kp.trans {o1 o2 o3 : Own} {H1 H2 H3 : Hp} (a : Kp o1 H1 o2 H2) (b : Kp o2 H2 o3 H3) : Kp o1 H1 o3 H3 := fun x o h n => by
  obtain ⟨h2, n2⟩ := a x o h n
  exact b x o h2 n2
theorem Kp.same {own : Own} {H H' : Hp} (e : Same H H') : Kp own H own H' := fun a o h n => ⟨e a o h, n⟩

mutual
theorem Is.mono {own own' : Own} {H H' : Hp} (k : Kp own H own' H') : ∀ (d : D) {v : V}, Is own H v d → Is own' H' v d
  | .non, _, h => by cases h; exact .non
  | .bl b, _, h => by cases h; exact .bl b
  | .int i, _, h => by cases h; exact .int i
  | .str x, _, h => by cases h; exact .str x
  | .ref a, _, h => by cases h; exact .ref a
  | .ty n, _, h => by cases h; exact .ty n
  | .exc0 c, _, h => by
    cases h with
    | exc0 ha n => exact .exc0 (k _ _ ha n).1 (k _ _ ha n).2
  | .exc1 c f d, _, h => by
    cases h with
    | exc1 ha n hd m hv => exact .exc1 (k _ _ ha n).1 (k _ _ ha n).2 (k _ _ hd m).1 (k _ _ hd m).2 (Is.mono k d hv)
  | .tup ds, _, h => by
    cases h with
    | tup ha n hs => exact .tup (k _ _ ha n).1 (k _ _ ha n).2 (IsAll.mono k ds hs)
  | .lst ds, _, h => by
    cases h with
    | lst ha n hs => exact .lst (k _ _ ha n).1 (k _ _ ha n).2 (IsAll.mono k ds hs)
  | .dct ds, _, h => by
    cases h with
    | dct ha n hs => exact .dct (k _ _ ha n).1 (k _ _ ha n).2 (IsKV.mono k ds hs)
    | dcn ha n hs e => exact .dcn (k _ _ ha n).1 (k _ _ ha n).2 (IsKN.mono k ds hs) e
theorem IsAll.mono {own own' : Own} {H H' : Hp} (k : Kp own H own' H') : ∀ (ds : List D) {vs : List V}, IsAll own H vs ds → IsAll own' H' vs ds
  | [], _, h => by cases h; exact .nil
  | d :: ds, _, h => by
    cases h with
    | cons h1 h2 => exact .cons (Is.mono k d h1) (IsAll.mono k ds h2)
theorem IsKV.mono {own own' : Own} {H H' : Hp} (k : Kp own H own' H') : ∀ (ds : List (D × D)) {vs : List (Key × V)}, IsKV own H vs ds → IsKV own' H' vs ds
  | [], _, h => by cases h; exact .nil
  | (_, d) :: ds, _, h => by
    cases h with
    | cons h1 h2 => exact .cons (Is.mono k d h1) (IsKV.mono k ds h2)
theorem IsKN.mono {own own' : Own} {H H' : Hp} (k : Kp own H own' H') : ∀ (ds : List (D × D)) {vs : List Ent}, IsKN own H vs ds → IsKN own' H' vs ds
  | [], _, h => by cases h; exact .nil
  | (e, d) :: ds, _, h => by
    cases h with
    | cons h1 h2 h3 h4 h5 => exact .cons (Is.mono k e h1) h2 h3 (Is.mono k d h4) (IsKN.mono k ds h5)
end
section
variable {own own' : Own} {H H' : Hp} {v : V} {d : D} {vs ws : List V} {ds es : List D}
theorem Is.kp (h : Is own H v d) (k : Kp own H own' H') : Is own' H' v d := Is.mono k d h
theorem Is.same (h : Is own H v d) (e : Same H H') : Is own H' v d := Is.mono (Kp.same e) d h
theorem IsAll.kp (h : IsAll own H vs ds) (k : Kp own H own' H') : IsAll own' H' vs ds := IsAll.mono k ds h
theorem IsAll.same (h : IsAll own H vs ds) (e : Same H H') : IsAll own H' vs ds := IsAll.mono (Kp.same e) ds h
theorem IsAll.length : ∀ {vs : List V} {ds : List D}, IsAll own H vs ds → vs.length = ds.length
  | _, _, .nil => rfl
  | _, _, .cons _ t => congrArg Nat.succ t.length
theorem IsAll.get : ∀ {vs : List V} {ds : List D} {i : Nat} {d : D}, IsAll own H vs ds → ds[i]? = some d → ∃ v, vs[i]? = some v ∧ Is own H v d
  | _, _, _, _, .nil, e => by simp at e
  | _, _, 0, _, .cons r _, e => by simp at e; subst e; exact ⟨_, rfl, r⟩
  | _, _, i + 1, d, .cons _ t, e => by
    obtain ⟨v, h1, h2⟩ := IsAll.get (i := i) (d := d) t (by simpa using e)
    exact ⟨v, by simpa using h1, h2⟩
theorem IsAll.getV : ∀ {vs : List V} {ds : List D} {i : Nat} {v : V}, IsAll own H vs ds → vs[i]? = some v → ∃ d, ds[i]? = some d ∧ Is own H v d
  | _, _, _, _, .nil, e => by simp at e
  | _, _, 0, _, .cons r _, e => by simp at e; subst e; exact ⟨_, rfl, r⟩
  | _, _, i + 1, d, .cons _ t, e => by
    obtain ⟨v, h1, h2⟩ := IsAll.getV (i := i) (v := d) t (by simpa using e)
    exact ⟨v, by simpa using h1, h2⟩
theorem IsAll.append : ∀ {vs ws : List V} {ds es : List D}, IsAll own H vs ds → IsAll own H ws es → IsAll own H (vs ++ ws) (ds ++ es)
  | _, _, _, _, .nil, s => s
  | _, _, _, _, .cons r t, s => .cons r (t.append s)
theorem IsAll.take : ∀ {vs : List V} {ds : List D} (n : Nat), IsAll own H vs ds → IsAll own H (vs.take n) (ds.take n)
  | _, _, 0, _ => .nil
  | _, _, _ + 1, .nil => .nil
  | _, _, n + 1, .cons r t => .cons r (t.take n)
theorem IsAll.drop : ∀ {vs : List V} {ds : List D} (n : Nat), IsAll own H vs ds → IsAll own H (vs.drop n) (ds.drop n)
  | _, _, 0, r => r
  | _, _, _ + 1, .nil => .nil
  | _, _, n + 1, .cons _ t => t.drop n
theorem IsAll.one (h : Is own H v d) : IsAll own H [v] [d] := .cons h .nil
theorem IsAll.set : ∀ {vs : List V} {ds : List D} (i : Nat), Is own H v d → IsAll own H vs ds → IsAll own H (vs.set i v) (ds.set i d)
  | _, _, _, _, .nil => .nil
  | _, _, 0, h, .cons _ t => .cons h t
  | _, _, i + 1, h, .cons q t => .cons q (t.set i h)
theorem IsAll.rep (h : IsAll own H vs ds) : ∀ n : Nat, IsAll own H (List.replicate n vs).flatten (List.replicate n ds).flatten
  | 0 => .nil
  | n + 1 => by
    rw [List.replicate_succ, List.replicate_succ, List.flatten_cons, List.flatten_cons]
    exact h.append (IsAll.rep h n)
theorem IsAll.ints : ∀ {vs : List V} {ns : List Int}, IsAll own H vs (ns.map D.int) → vs = ns.map V.int
  | _, [], h => by cases h; rfl
  | _, n :: ns, h => by
    cases h with
    | cons h1 h2 =>
      cases h1
      rw [IsAll.ints h2, List.map_cons]
theorem IsAll.bls : ∀ {vs : List V} {bs : List Bool}, IsAll own H vs (bs.map D.bl) → vs = bs.map V.bl
  | _, [], h => by cases h; rfl
  | _, n :: ns, h => by
    cases h with
    | cons h1 h2 =>
      cases h1
      rw [IsAll.bls h2, List.map_cons]
theorem IsAll.strs : ∀ {vs : List V} {bs : List Str}, IsAll own H vs (bs.map D.str) → vs = bs.map V.str
  | _, [], h => by cases h; rfl
  | _, n :: ns, h => by
    cases h with
    | cons h1 h2 =>
      cases h1
      rw [IsAll.strs h2, List.map_cons]
theorem IsAll.ofInts : ∀ (ns : List Int), IsAll own H (ns.map V.int) (ns.map D.int)
  | [] => .nil
  | n :: ns => .cons (.int n) (IsAll.ofInts ns)
theorem IsAll.ofBls : ∀ (ns : List Bool), IsAll own H (ns.map V.bl) (ns.map D.bl)
  | [] => .nil
  | n :: ns => .cons (.bl n) (IsAll.ofBls ns)
theorem IsAll.ofStrs : ∀ (ns : List Str), IsAll own H (ns.map V.str) (ns.map D.str)
  | [] => .nil
  | n :: ns => .cons (.str n) (IsAll.ofStrs ns)
/-- own names what stands -/
def OwnOk (own : Own) (H : Hp) : Prop := ∀ a, own a → H a ≠ none
theorem OwnOk.new {a : Addr} (o : OwnOk own H) (h : H a = none) : ¬ own a := fun q => o a q h
theorem OwnOk.same (o : OwnOk own H) (e : Same H H') : OwnOk own H' := fun a q h => by
  cases x : H a with
  | none => exact o a q x
  | some u => rw [e a u x] at h; cases h
theorem same_new {p : Addr} {o : HO} (h : H p = none) : Same H (upd H p o) := fun b u q => by
  rw [upd_ne (ne_of_none q h)]
  exact q
theorem Is.newTup {p : Addr} (o : OwnOk own H) (h : H p = none) (hs : IsAll own H vs ds) : Is own (upd H p (.tup vs)) (.ref p) (.tup ds) :=
  .tup upd_same (o.new h) (hs.same (same_new h))
theorem Is.newLst {p : Addr} (o : OwnOk own H) (h : H p = none) (hs : IsAll own H vs ds) : Is own (upd H p (.lst vs)) (.ref p) (.lst ds) :=
  .lst upd_same (o.new h) (hs.same (same_new h))
end

/-! ### the slots -/
abbrev Env := List (Option D)
inductive EnvR (own : Own) (H : Hp) : L2.St → Env → Prop
  | nil : EnvR own H [] []
  | skip {o : Option V} {σ : L2.St} {δ : Env} : EnvR own H σ δ → EnvR own H (o :: σ) (none :: δ)
  | cons {v : V} {d : D} {σ : L2.St} {δ : Env} : Is own H v d → EnvR own H σ δ → EnvR own H (some v :: σ) (some d :: δ)
section
variable {own own' : Own} {H H' : Hp} {σ : L2.St} {δ : Env} {v : V} {d : D}
theorem EnvR.kp (k : Kp own H own' H') : ∀ {σ : L2.St} {δ : Env}, EnvR own H σ δ → EnvR own' H' σ δ
  | _, _, .nil => .nil
  | _, _, .skip t => .skip (EnvR.kp k t)
  | _, _, .cons h t => .cons (h.kp k) (EnvR.kp k t)
theorem EnvR.same (h : EnvR own H σ δ) (e : Same H H') : EnvR own H' σ δ := h.kp (Kp.same e)
theorem EnvR.get : ∀ {σ : L2.St} {δ : Env} {i : Nat} {d : D}, EnvR own H σ δ → δ[i]? = some (some d) → ∃ v, σ[i]? = some (some v) ∧ Is own H v d
  | _, _, _, _, .nil, e => by simp at e
  | _, _, 0, _, .skip _, e => by simp at e
  | _, _, 0, _, .cons h _, e => by simp at e; subst e; exact ⟨_, rfl, h⟩
  | _, _, i + 1, d, .skip t, e => by
    obtain ⟨v, h1, h2⟩ := EnvR.get (i := i) (d := d) t (by simpa using e)
    exact ⟨v, by simpa using h1, h2⟩
  | _, _, i + 1, d, .cons _ t, e => by
    obtain ⟨v, h1, h2⟩ := EnvR.get (i := i) (d := d) t (by simpa using e)
    exact ⟨v, by simpa using h1, h2⟩
theorem EnvR.set : ∀ {σ : L2.St} {δ : Env} (i : Nat), Is own H v d → EnvR own H σ δ → EnvR own H (σ.set i (some v)) (δ.set i (some d))
  | _, _, _, _, .nil => .nil
  | _, _, 0, h, .skip t => .cons h t
  | _, _, 0, h, .cons _ t => .cons h t
  | _, _, i + 1, h, .skip t => .skip (t.set i h)
  | _, _, i + 1, h, .cons q t => .cons q (t.set i h)
theorem EnvR.drop : ∀ {σ : L2.St} {δ : Env} (i : Nat), EnvR own H σ δ → EnvR own H (σ.set i none) (δ.set i none)
  | _, _, _, .nil => .nil
  | _, _, 0, .skip t => .skip t
  | _, _, 0, .cons _ t => .skip t
  | _, _, i + 1, .skip t => .skip (t.drop i)
  | _, _, i + 1, .cons q t => .cons q (t.drop i)
/-- a slot is forgotten -/
theorem EnvR.forget : ∀ {σ : L2.St} {δ : Env} (i : Nat), EnvR own H σ δ → EnvR own H σ (δ.set i none)
  | _, _, _, .nil => .nil
  | _, _, 0, .skip t => .skip t
  | _, _, 0, .cons _ t => .skip t
  | _, _, i + 1, .skip t => .skip (t.forget i)
  | _, _, i + 1, .cons q t => .cons q (t.forget i)
def wipeD (δ : Env) : List Nat → Env
  | [] => δ
  | v :: vs => (wipeD δ vs).set v none
theorem EnvR.wipe (h : EnvR own H σ δ) : ∀ vs : List Nat, EnvR own H (L2.wipe σ vs) (wipeD δ vs)
  | [] => h
  | v :: vs => (EnvR.wipe h vs).drop v
theorem EnvR.start : ∀ {vs : List V} {ds : List D}, IsAll own H vs ds → ∀ n : Nat, EnvR own H (vs.map some ++ List.replicate n none) (ds.map some ++ List.replicate n none)
  | _, _, .nil, 0 => .nil
  | _, _, .nil, n + 1 => .skip (EnvR.start .nil n)
  | _, _, .cons h t, n => .cons h (EnvR.start t n)
end
end DL

set_option Elab.async false
set_option linter.all false
set_option maxRecDepth 100000
set_option maxHeartbeats 4000000
namespace DL
open PySem L2
variable [Wd]

/-! ### pure readings: what t gives, nothing being changed -/
def EvP (t : TE) (δ : Env) (d : D) : Prop := ∀ (own : Own) (σ : L2.St) (H : Hp), OwnOk own H → EnvR own H σ δ → ∀ Q : VK, (∀ v H', Same H H' → Is own H' v d → Q v H') → t σ H Q
def EtP (t : TT) (δ : Env) (b : Bool) : Prop := ∀ (own : Own) (σ : L2.St) (H : Hp), OwnOk own H → EnvR own H σ δ → ∀ Q : Bool → Hp → Prop, (∀ H', Same H H' → Q b H') → t σ H Q
def EaP (t : TA) (δ : Env) (ds : List D) : Prop := ∀ (own : Own) (σ : L2.St) (H : Hp), OwnOk own H → EnvR own H σ δ → ∀ Q : List V → Hp → Prop, (∀ vs H', Same H H' → IsAll own H' vs ds → Q vs H') → t σ H Q
def EoP (t : TO) (δ : Env) (o : Option Int) : Prop := ∀ (own : Own) (σ : L2.St) (H : Hp), OwnOk own H → EnvR own H σ δ → ∀ Q : Option Int → Hp → Prop, (∀ H', Same H H' → Q o H') → t σ H Q
/-- an operation on values, a call on values, a slice -/
def RvP (r : R2) (d e z : D) : Prop := ∀ (own : Own) (H : Hp) (x y : V), OwnOk own H → IsT own H x d → IsT own H y e → ∀ Q : VK, (∀ v H', Same H H' → Is own H' v z → Q v H') → r x y H Q
def RuP (r : V → Hp → VK → Prop) (d z : D) : Prop := ∀ (own : Own) (H : Hp) (x : V), OwnOk own H → IsT own H x d → ∀ Q : VK, (∀ v H', Same H H' → Is own H' v z → Q v H') → r x H Q
def RcP (r : List V → Hp → VK → Prop) (ds : List D) (z : D) : Prop := ∀ (own : Own) (H : Hp) (xs : List V), OwnOk own H → IsTAll own H xs ds → ∀ Q : VK, (∀ v H', Same H H' → Is own H' v z → Q v H') → r xs H Q
def RsP (r : V → Option Int → Option Int → Hp → VK → Prop) (d : D) (lo hi : Option Int) (z : D) : Prop := ∀ (own : Own) (H : Hp) (x : V), OwnOk own H → IsT own H x d → ∀ Q : VK, (∀ v H', Same H H' → Is own H' v z → Q v H') → r x lo hi H Q
def RmP (r : V → List V → Hp → VK → Prop) (d : D) (ds : List D) (z : D) : Prop := ∀ (own : Own) (H : Hp) (x : V) (xs : List V), OwnOk own H → IsT own H x d → IsTAll own H xs ds → ∀ Q : VK, (∀ v H', Same H H' → Is own H' v z → Q v H') → r x xs H Q

section
variable {δ : Env} {ta tb tc te : TE} {t u : TT} {d e z : D} {ds : List D} {b c : Bool} {r r' : R2}
theorem p_var {i : Nat} (h : δ[i]? = some (some d)) : EvP (tVar i) δ d := fun own σ H _ E Q q => by
  obtain ⟨v, hv, hi⟩ := E.get h
  exact ⟨v, hv, q v H (Same.refl H) hi⟩
theorem p_int {i : Int} : EvP (tC (.int i)) δ (.int i) := fun _ _ H _ _ _ q => q _ H (Same.refl H) (.int i)
theorem p_str {x : Str} : EvP (tC (.str x)) δ (.str x) := fun _ _ H _ _ _ q => q _ H (Same.refl H) (.str x)
theorem p_bl {x : Bool} : EvP (tC (.bl x)) δ (.bl x) := fun _ _ H _ _ _ q => q _ H (Same.refl H) (.bl x)
theorem p_non : EvP (tC .non) δ .non := fun _ _ H _ _ _ q => q _ H (Same.refl H) .non
theorem p_is (h : EvP te δ d) (e' : d = e) : EvP te δ e := e' ▸ h
theorem pt_is (h : EtP t δ b) (e' : b = c) : EtP t δ c := e' ▸ h
theorem p_op (ha : EvP ta δ d) (hb : EvP tb δ e) (hr : RvP r d e z) : EvP (tOp r ta tb) δ z := fun own σ H o E Q q =>
  ha own σ H o E _ fun v H1 s1 i1 => hb own σ H1 (o.same s1) (E.same s1) _ fun u H2 s2 i2 =>
    hr own H2 v u ((o.same s1).same s2) (i1.same s2).toT i2.toT Q fun w H3 s3 i3 => q w H3 ((s1.trans s2).trans s3) i3
theorem p_un {r : V → Hp → VK → Prop} (ha : EvP ta δ d) (hr : RuP r d z) : EvP (tUn r ta) δ z := fun own σ H o E Q q =>
  ha own σ H o E _ fun v H1 s1 i1 => hr own H1 v (o.same s1) i1.toT Q fun w H3 s3 i3 => q w H3 (s1.trans s3) i3
/-- a op b op c -/
theorem p_chain {f : D} (ha : EvP ta δ d) (hb : EvP tb δ e) (hr : RvP r d e (.bl b)) (hc : b = true → EvP tc δ f ∧ RvP r' e f (.bl c)) : EvP (tChain r r' ta tb tc) δ (.bl (b && c)) := fun own σ H o E Q q =>
  ha own σ H o E _ fun v H1 s1 i1 => hb own σ H1 (o.same s1) (E.same s1) _ fun u H2 s2 i2 => by
    have o2 := (o.same s1).same s2
    refine hr own H2 v u o2 (i1.same s2).toT i2.toT _ fun w H3 s3 i3 => ?_
    cases i3
    refine ⟨b, rfl, ?_⟩
    cases b with
    | false => exact q _ H3 ((s1.trans s2).trans s3) (.bl false)
    | true =>
      obtain ⟨hc1, hc2⟩ := hc rfl
      show tc σ H3 _
      exact hc1 own σ H3 (o2.same s3) (((E.same s1).same s2).same s3) _ fun w' H4 s4 i4 =>
        hc2 own H4 u w' ((o2.same s3).same s4) ((i2.same s3).same s4).toT i4.toT Q fun y H5 s5 i5 => q y H5 ((((s1.trans s2).trans s3).trans s4).trans s5) i5
theorem pt_test (h : EvP te δ (.bl b)) : EtP (tTest te) δ b := fun own σ H o E Q q => h own σ H o E _ fun v H1 s1 i1 => by
  cases i1
  exact ⟨b, rfl, q H1 s1⟩
theorem pt_B (h : EvP te δ (.bl b)) : EtP (tB te) δ b := fun own σ H o E Q q => h own σ H o E _ fun v H1 s1 i1 => by
  cases i1
  exact ⟨b, rfl, q H1 s1⟩
theorem pt_notP (h : EtP t δ b) : EtP (tNot t) δ (!b) := fun own σ H o E Q q => h own σ H o E _ fun H1 s1 => q H1 s1
theorem pt_and (h1 : EtP t δ b) (h2 : b = true → EtP u δ c) : EtP (tAnd t u) δ (b && c) := fun own σ H o E Q q => h1 own σ H o E _ fun H1 s1 => by
  cases b with
  | true => exact h2 rfl own σ H1 (o.same s1) (E.same s1) Q fun H2 s2 => q H2 (s1.trans s2)
  | false => exact q H1 s1
theorem pt_or (h1 : EtP t δ b) (h2 : b = false → EtP u δ c) : EtP (tOr t u) δ (b || c) := fun own σ H o E Q q => h1 own σ H o E _ fun H1 s1 => by
  cases b with
  | false => exact h2 rfl own σ H1 (o.same s1) (E.same s1) Q fun H2 s2 => q H2 (s1.trans s2)
  | true => exact q H1 s1
theorem p_and (h1 : EvP ta δ (.bl b)) (h2 : b = true → EvP tb δ (.bl c)) : EvP (tAndV ta tb) δ (.bl (b && c)) := fun own σ H o E Q q => h1 own σ H o E _ fun v H1 s1 i1 => by
  cases i1
  refine ⟨b, rfl, ?_⟩
  cases b with
  | true => exact h2 rfl own σ H1 (o.same s1) (E.same s1) Q fun w H2 s2 i2 => q w H2 (s1.trans s2) i2
  | false => exact q _ H1 s1 (.bl false)
theorem p_or (h1 : EvP ta δ (.bl b)) (h2 : b = false → EvP tb δ (.bl c)) : EvP (tOrV ta tb) δ (.bl (b || c)) := fun own σ H o E Q q => h1 own σ H o E _ fun v H1 s1 i1 => by
  cases i1
  refine ⟨b, rfl, ?_⟩
  cases b with
  | false => exact h2 rfl own σ H1 (o.same s1) (E.same s1) Q fun w H2 s2 i2 => q w H2 (s1.trans s2) i2
  | true => exact q _ H1 s1 (.bl true)
theorem p_not (h1 : EvP ta δ (.bl b)) : EvP (tNotV ta) δ (.bl (!b)) := fun own σ H o E Q q => h1 own σ H o E _ fun v H1 s1 i1 => by
  cases i1
  exact ⟨b, rfl, q _ H1 s1 (.bl _)⟩
theorem p_if (h : EtP t δ b) (h1 : b = true → EvP ta δ d) (h2 : b = false → EvP tb δ d) : EvP (tIf t ta tb) δ d := fun own σ H o E Q q => h own σ H o E _ fun H1 s1 => by
  cases b with
  | true => exact h1 rfl own σ H1 (o.same s1) (E.same s1) Q fun w H2 s2 i2 => q w H2 (s1.trans s2) i2
  | false => exact h2 rfl own σ H1 (o.same s1) (E.same s1) Q fun w H2 s2 i2 => q w H2 (s1.trans s2) i2
theorem a_nil : EaP tNil δ [] := fun own σ H o E Q q => q [] H (Same.refl H) .nil
theorem a_cons {ta : TE} {tr : TA} (h : EvP ta δ d) (hr : EaP tr δ ds) : EaP (tCons ta tr) δ (d :: ds) := fun own σ H o E Q q =>
  h own σ H o E _ fun v H1 s1 i1 => hr own σ H1 (o.same s1) (E.same s1) _ fun vs H2 s2 i2 => q _ H2 (s1.trans s2) (.cons (i1.same s2) i2)
theorem p_tup {ta : TA} (h : EaP ta δ ds) (hl : ds.length ≤ sizeLine) : EvP (tTup ta) δ (.tup ds) := fun own σ H o E Q q =>
  h own σ H o E _ fun vs H1 s1 i1 => ⟨by rw [i1.length]; exact hl, fun p hp => q _ _ (s1.trans (same_new hp)) (Is.newTup (o.same s1) hp i1)⟩
theorem p_lst {ta : TA} (h : EaP ta δ ds) (hl : ds.length ≤ sizeLine) : EvP (tLst ta) δ (.lst ds) := fun own σ H o E Q q =>
  h own σ H o E _ fun vs H1 s1 i1 => ⟨by rw [i1.length]; exact hl, fun p hp => q _ _ (s1.trans (same_new hp)) (Is.newLst (o.same s1) hp i1)⟩
theorem p_cb {r : List V → Hp → VK → Prop} {ta : TA} (h : EaP ta δ ds) (hr : RcP r ds z) : EvP (tCB r ta) δ z := fun own σ H o E Q q =>
  h own σ H o E _ fun vs H1 s1 i1 => hr own H1 vs (o.same s1) i1.toT Q fun w H2 s2 i2 => q w H2 (s1.trans s2) i2
theorem o_none : EoP tNoPart δ none := fun own σ H o E Q q => q H (Same.refl H)
theorem o_some {i : Int} (h : EvP te δ (.int i)) : EoP (tPart te) δ (some i) := fun own σ H o E Q q => h own σ H o E _ fun v H1 s1 i1 => by
  cases i1
  exact ⟨i, rfl, q H1 s1⟩
theorem p_slice {r : V → Option Int → Option Int → Hp → VK → Prop} {tl th : TO} {lo hi : Option Int} (h : EvP te δ d) (hl : EoP tl δ lo) (hh : EoP th δ hi) (hr : RsP r d lo hi z) : EvP (tSl r te tl th) δ z := fun own σ H o E Q q =>
  h own σ H o E _ fun v H1 s1 i1 => hl own σ H1 (o.same s1) (E.same s1) _ fun H2 s2 => hh own σ H2 ((o.same s1).same s2) ((E.same s1).same s2) _ fun H3 s3 =>
    hr own H3 v (((o.same s1).same s2).same s3) ((i1.same s2).same s3).toT Q fun w H4 s4 i4 => q w H4 (((s1.trans s2).trans s3).trans s4) i4
theorem p_then {k : V → Hp → VK → Prop} (h : EvP ta δ d) (hr : RuP k d z) : EvP (tThen ta k) δ z := fun own σ H o E Q q =>
  h own σ H o E _ fun v H1 s1 i1 => hr own H1 v (o.same s1) i1.toT Q fun w H2 s2 i2 => q w H2 (s1.trans s2) i2

/-! ### operations -/
theorem rv_int {g : Int → Int → Int} {i j : Int} : RvP (rI0 fun i j => .int (g i j)) (.int i) (.int j) (.int (g i j)) := fun own H x y o hx hy Q q => by
  cases hx; cases hy
  exact ⟨i, j, rfl, rfl, q _ H (Same.refl H) (.int _)⟩
theorem rv_intB {g : Int → Int → Bool} {i j : Int} : RvP (rI0 fun i j => .bl (g i j)) (.int i) (.int j) (.bl (g i j)) := fun own H x y o hx hy Q q => by
  cases hx; cases hy
  exact ⟨i, j, rfl, rfl, q _ H (Same.refl H) (.bl _)⟩
theorem rv_intC {C : Int → Int → Prop} {g : Int → Int → Int} {i j : Int} (h : C i j) : RvP (rI C fun i j => .int (g i j)) (.int i) (.int j) (.int (g i j)) := fun own H x y o hx hy Q q => by
  cases hx; cases hy
  exact ⟨i, j, rfl, rfl, h, q _ H (Same.refl H) (.int _)⟩
theorem rv_inl (h : RvP r d e z) : RvP (fun x y H Q => r x y H Q ∨ r' x y H Q) d e z := fun own H x y o hx hy Q q => .inl (h own H x y o hx hy Q q)
theorem rv_inr (h : RvP r' d e z) : RvP (fun x y H Q => r x y H Q ∨ r' x y H Q) d e z := fun own H x y o hx hy Q q => .inr (h own H x y o hx hy Q q)

/-! ### + -/
def rStrAdd : R2 := fun x y H Q => ∃ i j, x = .str i ∧ y = .str j ∧ i.length + j.length ≤ sizeLine ∧ Q (.str (i ++ j)) H
def rAddA (K : PySem.W.Frag) : R2 := fun x y H Q => (rI0 fun i j => .int (i + j)) x y H Q ∨ (rStrAdd x y H Q ∨ (rCat x y H Q ∨ rCatA K x y H Q))
theorem op_addA {X : Cx} : OpR X (binaryOp .Add) (rAddA X.K) := op_add.or ((show OpR X (binaryOp .Add) rStrAdd from op_add_str).or (op_cat.or op_catA))
variable {K : PySem.W.Frag}
theorem add_int {i j : Int} : RvP (rAddA K) (.int i) (.int j) (.int (i + j)) := rv_inl rv_int
theorem add_str {x y : Str} (hl : x.length + y.length ≤ sizeLine) : RvP (rAddA K) (.str x) (.str y) (.str (x ++ y)) := rv_inr (rv_inl fun own H _ _ o hx hy Q q => by
  cases hx; cases hy
  exact ⟨x, y, rfl, rfl, hl, q _ H (Same.refl H) (.str _)⟩)
theorem add_lst {xs ys : List D} (hl : xs.length + ys.length ≤ sizeLine) : RvP (rAddA K) (.lst xs) (.lst ys) (.lst (xs ++ ys)) := rv_inr (rv_inr (rv_inl fun own H _ _ o hx hy Q q => by
  cases hx with
  | lst h1 n1 a1 =>
    cases hy with
    | lst h2 n2 a2 =>
      exact ⟨_, _, _, _, rfl, rfl, h1, h2, by rw [a1.length, a2.length]; exact hl, fun p hp => q _ _ (same_new hp) (Is.newLst o hp (a1.append a2))⟩))
theorem add_tup {xs ys : List D} (hl : xs.length + ys.length ≤ sizeLine) : RvP (rAddA K) (.tup xs) (.tup ys) (.tup (xs ++ ys)) := rv_inr (rv_inr (rv_inr fun own H x y o hx hy Q q => by
  cases hx with
  | tup h1 n1 a1 =>
    cases hy with
    | tup h2 n2 a2 =>
      have hx' := Is.tup h1 n1 a1
      have hy' := Is.tup h2 n2 a2
      refine ⟨_, _, _, _, rfl, rfl, SqT.of h1, SqT.of h2, by rw [a1.length, a2.length]; exact hl, fun e => ?_, fun _ e => ?_, fun _ _ p hp => q _ _ (same_new hp) (Is.newTup o hp (a1.append a2))⟩
      · subst e
        cases a1
        exact q _ H (Same.refl H) hy'
      · subst e
        cases a2
        rw [List.append_nil] at q
        exact q _ H (Same.refl H) hx'))

/-! ### comparisons -/
mutual
def toPy : D → PyData
  | .non => .none
  | .bl b => .bool b
  | .int i => .int i
  | .str x => .str x
  | .tup xs => .tuple (toPys xs)
  | .lst xs => .list (toPys xs)
  | .dct _ => .none
  | .ref _ => .none
  | .ty _ => .none
  | .exc0 _ => .none
  | .exc1 _ _ _ => .none
def toPys : List D → List PyData
  | [] => []
  | x :: xs => toPy x :: toPys xs
end
mutual
/-- it has no dict and no object, and its texts are of Python's signs -/
def plain : D → Bool
  | .non => true
  | .bl _ => true
  | .int _ => true
  | .str x => PyData.strOk x
  | .tup xs => plains xs
  | .lst xs => plains xs
  | .dct _ => false
  | .ref _ => false
  | .ty _ => false
  | .exc0 _ => false
  | .exc1 _ _ _ => false
def plains : List D → Bool
  | [] => true
  | x :: xs => plain x && plains xs
end
mutual
def deepD : D → Nat
  | .non => 0
  | .bl _ => 0
  | .int _ => 0
  | .str _ => 0
  | .tup xs => deepDs xs + 1
  | .lst xs => deepDs xs + 1
  | .dct _ => 0
  | .ref _ => 0
  | .ty _ => 0
  | .exc0 _ => 0
  | .exc1 _ _ _ => 0
def deepDs : List D → Nat
  | [] => 0
  | x :: xs => max (deepD x) (deepDs xs)
end
mutual
theorem Is.dp {own : Own} {H : Hp} : ∀ (d : D) {v : V}, plain d = true → Is own H v d → Dp K H v (toPy d)
  | .non, _, _, h => by cases h; exact .non
  | .bl b, _, _, h => by cases h; exact .bl b
  | .int i, _, _, h => by cases h; exact .int i
  | .str x, _, _, h => by cases h; exact .str x
  | .ref a, _, p, h => by simp [plain] at p
  | .ty a, _, p, h => by simp [plain] at p
  | .exc0 a, _, p, h => by simp [plain] at p
  | .exc1 a _ _, _, p, h => by simp [plain] at p
  | .dct ds, _, p, h => by simp [plain] at p
  | .tup ds, _, p, h => by
    cases h with
    | tup ha n hs => exact .tup (SqT.of ha) (IsAll.dp ds (by simpa [plain] using p) hs)
  | .lst ds, _, p, h => by
    cases h with
    | lst ha n hs => exact .lst (SqL.of ha) (IsAll.dp ds (by simpa [plain] using p) hs)
theorem IsAll.dp {own : Own} {H : Hp} : ∀ (ds : List D) {vs : List V}, plains ds = true → IsAll own H vs ds → DpAll K H vs (toPys ds)
  | [], _, _, h => by cases h; exact .nil
  | d :: ds, _, p, h => by
    have p' : plain d = true ∧ plains ds = true := by simpa [plains] using p
    cases h with
    | cons h1 h2 => exact .cons (Is.dp d p'.1 h1) (IsAll.dp ds p'.2 h2)
end
mutual
theorem canLay_toPy : ∀ d : D, plain d = true → (toPy d).canLay0 = true
  | .non, _ => by simp [toPy, PyData.canLay0]
  | .bl b, _ => by simp [toPy, PyData.canLay0]
  | .int i, _ => by simp [toPy, PyData.canLay0]
  | .str x, p => by simpa [toPy, PyData.canLay0, plain] using p
  | .ref a, p => by simp [plain] at p
  | .ty a, p => by simp [plain] at p
  | .exc0 a, p => by simp [plain] at p
  | .exc1 a _ _, p => by simp [plain] at p
  | .dct ds, p => by simp [plain] at p
  | .tup ds, p => by
    have := canLay_toPys ds (by simpa [plain] using p)
    simpa [toPy, PyData.canLay0] using this
  | .lst ds, p => by
    have := canLay_toPys ds (by simpa [plain] using p)
    simpa [toPy, PyData.canLay0] using this
theorem canLay_toPys : ∀ ds : List D, plains ds = true → PyData.canLayAll0 (toPys ds) = true
  | [], _ => by simp [toPys, PyData.canLayAll0]
  | d :: ds, p => by
    have p' : plain d = true ∧ plains ds = true := by simpa [plains] using p
    simp [toPys, PyData.canLayAll0, canLay_toPy d p'.1, canLay_toPys ds p'.2]
end
mutual
theorem depth_toPy : ∀ d : D, (toPy d).depth = deepD d
  | .non => by simp [toPy, PyData.depth, deepD]
  | .bl b => by simp [toPy, PyData.depth, deepD]
  | .int i => by simp [toPy, PyData.depth, deepD]
  | .str x => by simp [toPy, PyData.depth, deepD]
  | .ref a => by simp [toPy, PyData.depth, deepD]
  | .ty a => by simp [toPy, PyData.depth, deepD]
  | .exc0 a => by simp [toPy, PyData.depth, deepD]
  | .exc1 a _ _ => by simp [toPy, PyData.depth, deepD]
  | .dct ds => by simp [toPy, PyData.depth, deepD]
  | .tup ds => by simp [toPy, PyData.depth, deepD, depth_toPys ds]
  | .lst ds => by simp [toPy, PyData.depth, deepD, depth_toPys ds]
theorem depth_toPys : ∀ ds : List D, PyData.depthAll (toPys ds) = deepDs ds
  | [] => by simp [toPys, PyData.depthAll, deepDs]
  | d :: ds => by simp [toPys, PyData.depthAll, deepDs, depth_toPy d, depth_toPys ds]
end
/-- it may be compared -/
def cmpOk (d : D) : Prop := plain d = true ∧ deepD d ≤ 64
theorem cmpOk.shaped (h : cmpOk d) : SeqAt.shaped (toPy d) = true := by
  unfold SeqAt.shaped
  rw [canLay_toPy d h.1, depth_toPy d, decide_eq_true h.2]
  rfl
def eqD (d e : D) : Bool := PyData.eqv (toPy d) (toPy e)
theorem IsT.dp {own : Own} {H : Hp} {v : V} (p : plain d = true) (h : IsT own H v d) : Dp K H v (toPy d) := by
  cases h with
  | non => exact .non
  | bl b => exact .bl b
  | int i => exact .int i
  | str x => exact .str x
  | tup h1 n1 a1 => exact .tup (SqT.of h1) (IsAll.dp _ (by simpa [plain] using p) a1)
  | lst h1 n1 a1 => exact .lst (SqL.of h1) (IsAll.dp _ (by simpa [plain] using p) a1)
  | dct h1 n1 a1 => simp [plain] at p
  | dcn h1 n1 a1 e1 => simp [plain] at p
  | ref a => simp [plain] at p
  | ty n => simp [plain] at p
  | exc0 h1 n1 => simp [plain] at p
  | exc1 h1 n1 h2 n2 i => simp [plain] at p
theorem eq_data (h1 : cmpOk d) (h2 : cmpOk e) : RvP (rEqD K) d e (.bl (eqD d e)) := fun own H x y o hx hy Q q =>
  ⟨toPy d, toPy e, hx.dp h1.1, hy.dp h2.1, h1.shaped, h2.shaped, q _ H (Same.refl H) (.bl _)⟩
theorem ne_data (h1 : cmpOk d) (h2 : cmpOk e) : RvP (rNeD K) d e (.bl (!eqD d e)) := fun own H x y o hx hy Q q =>
  ⟨toPy d, toPy e, hx.dp h1.1, hy.dp h2.1, h1.shaped, h2.shaped, q _ H (Same.refl H) (.bl _)⟩
/-- scalars -/
def rEqA (K : PySem.W.Frag) : R2 := fun x y H Q => rEq x y H Q ∨ rEqD K x y H Q
def rNeA (K : PySem.W.Frag) : R2 := fun x y H Q => rNe x y H Q ∨ rNeD K x y H Q
theorem op_eqA {X : Cx} (hu : X.A.units + 64 < cLine) : OpR X (compareOp .Eq) (rEqA X.K) := op_eq.or (op_eqD hu)
theorem op_neA {X : Cx} (hu : X.A.units + 64 < cLine) : OpR X (compareOp .NotEq) (rNeA X.K) := op_ne.or (op_neD hu)
theorem eq_int {i j : Int} : RvP (rEqA K) (.int i) (.int j) (.bl (decide (i = j))) := fun own H x y o hx hy Q q => by
  cases hx; cases hy
  refine .inl ⟨rfl, ?_⟩
  have e' : decide (V.int i = V.int j) = decide (i = j) := by rw [Bool.eq_iff_iff]; simp
  rw [e']
  exact q _ H (Same.refl H) (.bl _)
theorem ne_int {i j : Int} : RvP (rNeA K) (.int i) (.int j) (.bl (!decide (i = j))) := fun own H x y o hx hy Q q => by
  cases hx; cases hy
  refine .inl ⟨rfl, ?_⟩
  have e' : decide (V.int i = V.int j) = decide (i = j) := by rw [Bool.eq_iff_iff]; simp
  rw [e']
  exact q _ H (Same.refl H) (.bl _)
theorem eq_str {i j : Str} : RvP (rEqA K) (.str i) (.str j) (.bl (decide (i = j))) := fun own H x y o hx hy Q q => by
  cases hx; cases hy
  refine .inl ⟨rfl, ?_⟩
  have e' : decide (V.str i = V.str j) = decide (i = j) := by rw [Bool.eq_iff_iff]; simp
  rw [e']
  exact q _ H (Same.refl H) (.bl _)
theorem ne_str {i j : Str} : RvP (rNeA K) (.str i) (.str j) (.bl (!decide (i = j))) := fun own H x y o hx hy Q q => by
  cases hx; cases hy
  refine .inl ⟨rfl, ?_⟩
  have e' : decide (V.str i = V.str j) = decide (i = j) := by rw [Bool.eq_iff_iff]; simp
  rw [e']
  exact q _ H (Same.refl H) (.bl _)
theorem eq_deep (h1 : cmpOk d) (h2 : cmpOk e) : RvP (rEqA K) d e (.bl (eqD d e)) := rv_inr (eq_data h1 h2)
theorem ne_deep (h1 : cmpOk d) (h2 : cmpOk e) : RvP (rNeA K) d e (.bl (!eqD d e)) := rv_inr (ne_data h1 h2)
/-- in -/
def rInSg : R2 := fun x y H Q => ∃ (c : Nat) (z : Str), x = .str ⟨#[c]⟩ ∧ y = .str z ∧ Q (.bl (decide (c ∈ z.cps.toList))) H
def rNotInSg : R2 := fun x y H Q => ∃ (c : Nat) (z : Str), x = .str ⟨#[c]⟩ ∧ y = .str z ∧ Q (.bl (!decide (c ∈ z.cps.toList))) H
def rInA (K : PySem.W.Frag) : R2 := fun x y H Q => rInSg x y H Q ∨ rIn K false x y H Q
def rNotInA (K : PySem.W.Frag) : R2 := fun x y H Q => rNotInSg x y H Q ∨ rIn K true x y H Q
theorem op_inA {X : Cx} : OpR X (compareOp .In) (rInA X.K) := (show OpR X (compareOp .In) rInSg from op_in_sign).or op_in_seq
theorem op_notInA {X : Cx} : OpR X (compareOp .NotIn) (rNotInA X.K) := (show OpR X (compareOp .NotIn) rNotInSg from op_notIn_sign).or op_notIn_seq
theorem in_sign {c : Nat} {z : Str} : RvP (rInA K) (.str ⟨#[c]⟩) (.str z) (.bl (decide (c ∈ z.cps.toList))) := rv_inl fun own H x y o hx hy Q q => by
  cases hx; cases hy
  exact ⟨c, z, rfl, rfl, q _ H (Same.refl H) (.bl _)⟩
theorem notIn_sign {c : Nat} {z : Str} : RvP (rNotInA K) (.str ⟨#[c]⟩) (.str z) (.bl (!decide (c ∈ z.cps.toList))) := rv_inl fun own H x y o hx hy Q q => by
  cases hx; cases hy
  exact ⟨c, z, rfl, rfl, q _ H (Same.refl H) (.bl _)⟩
theorem inV_ints (i : Int) : ∀ ns : List Int, inV (.int i) (ns.map V.int) = ns.contains i
  | [] => rfl
  | n :: ns => by
    have ih := inV_ints i ns
    unfold inV at ih ⊢
    rw [List.map_cons, List.any_cons, ih, List.contains_cons]
    show ((n == i) || _) = ((i == n) || _)
    rw [BEq.comm]
theorem flat_ints : ∀ ns : List Int, (ns.map V.int).all flatV = true
  | [] => rfl
  | n :: ns => by rw [List.map_cons, List.all_cons, flat_ints ns]; rfl
theorem in_ints {i : Int} {ns : List Int} : RvP (rInA K) (.int i) (.lst (ns.map D.int)) (.bl (ns.contains i)) := rv_inr fun own H x y o hx hy Q q => by
  cases hx
  cases hy with
  | lst h1 n1 a1 =>
    have e' := a1.ints
    subst e'
    refine ⟨_, _, rfl, .inl (SqL.of h1), rfl, flat_ints ns, ?_⟩
    show Q (.bl (inV (.int i) (ns.map V.int))) H
    rw [inV_ints]
    exact q _ H (Same.refl H) (.bl _)

/-! ### items, slices -/
theorem at_tup {xs : List D} {i : Int} (h : atI xs i = some z) : RvP (rIx K) (.tup xs) (.int i) z := fun own H x y o hx hy Q q => by
  cases hy
  cases hx with
  | tup h1 n1 a1 =>
    obtain ⟨j, _, hj, hl, _, _⟩ := atI_get h
    obtain ⟨v, hv, hi⟩ := a1.get hj
    have hlen := a1.length
    refine .inr (.inl ⟨_, _, i, v, rfl, rfl, SqT.of h1, ?_, q _ H (Same.refl H) hi⟩)
    unfold atI at h ⊢
    rw [hlen]
    cases e' : ixN xs.length i with
    | none => rw [e'] at h; cases h
    | some j' =>
      rw [e'] at h
      have h' : xs[j']? = some z := h
      obtain ⟨v', hv', hi'⟩ := a1.get h'
      have : j' = j := by
        have q1 := ixN_seq e'
        have q2 := ‹seqIndex? i xs.length = some j›
        rw [q1.1] at q2
        exact Option.some.inj q2
      subst this
      exact hv
theorem at_lst {xs : List D} {i : Int} (h : atI xs i = some z) : RvP (rIx K) (.lst xs) (.int i) z := fun own H x y o hx hy Q q => by
  cases hy
  cases hx with
  | lst h1 n1 a1 =>
    obtain ⟨j, _, hj, hl, _, _⟩ := atI_get h
    obtain ⟨v, hv, hi⟩ := a1.get hj
    have hlen := a1.length
    refine .inl ⟨_, _, i, v, rfl, rfl, SqL.of h1, ?_, q _ H (Same.refl H) hi⟩
    unfold atI at h ⊢
    rw [hlen]
    cases e' : ixN xs.length i with
    | none => rw [e'] at h; cases h
    | some j' =>
      rw [e'] at h
      have : j' = j := by
        have q1 := ixN_seq e'
        have q2 := ‹seqIndex? i xs.length = some j›
        rw [q1.1] at q2
        exact Option.some.inj q2
      subst this
      exact hv
theorem at_str {x : Str} {i : Int} {c : Nat} (hl : x.length ≤ sizeLine) (h : atI x.cps.toList i = some c) : RvP (rIx K) (.str x) (.int i) (.str ⟨#[c]⟩) := fun own H _ _ o hx hy Q q => by
  cases hy
  cases hx
  exact .inr (.inr ⟨x, i, c, rfl, rfl, hl, h, q _ H (Same.refl H) (.str _)⟩)
def rSlX (K : PySem.W.Frag) : V → Option Int → Option Int → Hp → VK → Prop := fun x lo hi H Q => rSlL K x lo hi H Q ∨ (rSlA K x lo hi H Q ∨ rSlS x lo hi H Q)
theorem SlR.or {X : Cx} {r r' : V → Option Int → Option Int → Hp → VK → Prop} (h : SlR X r) (h' : SlR X r') : SlR X (fun x lo hi H Q => r x lo hi H Q ∨ r' x lo hi H Q) := by
  intro pins s σ H x v vl vu lo hi sl Q I rx hs pl pu w
  rcases w with w | w
  · exact h pins s σ H x v vl vu lo hi sl Q I rx hs pl pu w
  · exact h' pins s σ H x v vl vu lo hi sl Q I rx hs pl pu w
theorem sl_any {X : Cx} : SlR X (rSlX X.K) := SlR.or sl_list (SlR.or sl_tupA sl_str)
/-- xs[lo:hi] -/
def cutD (xs : List D) (lo hi : Option Int) : List D := (xs.drop (HT.sIx xs.length 0 lo)).take (HT.sIx xs.length xs.length hi - HT.sIx xs.length 0 lo)
theorem IsAll.cut {own : Own} {H : Hp} {vs : List V} (h : IsAll own H vs ds) (lo hi : Option Int) : IsAll own H (cutV vs lo hi) (cutD ds lo hi) := by
  unfold cutV cutD
  rw [h.length]
  exact (h.drop _).take _
theorem cut_lst {xs : List D} {lo hi : Option Int} : RsP (rSlX K) (.lst xs) lo hi (.lst (cutD xs lo hi)) := fun own H x o hx Q q => by
  cases hx with
  | lst h1 n1 a1 => exact .inl ⟨_, _, rfl, SqL.of h1, fun p hp => q _ _ (same_new hp) (Is.newLst o hp (a1.cut lo hi))⟩
theorem cutD_whole {xs : List D} {lo hi : Option Int} (h : HT.sIx xs.length 0 lo = 0 ∧ HT.sIx xs.length xs.length hi = xs.length) : cutD xs lo hi = xs := by
  unfold cutD
  rw [h.1, h.2, List.drop_zero, Nat.sub_zero, List.take_length]
theorem cut_tup {xs : List D} {lo hi : Option Int} : RsP (rSlX K) (.tup xs) lo hi (.tup (cutD xs lo hi)) := fun own H x o hx Q q => by
  cases hx with
  | tup h1 n1 a1 =>
    have hx' := Is.tup h1 n1 a1
    refine .inr (.inl ⟨_, _, rfl, SqT.of h1, fun e => ?_, fun _ p hp => q _ _ (same_new hp) (Is.newTup o hp (a1.cut lo hi))⟩)
    rw [a1.length] at e
    rw [cutD_whole e] at q
    exact q _ H (Same.refl H) hx'
theorem cut_str {x : Str} {lo hi : Option Int} (hl : x.length ≤ sizeLine) : RsP (rSlX K) (.str x) lo hi (.str (cutS x lo hi)) := fun own H v o hx Q q => by
  cases hx
  exact .inr (.inr ⟨x, rfl, hl, q _ H (Same.refl H) (.str _)⟩)

/-! ### built-in calls -/
def rLenA (K : PySem.W.Frag) : List V → Hp → VK → Prop := fun xs H Q => ∃ x n, xs = [x] ∧ LenV K x H n ∧ Q (.int n) H
theorem call_lenA {X : Cx} : CallR X (.builtin "len") (rLenA X.K) := call_len
theorem len_tup {xs : List D} : RcP (rLenA K) [.tup xs] (.int (xs.length : Int)) := fun own H vs o hx Q q => by
  cases hx with
  | cons h t =>
    cases t
    cases h with
    | tup h1 n1 a1 => exact ⟨_, _, rfl, .inr ⟨_, SqT.of h1, rfl⟩, by rw [a1.length]; exact q _ H (Same.refl H) (.int _)⟩
theorem len_lst {xs : List D} : RcP (rLenA K) [.lst xs] (.int (xs.length : Int)) := fun own H vs o hx Q q => by
  cases hx with
  | cons h t =>
    cases t
    cases h with
    | lst h1 n1 a1 => exact ⟨_, _, rfl, .inl ⟨_, SqL.of h1, rfl⟩, by rw [a1.length]; exact q _ H (Same.refl H) (.int _)⟩
theorem len_str {x : Str} (hl : x.length ≤ sizeLine) : RcP (rLenA K) [.str x] (.int (x.length : Int)) := fun own H vs o hx Q q => by
  cases hx with
  | cons h t =>
    cases t
    cases h
    exact ⟨_, _, rfl, ⟨hl, rfl⟩, q _ H (Same.refl H) (.int _)⟩
theorem sum_ints {ns : List Int} : RcP (rSum K) [.lst (ns.map D.int)] (.int ns.sum) := fun own H vs o hx Q q => by
  cases hx with
  | cons h t =>
    cases t
    cases h with
    | lst h1 n1 a1 =>
      have e' := a1.ints
      subst e'
      exact ⟨_, ns, rfl, SqL.of h1, q _ H (Same.refl H) (.int _)⟩
theorem all_bls {bs : List Bool} : RcP (rAll K) [.lst (bs.map D.bl)] (.bl (bs.all id)) := fun own H vs o hx Q q => by
  cases hx with
  | cons h t =>
    cases t
    cases h with
    | lst h1 n1 a1 =>
      have e' := a1.bls
      subst e'
      exact ⟨_, bs, rfl, SqL.of h1, q _ H (Same.refl H) (.bl _)⟩
theorem any_bls {bs : List Bool} : RcP (rAny K) [.lst (bs.map D.bl)] (.bl (bs.any id)) := fun own H vs o hx Q q => by
  cases hx with
  | cons h t =>
    cases t
    cases h with
    | lst h1 n1 a1 =>
      have e' := a1.bls
      subst e'
      exact ⟨_, bs, rfl, SqL.of h1, q _ H (Same.refl H) (.bl _)⟩
def maxL : List Int → Int
  | [] => 0
  | [n] => n
  | n :: m :: ns => max n (maxL (m :: ns))
theorem maxL_mem : ∀ {ns : List Int}, ns ≠ [] → maxL ns ∈ ns ∧ ∀ y ∈ ns, y ≤ maxL ns
  | [], h => absurd rfl h
  | [n], _ => by simp [maxL]
  | n :: m :: ns, _ => by
    obtain ⟨h1, h2⟩ := maxL_mem (ns := m :: ns) (by simp)
    show max n (maxL (m :: ns)) ∈ _ ∧ ∀ y ∈ n :: m :: ns, y ≤ max n (maxL (m :: ns))
    refine ⟨?_, fun y hy => ?_⟩
    · by_cases h : n ≤ maxL (m :: ns)
      · rw [Int.max_eq_right h]; exact List.mem_cons_of_mem _ h1
      · rw [Int.max_eq_left (by omega)]; exact List.mem_cons_self
    · rcases List.mem_cons.mp hy with rfl | hy
      · omega
      · have := h2 y hy; omega
theorem max_ints {ns : List Int} (hn : ns ≠ []) : RcP (rMax K) [.lst (ns.map D.int)] (.int (maxL ns)) := fun own H vs o hx Q q => by
  cases hx with
  | cons h t =>
    cases t
    cases h with
    | lst h1 n1 a1 =>
      have e' := a1.ints
      subst e'
      refine ⟨_, ns, rfl, SqL.of h1, List.length_pos_iff.mpr hn, fun m hm hy => ?_⟩
      obtain ⟨g1, g2⟩ := maxL_mem hn
      have : m = maxL ns := by have a := hy _ g1; have b := g2 _ hm; omega
      subst this
      exact q _ H (Same.refl H) (.int _)
/-- isinstance -/
def tyOf : D → String
  | .non => "NoneType"
  | .bl _ => "bool"
  | .int _ => "int"
  | .str _ => "str"
  | .tup _ => "tuple"
  | .lst _ => "list"
  | .dct _ => "dict"
  | .ref _ => ""
  | .ty _ => ""
  | .exc0 _ => ""
  | .exc1 _ _ _ => ""
/-- a value's type, wider than TyX: dicts of tuple keys too -/
def TyY (K : PySem.W.Frag) (H : Hp) (x : V) (t : Value) : Prop := TyX K H x t ∨ ∃ a ents, x = .ref a ∧ t = .type "dict" ∧ Rd H a (DnO a ents)
theorem kit_ofY {X : Cx} {pins : List (Addr × Obj)} {σ : L2.St} {H : Hp} {s : Shared} {x : V} {u t : Value} (I : Inv X pins σ H s) (rx : RelV x u) (ty : TyY X.K H x t) : ∃ P : Heap → Prop, PySem.W.KitX X.K u t P ∧ P s.heap ∧ u ≠ .builtin "__main__.__loader__#opaque" := by
  rcases ty with ty | ⟨a, ents, rfl, rfl, h⟩
  · exact kit_of I rx ty
  · cases (show u = Value.ref a from rx)
    obtain ⟨⟨_, _, us, _, o, es, ep, h1, h2, _⟩, _⟩ := h.ok I.hok
    exact ⟨_, PySem.W.kitx_dict, ⟨o, h1, h2.1⟩, fun z => nomatch z⟩
/-- isinstance(x, c), one class; a tuple of classes -/
def rIsiY (K : PySem.W.Frag) : List V → Hp → VK → Prop := fun xs H Q => ∃ (x c : V) (t u : Value) (b : Bool), xs = [x, c] ∧ ClsV c u ∧ TyY K H x t ∧ PySem.W.kitOne K t u = some b ∧ Q (.bl b) H
def rIsiYT (K : PySem.W.Frag) : List V → Hp → VK → Prop := fun xs H Q => ∃ (x : V) (tp : Addr) (cs : List V) (t : Value) (us : List Value) (b : Bool), xs = [x, .ref tp] ∧ H tp = some (.tup cs) ∧ Paired ClsV cs us ∧ TyY K H x t ∧ PySem.W.kitAny K t us = some b ∧ Q (.bl b) H
theorem call_isiY {X : Cx} : CallR X (.builtin "isinstance") (rIsiY X.K) := by
  intro pins s σ H xs us Q I r h
  obtain ⟨x, c, t, u, b, rfl, k, ty, e, q⟩ := h
  obtain ⟨u1, u2, rfl, r1, r2⟩ := vals2 r
  have e2 := k.eq r2
  subst e2
  obtain ⟨P, Z, p, hx⟩ := kit_ofY I r1 ty
  exact PySem.W.kia_one Z I.kIn p e hx fun tk => ⟨.bl b, H, I.tok tk, rfl, q⟩
theorem call_isiYT {X : Cx} : CallR X (.builtin "isinstance") (rIsiYT X.K) := by
  intro pins s σ H xs us Q I r h
  obtain ⟨x, tp, cs, t, ws, b, rfl, hT, k, ty, e, q⟩ := h
  obtain ⟨u1, u2, rfl, r1, r2⟩ := vals2 r
  cases (show u2 = Value.ref tp from r2)
  obtain ⟨P, Z, p, hx⟩ := kit_ofY I r1 ty
  obtain ⟨_, its, rv, o, h1, h2, n, h3⟩ := (show ObjOk X.prog X.w H s.heap tp (.tup cs) from I.hok tp _ hT)
  have e3 := ClsV.all k rv
  subst e3
  obtain ⟨oc, od, dt, sl⟩ := o
  simp only at h2 h3
  subst h2 h3
  exact PySem.W.kia_tup Z I.kIn p h1 e hx fun tk => ⟨.bl b, H, I.tok tk, rfl, q⟩
theorem IsT.tyx {own : Own} {H : Hp} {v : V} (h : IsT own H v d) (hd : tyOf d ≠ "") : TyY K H v (.type (tyOf d)) := by
  cases h with
  | non => exact .inl (.base (.non))
  | bl b => exact .inl (.base (.bl b))
  | int i => exact .inl (.base (.int i))
  | str x => exact .inl (.base (.str x))
  | tup h1 _ _ => exact .inl (.base (.tup h1))
  | lst h1 _ _ => exact .inl (.base (.lst h1))
  | dct h1 _ _ =>
    rcases h1 with h1 | ⟨o, h1⟩
    · exact .inl (.base (.dK h1))
    · exact .inl (.fDict h1)
  | dcn h1 _ _ _ => exact .inr ⟨_, _, rfl, rfl, h1⟩
  | ref a => exact absurd rfl hd
  | ty a => exact absurd rfl hd
  | exc0 _ _ => exact absurd rfl hd
  | exc1 _ _ _ _ _ => exact absurd rfl hd
/-- isinstance(e, c) of a caught exception -/
def rIsC (K : PySem.W.Frag) : List V → Hp → VK → Prop := fun xs H Q => ∃ (a c : Addr) (dd : Option Addr) (cv : V) (u : Value) (b : Bool), xs = [.ref a, cv] ∧ H a = some (Caught (.ref c) dd a) ∧ (∀ d, dd = some d → ∃ fs, H d = some (.xd fs)) ∧ ExcC K c ∧ ClsV cv u ∧ PySem.W.kitOne K (.ref c) u = some b ∧ Q (.bl b) H
def rIsiA (K : PySem.W.Frag) : List V → Hp → VK → Prop := fun xs H Q => rIsiY K xs H Q ∨ (rIsC K xs H Q ∨ rIsiYT K xs H Q)
theorem isi_ty {n : String} (hd : tyOf d ≠ "") (h : kitB (tyOf d) n = some b) : RcP (rIsiA K) [d, .ty n] (.bl b) := fun own H vs o hx Q q => by
  cases hx with
  | cons h1 t =>
    cases t with
    | cons h2 t2 =>
      cases t2
      cases h2
      exact .inl ⟨_, _, _, _, b, rfl, .ty n, h1.tyx hd, kit_ty h, q _ H (Same.refl H) (.bl _)⟩
def isStr : D → Bool
  | .str _ => true
  | _ => false
theorem isi_str (hd : tyOf d ≠ "") : RcP (rIsiA K) [d, .ty "str"] (.bl (isStr d)) := isi_ty hd (by
  cases d with
  | non => exact (by decide +kernel : kitB "NoneType" "str" = some false)
  | bl _ => exact (by decide +kernel : kitB "bool" "str" = some false)
  | int _ => exact (by decide +kernel : kitB "int" "str" = some false)
  | str _ => exact (by decide +kernel : kitB "str" "str" = some true)
  | tup _ => exact (by decide +kernel : kitB "tuple" "str" = some false)
  | lst _ => exact (by decide +kernel : kitB "list" "str" = some false)
  | dct _ => exact (by decide +kernel : kitB "dict" "str" = some false)
  | ref _ => exact absurd rfl hd
  | ty _ => exact absurd rfl hd
  | exc0 _ => exact absurd rfl hd
  | exc1 _ _ _ => exact absurd rfl hd)
def isTup : D → Bool
  | .tup _ => true
  | _ => false
theorem isi_tup (hd : tyOf d ≠ "") : RcP (rIsiA K) [d, .ty "tuple"] (.bl (isTup d)) := isi_ty hd (by
  cases d with
  | non => exact (by decide +kernel : kitB "NoneType" "tuple" = some false)
  | bl _ => exact (by decide +kernel : kitB "bool" "tuple" = some false)
  | int _ => exact (by decide +kernel : kitB "int" "tuple" = some false)
  | str _ => exact (by decide +kernel : kitB "str" "tuple" = some false)
  | tup _ => exact (by decide +kernel : kitB "tuple" "tuple" = some true)
  | lst _ => exact (by decide +kernel : kitB "list" "tuple" = some false)
  | dct _ => exact (by decide +kernel : kitB "dict" "tuple" = some false)
  | ref _ => exact absurd rfl hd
  | ty _ => exact absurd rfl hd
  | exc0 _ => exact absurd rfl hd
  | exc1 _ _ _ => exact absurd rfl hd)
def isBl : D → Bool
  | .bl _ => true
  | _ => false
theorem isi_bl (hd : tyOf d ≠ "") : RcP (rIsiA K) [d, .ty "bool"] (.bl (isBl d)) := isi_ty hd (by
  cases d with
  | non => exact (by decide +kernel : kitB "NoneType" "bool" = some false)
  | bl _ => exact (by decide +kernel : kitB "bool" "bool" = some true)
  | int _ => exact (by decide +kernel : kitB "int" "bool" = some false)
  | str _ => exact (by decide +kernel : kitB "str" "bool" = some false)
  | tup _ => exact (by decide +kernel : kitB "tuple" "bool" = some false)
  | lst _ => exact (by decide +kernel : kitB "list" "bool" = some false)
  | dct _ => exact (by decide +kernel : kitB "dict" "bool" = some false)
  | ref _ => exact absurd rfl hd
  | ty _ => exact absurd rfl hd
  | exc0 _ => exact absurd rfl hd
  | exc1 _ _ _ => exact absurd rfl hd)
def isLst : D → Bool
  | .lst _ => true
  | _ => false
theorem isi_lst (hd : tyOf d ≠ "") : RcP (rIsiA K) [d, .ty "list"] (.bl (isLst d)) := isi_ty hd (by
  cases d with
  | non => exact (by decide +kernel : kitB "NoneType" "list" = some false)
  | bl _ => exact (by decide +kernel : kitB "bool" "list" = some false)
  | int _ => exact (by decide +kernel : kitB "int" "list" = some false)
  | str _ => exact (by decide +kernel : kitB "str" "list" = some false)
  | tup _ => exact (by decide +kernel : kitB "tuple" "list" = some false)
  | lst _ => exact (by decide +kernel : kitB "list" "list" = some true)
  | dct _ => exact (by decide +kernel : kitB "dict" "list" = some false)
  | ref _ => exact absurd rfl hd
  | ty _ => exact absurd rfl hd
  | exc0 _ => exact absurd rfl hd
  | exc1 _ _ _ => exact absurd rfl hd)
def isDct : D → Bool
  | .dct _ => true
  | _ => false
theorem isi_dct (hd : tyOf d ≠ "") : RcP (rIsiA K) [d, .ty "dict"] (.bl (isDct d)) := isi_ty hd (by
  cases d with
  | non => exact (by decide +kernel : kitB "NoneType" "dict" = some false)
  | bl _ => exact (by decide +kernel : kitB "bool" "dict" = some false)
  | int _ => exact (by decide +kernel : kitB "int" "dict" = some false)
  | str _ => exact (by decide +kernel : kitB "str" "dict" = some false)
  | tup _ => exact (by decide +kernel : kitB "tuple" "dict" = some false)
  | lst _ => exact (by decide +kernel : kitB "list" "dict" = some false)
  | dct _ => exact (by decide +kernel : kitB "dict" "dict" = some true)
  | ref _ => exact absurd rfl hd
  | ty _ => exact absurd rfl hd
  | exc0 _ => exact absurd rfl hd
  | exc1 _ _ _ => exact absurd rfl hd)
def isInt : D → Bool
  | .bl _ => true
  | .int _ => true
  | _ => false
theorem isi_int (hd : tyOf d ≠ "") : RcP (rIsiA K) [d, .ty "int"] (.bl (isInt d)) := isi_ty hd (by
  cases d with
  | non => exact (by decide +kernel : kitB "NoneType" "int" = some false)
  | bl _ => exact (by decide +kernel : kitB "bool" "int" = some true)
  | int _ => exact (by decide +kernel : kitB "int" "int" = some true)
  | str _ => exact (by decide +kernel : kitB "str" "int" = some false)
  | tup _ => exact (by decide +kernel : kitB "tuple" "int" = some false)
  | lst _ => exact (by decide +kernel : kitB "list" "int" = some false)
  | dct _ => exact (by decide +kernel : kitB "dict" "int" = some false)
  | ref _ => exact absurd rfl hd
  | ty _ => exact absurd rfl hd
  | exc0 _ => exact absurd rfl hd
  | exc1 _ _ _ => exact absurd rfl hd)
theorem p_ty {n : String} : EvP (tC (.ty n)) δ (.ty n) := fun _ _ H _ _ _ q => q _ H (Same.refl H) (.ty n)
end
end DL

set_option Elab.async false
set_option linter.all false
set_option maxRecDepth 100000
set_option maxHeartbeats 4000000
namespace DL
open PySem L2
variable [Wd]

/-! ### what is walked -/
def WalkD (own : Own) (H1 : Hp) (J : It) (xs : List D) : Prop :=
  Walk J xs.length (fun H' => ∀ a o, H1 a = some o → ¬ own a → H' a = some o) (fun i H x H' => H' = H ∧ ∃ d, xs[i]? = some d ∧ Is own H1 x d)
def ItP (wi : TI) (δ : Env) (xs : List D) : Prop := ∀ (own : Own) (σ : L2.St) (H : Hp), OwnOk own H → EnvR own H σ δ → ∀ R : It → Hp → Prop, (∀ J H1, Same H H1 → WalkD own H1 J xs → R J H1) → wi σ H R
def iAny (K : PySem.W.Frag) (te : TE) : TI := fun σ H R => iList K te σ H R ∨ (iTup K te σ H R ∨ iStr te σ H R)
theorem pi_or {X : Cx} {tg it : Expr} {w1 w2 : TI} (h1 : PI X tg it w1) (h2 : PI X tg it w2) : PI X tg it (fun σ H R => w1 σ H R ∨ w2 σ H R) := ⟨fun pins s σ H R I h => by
  rcases h with h | h
  · exact h1.run pins s σ H R I h
  · exact h2.run pins s σ H R I h⟩
theorem pi_any {X : Cx} {tg e : Expr} {te : TE} (he : PE X e te) : PI X tg e (iAny X.K te) := pi_or (pi_list he) (pi_or (pi_tup he) (pi_str he))
section
variable {K : PySem.W.Frag} {δ : Env} {te : TE} {xs : List D}
theorem it_lst (h : EvP te δ (.lst xs)) : ItP (iAny K te) δ xs := fun own σ H o E R q => .inl (h own σ H o E _ fun v H1 s1 i1 => by
  cases i1 with
  | @lst a vs _ h1 n1 a1 =>
    refine ⟨a, rfl, ⟨vs, SqL.of h1⟩, q _ H1 s1 ?_⟩
    have hlen := a1.length
    refine ⟨fun i H hi g => ?_, fun H g => ⟨vs, SqL.of (g _ _ h1 n1), by omega⟩, fun i H x H' hi g y => ?_⟩
    · obtain ⟨v, hv⟩ : ∃ v, vs[i]? = some v := ⟨_, List.getElem?_eq_getElem (by omega)⟩
      exact ⟨vs, v, SqL.of (g _ _ h1 n1), hv⟩
    · obtain ⟨e, y⟩ := y
      obtain ⟨d, hd, hi'⟩ := a1.getV (y vs (SqL.of (g _ _ h1 n1)))
      exact ⟨e, d, hd, hi'⟩)
theorem it_tup (h : EvP te δ (.tup xs)) : ItP (iAny K te) δ xs := fun own σ H o E R q => .inr (.inl (h own σ H o E _ fun v H1 s1 i1 => by
  cases i1 with
  | @tup a vs _ h1 n1 a1 =>
    refine ⟨a, rfl, ⟨vs, SqT.of h1⟩, q _ H1 s1 ?_⟩
    have hlen := a1.length
    refine ⟨fun i H hi g => ?_, fun H g => ⟨vs, SqT.of (g _ _ h1 n1), by omega⟩, fun i H x H' hi g y => ?_⟩
    · obtain ⟨v, hv⟩ : ∃ v, vs[i]? = some v := ⟨_, List.getElem?_eq_getElem (by omega)⟩
      exact ⟨vs, v, SqT.of (g _ _ h1 n1), hv⟩
    · obtain ⟨e, y⟩ := y
      obtain ⟨d, hd, hi'⟩ := a1.getV (y vs (SqT.of (g _ _ h1 n1)))
      exact ⟨e, d, hd, hi'⟩))
/-- a text's signs -/
def signs (x : Str) : List D := x.cps.toList.map fun c => D.str ⟨#[c]⟩
theorem it_str {x : Str} (h : EvP te δ (.str x)) : ItP (iAny K te) δ (signs x) := fun own σ H o E R q => .inr (.inr (h own σ H o E _ fun v H1 s1 i1 => by
  cases i1
  refine ⟨x, rfl, q _ H1 s1 ?_⟩
  have hlen : (signs x).length = x.cps.size := by unfold signs; rw [List.length_map, Array.length_toList]
  refine ⟨fun i H hi g => ?_, fun H g => ?_, fun i H v H' hi g y => ?_⟩
  · show i < x.cps.size
    omega
  · show x.cps.size ≤ (signs x).length
    omega
  · obtain ⟨e, c, hc, hv⟩ := y
    subst hv
    refine ⟨e, _, ?_, .str _⟩
    unfold signs
    rw [List.getElem?_map, Array.getElem?_toList, hc]
    rfl))
/-- lo, lo + 1, .. -/
def rng (n : Nat) : List D := (List.range n).map fun (i : Nat) => D.int (i : Int)
theorem rng_length (n : Nat) : (rng n).length = n := by unfold rng; simp
theorem rng_get {n i : Nat} {x : D} (h : (rng n)[i]? = some x) : i < n ∧ x = .int (i : Int) := by
  unfold rng at h
  rw [List.getElem?_map] at h
  by_cases hi : i < n
  · rw [List.getElem?_range hi] at h
    exact ⟨hi, (Option.some.inj h).symm⟩
  · rw [List.getElem?_eq_none (by simp; omega)] at h
    cases h
theorem it_rng {ta : TA} {n : Int} (h : EaP ta δ [.int n]) (h1 : -(2 ^ 62) ≤ n) (h2 : n < 2 ^ 62) : ItP (iRng1 ta) δ (rng n.toNat) := fun own σ H o E R q => h own σ H o E _ fun vs H1 s1 i1 => by
  cases i1 with
  | cons i0 t =>
    cases t
    cases i0
    refine ⟨n, rfl, h1, h2, q _ H1 s1 ⟨fun i H hi g => ?_, fun H g => ?_, fun i H v H' hi g y => ?_⟩⟩
    · rw [rng_length] at hi
      exact hi
    · show n.toNat ≤ (rng n.toNat).length
      rw [rng_length]
      exact Nat.le_refl _
    · obtain ⟨e, hv⟩ := y
      subst hv
      rw [rng_length] at hi
      refine ⟨e, .int (0 + (i : Int)), ?_, .int _⟩
      unfold rng
      rw [List.getElem?_map, List.getElem?_range hi, Int.zero_add]
      rfl
end

/-! ### effects: what the call owns, and what holds of it -/
structure Ifc (τ : Type) where
  own : τ → Own
  inv : τ → Hp → Prop
  ok : ∀ s H, inv s H → OwnOk (own s) H
  stab : ∀ s H H', inv s H → Same H H' → inv s H'
section
variable {τ : Type}
def Ev (J : Ifc τ) (t : TE) (δ : Env) (s : τ) (P : D → τ → Prop) : Prop := ∀ (σ : L2.St) (H : Hp), EnvR (J.own s) H σ δ → J.inv s H → ∀ Q : VK, (∀ v d s' H', Kp (J.own s) H (J.own s') H' → J.inv s' H' → Is (J.own s') H' v d → P d s' → Q v H') → t σ H Q
def Et (J : Ifc τ) (t : TT) (δ : Env) (s : τ) (P : Bool → τ → Prop) : Prop := ∀ (σ : L2.St) (H : Hp), EnvR (J.own s) H σ δ → J.inv s H → ∀ Q : Bool → Hp → Prop, (∀ b s' H', Kp (J.own s) H (J.own s') H' → J.inv s' H' → P b s' → Q b H') → t σ H Q
def Ea (J : Ifc τ) (t : TA) (δ : Env) (s : τ) (P : List D → τ → Prop) : Prop := ∀ (σ : L2.St) (H : Hp), EnvR (J.own s) H σ δ → J.inv s H → ∀ Q : List V → Hp → Prop, (∀ vs ds s' H', Kp (J.own s) H (J.own s') H' → J.inv s' H' → IsAll (J.own s') H' vs ds → P ds s' → Q vs H') → t σ H Q
def Io (J : Ifc τ) (wi : TI) (δ : Env) (s : τ) (P : List D → τ → Prop) : Prop := ∀ (σ : L2.St) (H : Hp), EnvR (J.own s) H σ δ → J.inv s H → ∀ R : It → Hp → Prop, (∀ I xs s' H', Kp (J.own s) H (J.own s') H' → J.inv s' H' → WalkD (J.own s') H' I xs → P xs s' → R I H') → wi σ H R
structure Post (τ : Type) where
  nx : Env → τ → Prop := fun _ _ => False
  rt : D → τ → Prop := fun _ _ => False
  bk : Env → τ → Prop := fun _ _ => False
  ct : Env → τ → Prop := fun _ _ => False
def Rn (J : Ifc τ) (t : TS) (δ : Env) (s : τ) (P : Post τ) : Prop := ∀ (En : Ends) (σ : L2.St) (H : Hp), EnvR (J.own s) H σ δ → J.inv s H →
  (∀ σ' δ' s' H', Kp (J.own s) H (J.own s') H' → J.inv s' H' → EnvR (J.own s') H' σ' δ' → P.nx δ' s' → En.nx σ' H') →
  (∀ v d s' H', Kp (J.own s) H (J.own s') H' → J.inv s' H' → Is (J.own s') H' v d → P.rt d s' → En.rt v H') →
  (∀ σ' δ' s' H', Kp (J.own s) H (J.own s') H' → J.inv s' H' → EnvR (J.own s') H' σ' δ' → P.bk δ' s' → En.bk σ' H') →
  (∀ σ' δ' s' H', Kp (J.own s) H (J.own s') H' → J.inv s' H' → EnvR (J.own s') H' σ' δ' → P.ct δ' s' → En.ct σ' H') → t En σ H
variable {J : Ifc τ} {δ : Env} {s : τ} {ta tb tc te : TE} {t u : TT} {P R : D → τ → Prop} {d : D}
theorem EvP.ev (h : EvP te δ d) : Ev J te δ s (fun d' s' => d' = d ∧ s' = s) := fun σ H E i Q q =>
  h (J.own s) σ H (J.ok s H i) E Q fun v H' s1 i1 => q v d s H' (Kp.same s1) (J.stab s H H' i s1) i1 ⟨rfl, rfl⟩
theorem Ev.imp (h : Ev J te δ s P) (k : ∀ d s', P d s' → R d s') : Ev J te δ s R := fun σ H E i Q q => h σ H E i Q fun v d s' H' a b c e => q v d s' H' a b c (k d s' e)
theorem ev_p (h : EvP te δ d) (k : P d s) : Ev J te δ s P := (h.ev).imp fun d' s' ⟨e1, e2⟩ => by subst e1; subst e2; exact k
theorem EtP.et {b : Bool} {T : Bool → τ → Prop} (h : EtP t δ b) (k : T b s) : Et J t δ s T := fun σ H E i Q q =>
  h (J.own s) σ H (J.ok s H i) E Q fun H' s1 => q b s H' (Kp.same s1) (J.stab s H H' i s1) k
theorem EaP.ea {ta : TA} {ds : List D} {A : List D → τ → Prop} (h : EaP ta δ ds) (k : A ds s) : Ea J ta δ s A := fun σ H E i Q q =>
  h (J.own s) σ H (J.ok s H i) E Q fun vs H' s1 i1 => q vs ds s H' (Kp.same s1) (J.stab s H H' i s1) i1 k
theorem ItP.io {wi : TI} {xs : List D} {A : List D → τ → Prop} (h : ItP wi δ xs) (k : A xs s) : Io J wi δ s A := fun σ H E i R q =>
  h (J.own s) σ H (J.ok s H i) E R fun I H' s1 w => q I xs s H' (Kp.same s1) (J.stab s H H' i s1) w k
theorem ev_op {r : R2} {P1 : D → τ → Prop} {P2 : D → D → τ → Prop} (ha : Ev J ta δ s P1) (hb : ∀ d s1, P1 d s1 → Ev J tb δ s1 (P2 d)) (hr : ∀ d e s2, P2 d e s2 → ∃ z, RvP r d e z ∧ P z s2) : Ev J (tOp r ta tb) δ s P := fun σ H E i Q q =>
  ha σ H E i _ fun v d s1 H1 k1 i1 is1 p1 => hb d s1 p1 σ H1 (E.kp k1) i1 _ fun u e s2 H2 k2 i2 is2 p2 => by
    obtain ⟨z, rz, pz⟩ := hr d e s2 p2
    exact rz (J.own s2) H2 v u (J.ok s2 H2 i2) (is1.kp k2).toT is2.toT Q fun w H3 s3 is3 => q w z s2 H3 ((k1.trans k2).trans (Kp.same s3)) (J.stab s2 H2 H3 i2 s3) is3 pz
theorem et_test {T : Bool → τ → Prop} (h : Ev J te δ s (fun d s' => ∃ b, d = .bl b ∧ T b s')) : Et J (tTest te) δ s T := fun σ H E i Q q => h σ H E i _ fun v d s' H' k i' is p => by
  obtain ⟨b, rfl, p⟩ := p
  cases is
  exact ⟨b, rfl, q b s' H' k i' p⟩
theorem et_B {T : Bool → τ → Prop} (h : Ev J te δ s (fun d s' => ∃ b, d = .bl b ∧ T b s')) : Et J (tB te) δ s T := fun σ H E i Q q => h σ H E i _ fun v d s' H' k i' is p => by
  obtain ⟨b, rfl, p⟩ := p
  cases is
  exact ⟨b, rfl, q b s' H' k i' p⟩
theorem et_not {T : Bool → τ → Prop} (h : Et J t δ s (fun b s' => T (!b) s')) : Et J (tNot t) δ s T := fun σ H E i Q q => h σ H E i _ fun b s' H' k i' p => q (!b) s' H' k i' p
theorem et_and {T T1 : Bool → τ → Prop} (h1 : Et J t δ s T1) (h2 : ∀ s1, T1 true s1 → Et J u δ s1 T) (h3 : ∀ s1, T1 false s1 → T false s1) : Et J (tAnd t u) δ s T := fun σ H E i Q q => h1 σ H E i _ fun b s1 H1 k1 i1 p1 => by
  cases b with
  | true => exact h2 s1 p1 σ H1 (E.kp k1) i1 Q fun b s2 H2 k2 i2 p2 => q b s2 H2 (k1.trans k2) i2 p2
  | false => exact q false s1 H1 k1 i1 (h3 s1 p1)
theorem et_or {T T1 : Bool → τ → Prop} (h1 : Et J t δ s T1) (h2 : ∀ s1, T1 false s1 → Et J u δ s1 T) (h3 : ∀ s1, T1 true s1 → T true s1) : Et J (tOr t u) δ s T := fun σ H E i Q q => h1 σ H E i _ fun b s1 H1 k1 i1 p1 => by
  cases b with
  | false => exact h2 s1 p1 σ H1 (E.kp k1) i1 Q fun b s2 H2 k2 i2 p2 => q b s2 H2 (k1.trans k2) i2 p2
  | true => exact q true s1 H1 k1 i1 (h3 s1 p1)
theorem ev_and {T1 : Bool → τ → Prop} (h1 : Ev J ta δ s (fun d s' => ∃ b, d = .bl b ∧ T1 b s')) (h2 : ∀ s1, T1 true s1 → Ev J tb δ s1 P) (h3 : ∀ s1, T1 false s1 → P (.bl false) s1) : Ev J (tAndV ta tb) δ s P := fun σ H E i Q q => h1 σ H E i _ fun v d s1 H1 k1 i1 is1 p1 => by
  obtain ⟨b, rfl, p1⟩ := p1
  cases is1
  refine ⟨b, rfl, ?_⟩
  cases b with
  | true => exact h2 s1 p1 σ H1 (E.kp k1) i1 Q fun v d s2 H2 k2 i2 is2 p2 => q v d s2 H2 (k1.trans k2) i2 is2 p2
  | false => exact q _ _ s1 H1 k1 i1 (.bl false) (h3 s1 p1)
theorem ev_if {T : Bool → τ → Prop} (h : Et J t δ s T) (h1 : ∀ s1, T true s1 → Ev J ta δ s1 P) (h2 : ∀ s1, T false s1 → Ev J tb δ s1 P) : Ev J (tIf t ta tb) δ s P := fun σ H E i Q q => h σ H E i _ fun b s1 H1 k1 i1 p1 => by
  cases b with
  | true => exact h1 s1 p1 σ H1 (E.kp k1) i1 Q fun v d s2 H2 k2 i2 is2 p2 => q v d s2 H2 (k1.trans k2) i2 is2 p2
  | false => exact h2 s1 p1 σ H1 (E.kp k1) i1 Q fun v d s2 H2 k2 i2 is2 p2 => q v d s2 H2 (k1.trans k2) i2 is2 p2
theorem ea_nil {A : List D → τ → Prop} (k : A [] s) : Ea J tNil δ s A := fun σ H E i Q q => q [] [] s H Kp.refl i .nil k
theorem ea_cons {tr : TA} {A : List D → τ → Prop} {P1 : D → τ → Prop} (h : Ev J ta δ s P1) (hr : ∀ d s1, P1 d s1 → Ea J tr δ s1 (fun ds s2 => A (d :: ds) s2)) : Ea J (tCons ta tr) δ s A := fun σ H E i Q q =>
  h σ H E i _ fun v d s1 H1 k1 i1 is1 p1 => hr d s1 p1 σ H1 (E.kp k1) i1 _ fun vs ds s2 H2 k2 i2 is2 p2 => q _ _ s2 H2 (k1.trans k2) i2 (.cons (is1.kp k2) is2) p2
theorem ev_tup {ta : TA} (h : Ea J ta δ s (fun ds s' => ds.length ≤ sizeLine ∧ P (.tup ds) s')) : Ev J (tTup ta) δ s P := fun σ H E i Q q =>
  h σ H E i _ fun vs ds s1 H1 k1 i1 is1 ⟨hl, p1⟩ => ⟨by rw [is1.length]; exact hl, fun p hp => q _ _ s1 _ (k1.trans (Kp.same (same_new hp))) (J.stab s1 H1 _ i1 (same_new hp)) (Is.newTup (J.ok s1 H1 i1) hp is1) p1⟩
theorem ev_lst {ta : TA} (h : Ea J ta δ s (fun ds s' => ds.length ≤ sizeLine ∧ P (.lst ds) s')) : Ev J (tLst ta) δ s P := fun σ H E i Q q =>
  h σ H E i _ fun vs ds s1 H1 k1 i1 is1 ⟨hl, p1⟩ => ⟨by rw [is1.length]; exact hl, fun p hp => q _ _ s1 _ (k1.trans (Kp.same (same_new hp))) (J.stab s1 H1 _ i1 (same_new hp)) (Is.newLst (J.ok s1 H1 i1) hp is1) p1⟩
theorem ev_cb {r : List V → Hp → VK → Prop} {ta : TA} (h : Ea J ta δ s (fun ds s' => ∃ z, RcP r ds z ∧ P z s')) : Ev J (tCB r ta) δ s P := fun σ H E i Q q =>
  h σ H E i _ fun vs ds s1 H1 k1 i1 is1 ⟨z, rz, pz⟩ => rz (J.own s1) H1 vs (J.ok s1 H1 i1) is1.toT Q fun w H2 s2 is2 => q w z s1 H2 (k1.trans (Kp.same s2)) (J.stab s1 H1 H2 i1 s2) is2 pz
theorem ev_then {k : V → Hp → VK → Prop} (h : Ev J ta δ s (fun d s' => ∃ z, RuP k d z ∧ P z s')) : Ev J (tThen ta k) δ s P := fun σ H E i Q q =>
  h σ H E i _ fun v d s1 H1 k1 i1 is1 ⟨z, rz, pz⟩ => rz (J.own s1) H1 v (J.ok s1 H1 i1) is1.toT Q fun w H2 s2 is2 => q w z s1 H2 (k1.trans (Kp.same s2)) (J.stab s1 H1 H2 i1 s2) is2 pz
theorem ev_slice {r : V → Option Int → Option Int → Hp → VK → Prop} {tl th : TO} {lo hi : Option Int} (h : Ev J te δ s (fun d s' => ∃ z, RsP r d lo hi z ∧ P z s')) (hl : EoP tl δ lo) (hh : EoP th δ hi) : Ev J (tSl r te tl th) δ s P := fun σ H E i Q q =>
  h σ H E i _ fun v d s1 H1 k1 i1 is1 ⟨z, rz, pz⟩ => hl (J.own s1) σ H1 (J.ok s1 H1 i1) (E.kp k1) _ fun H2 e2 => hh (J.own s1) σ H2 ((J.ok s1 H1 i1).same e2) ((E.kp k1).same e2) _ fun H3 e3 =>
    rz (J.own s1) H3 v (((J.ok s1 H1 i1).same e2).same e3) ((is1.same e2).same e3).toT Q fun w H4 e4 is4 => q w z s1 H4 (k1.trans (Kp.same ((e2.trans e3).trans e4))) (J.stab s1 H1 H4 i1 ((e2.trans e3).trans e4)) is4 pz

/-! ### statements -/
variable {ts us ws : TS} {Po : Post τ}
theorem Rn.imp {Po' : Post τ} (h : Rn J ts δ s Po) (k1 : ∀ a b, Po.nx a b → Po'.nx a b) (k2 : ∀ a b, Po.rt a b → Po'.rt a b) (k3 : ∀ a b, Po.bk a b → Po'.bk a b) (k4 : ∀ a b, Po.ct a b → Po'.ct a b) : Rn J ts δ s Po' := fun En σ H E i q1 q2 q3 q4 =>
  h En σ H E i (fun σ' δ' s' H' a b c p => q1 σ' δ' s' H' a b c (k1 _ _ p)) (fun v d s' H' a b c p => q2 v d s' H' a b c (k2 _ _ p)) (fun σ' δ' s' H' a b c p => q3 σ' δ' s' H' a b c (k3 _ _ p)) (fun σ' δ' s' H' a b c p => q4 σ' δ' s' H' a b c (k4 _ _ p))
theorem rn_seq {M : Env → τ → Prop} (h : Rn J ts δ s { Po with nx := M }) (k : ∀ δ' s', M δ' s' → Rn J us δ' s' Po) : Rn J (tSeq ts us) δ s Po := fun En σ H E i q1 q2 q3 q4 =>
  h { En with nx := us En } σ H E i (fun σ' δ' s' H' k1 i1 E1 m => k δ' s' m En σ' H' E1 i1 (fun σ2 δ2 s2 H2 a b c p => q1 σ2 δ2 s2 H2 (k1.trans a) b c p) (fun v d s2 H2 a b c p => q2 v d s2 H2 (k1.trans a) b c p) (fun σ2 δ2 s2 H2 a b c p => q3 σ2 δ2 s2 H2 (k1.trans a) b c p) (fun σ2 δ2 s2 H2 a b c p => q4 σ2 δ2 s2 H2 (k1.trans a) b c p)) q2 q3 q4
theorem rn_next (k : Po.nx δ s) : Rn J tNext δ s Po := fun En σ H E i q1 q2 q3 q4 => q1 σ δ s H Kp.refl i E k
theorem rn_nextSeq (h : Rn J us δ s Po) : Rn J (tSeq tNext us) δ s Po := rn_seq (M := fun δ' s' => δ' = δ ∧ s' = s) (rn_next ⟨rfl, rfl⟩) fun _ _ ⟨e1, e2⟩ => by subst e1; subst e2; exact h
theorem rn_ret (h : Ev J te δ s Po.rt) : Rn J (tRet te) δ s Po := fun En σ H E i q1 q2 q3 q4 => h σ H E i _ q2
theorem rn_retSeq (h : Ev J te δ s Po.rt) : Rn J (tSeq (tRet te) us) δ s Po := rn_seq (M := fun _ _ => False) (rn_ret h) fun _ _ z => z.elim
theorem rn_drop (h : Ev J te δ s P) (k : ∀ d s', P d s' → Po.nx δ s') : Rn J (tDrop te) δ s Po := fun En σ H E i q1 q2 q3 q4 => h σ H E i _ fun v d s' H' a b c p => q1 σ δ s' H' a b (E.kp a) (k d s' p)
theorem rn_dropSeq (h : Ev J te δ s P) (k : ∀ d s', P d s' → Rn J us δ s' Po) : Rn J (tSeq (tDrop te) us) δ s Po := rn_seq (M := fun δ' s' => δ' = δ ∧ ∃ d, P d s') (rn_drop h fun d s' p => ⟨rfl, d, p⟩) fun _ s' ⟨e1, d, p⟩ => by subst e1; exact k d s' p
theorem rn_set {i : Nat} (h : Ev J te δ s P) (k : ∀ d s', P d s' → Po.nx (δ.set i (some d)) s') : Rn J (tAsg te (gName i)) δ s Po := fun En σ H E inv q1 q2 q3 q4 => h σ H E inv _ fun v d s' H' a b c p => q1 _ _ s' H' a b ((E.kp a).set i c) (k d s' p)
theorem rn_setSeq {i : Nat} (h : Ev J te δ s P) (k : ∀ d s', P d s' → Rn J us (δ.set i (some d)) s' Po) : Rn J (tSeq (tAsg te (gName i)) us) δ s Po :=
  rn_seq (M := fun δ' s' => ∃ d, δ' = δ.set i (some d) ∧ P d s') (rn_set h fun d s' p => ⟨d, rfl, p⟩) fun _ s' ⟨d, e1, p⟩ => by subst e1; exact k d s' p
theorem rn_setP {i : Nat} (h : EvP te δ d) (k : Rn J us (δ.set i (some d)) s Po) : Rn J (tSeq (tAsg te (gName i)) us) δ s Po := rn_setSeq h.ev fun d' s' ⟨e1, e2⟩ => by subst e1; subst e2; exact k
theorem rn_if {T : Bool → τ → Prop} (h : Et J t δ s T) (k1 : ∀ s1, T true s1 → Rn J ts δ s1 Po) (k2 : ∀ s1, T false s1 → Rn J us δ s1 Po) : Rn J (tIfS t ts us) δ s Po := fun En σ H E i q1 q2 q3 q4 => h σ H E i _ fun b s1 H1 a1 i1 p1 => by
  cases b with
  | true => exact k1 s1 p1 En σ H1 (E.kp a1) i1 (fun σ2 δ2 s2 H2 a b c p => q1 σ2 δ2 s2 H2 (a1.trans a) b c p) (fun v d s2 H2 a b c p => q2 v d s2 H2 (a1.trans a) b c p) (fun σ2 δ2 s2 H2 a b c p => q3 σ2 δ2 s2 H2 (a1.trans a) b c p) (fun σ2 δ2 s2 H2 a b c p => q4 σ2 δ2 s2 H2 (a1.trans a) b c p)
  | false => exact k2 s1 p1 En σ H1 (E.kp a1) i1 (fun σ2 δ2 s2 H2 a b c p => q1 σ2 δ2 s2 H2 (a1.trans a) b c p) (fun v d s2 H2 a b c p => q2 v d s2 H2 (a1.trans a) b c p) (fun σ2 δ2 s2 H2 a b c p => q3 σ2 δ2 s2 H2 (a1.trans a) b c p) (fun σ2 δ2 s2 H2 a b c p => q4 σ2 δ2 s2 H2 (a1.trans a) b c p)
theorem rn_ifSeq {T : Bool → τ → Prop} (h : Et J t δ s T) (k1 : ∀ s1, T true s1 → Rn J (tSeq ts ws) δ s1 Po) (k2 : ∀ s1, T false s1 → Rn J (tSeq us ws) δ s1 Po) : Rn J (tSeq (tIfS t ts us) ws) δ s Po := fun En σ H E i q1 q2 q3 q4 => h σ H E i _ fun b s1 H1 a1 i1 p1 => by
  cases b with
  | true => exact k1 s1 p1 En σ H1 (E.kp a1) i1 (fun σ2 δ2 s2 H2 a b c p => q1 σ2 δ2 s2 H2 (a1.trans a) b c p) (fun v d s2 H2 a b c p => q2 v d s2 H2 (a1.trans a) b c p) (fun σ2 δ2 s2 H2 a b c p => q3 σ2 δ2 s2 H2 (a1.trans a) b c p) (fun σ2 δ2 s2 H2 a b c p => q4 σ2 δ2 s2 H2 (a1.trans a) b c p)
  | false => exact k2 s1 p1 En σ H1 (E.kp a1) i1 (fun σ2 δ2 s2 H2 a b c p => q1 σ2 δ2 s2 H2 (a1.trans a) b c p) (fun v d s2 H2 a b c p => q2 v d s2 H2 (a1.trans a) b c p) (fun σ2 δ2 s2 H2 a b c p => q3 σ2 δ2 s2 H2 (a1.trans a) b c p) (fun σ2 δ2 s2 H2 a b c p => q4 σ2 δ2 s2 H2 (a1.trans a) b c p)
theorem rn_ifP {b : Bool} (h : EtP t δ b) (k1 : b = true → Rn J ts δ s Po) (k2 : b = false → Rn J us δ s Po) : Rn J (tIfS t ts us) δ s Po := rn_if (h.et (T := fun b' s' => b' = b ∧ s' = s) ⟨rfl, rfl⟩) (fun _ ⟨e1, e2⟩ => by subst e2; exact k1 e1.symm) (fun _ ⟨e1, e2⟩ => by subst e2; exact k2 e1.symm)
theorem rn_ifSeqP {b : Bool} (h : EtP t δ b) (k1 : b = true → Rn J (tSeq ts ws) δ s Po) (k2 : b = false → Rn J (tSeq us ws) δ s Po) : Rn J (tSeq (tIfS t ts us) ws) δ s Po := rn_ifSeq (h.et (T := fun b' s' => b' = b ∧ s' = s) ⟨rfl, rfl⟩) (fun _ ⟨e1, e2⟩ => by subst e2; exact k1 e1.symm) (fun _ ⟨e1, e2⟩ => by subst e2; exact k2 e1.symm)
theorem rn_retP (h : EvP te δ d) (k : Po.rt d s) : Rn J (tRet te) δ s Po := rn_ret (ev_p h k)
theorem rn_retSeqP (h : EvP te δ d) (k : Po.rt d s) : Rn J (tSeq (tRet te) us) δ s Po := rn_retSeq (ev_p h k)
theorem rn_seqAssoc (h : Rn J (tSeq ts (tSeq us ws)) δ s Po) : Rn J (tSeq (tSeq ts us) ws) δ s Po := h
/-- for x in ..: Pv by the turn -/
theorem rn_for {wi : TI} {j : Nat} {A : List D → τ → Prop} (hi : Io J wi δ s A) (Pv : List D → Nat → Env → τ → Prop) (h0 : ∀ xs s', A xs s' → Pv xs 0 δ s')
    (hs : ∀ (xs : List D) (i : Nat) (x : D) (δ' : Env) (s' : τ), xs[i]? = some x → Pv xs i δ' s' → Rn J ts (δ'.set j (some x)) s' { Po with nx := Pv xs (i + 1), ct := Pv xs (i + 1), bk := Po.nx }) (hd : ∀ xs δ' s', Pv xs xs.length δ' s' → Po.nx δ' s') : Rn J (tFor wi (gName j) ts) δ s Po := fun En σ H E inv q1 q2 q3 q4 =>
  hi σ H E inv _ fun I xs s1 H1 k1 i1 w p1 => by
    refine for_it w (fun i σ' H' => ∃ δ' s', Kp (J.own s1) H1 (J.own s') H' ∧ J.inv s' H' ∧ EnvR (J.own s') H' σ' δ' ∧ Pv xs i δ' s') ⟨δ, s1, Kp.refl, i1, E.kp k1, h0 xs s1 p1⟩ (fun i σ' H' _ ⟨δ', s', k, _⟩ a o ha na => (k a o ha na).1) (fun i x σ' H' H'' hi ⟨δ', s', k, iv, E', pv⟩ y => ?_) (fun σ' H' ⟨δ', s', k, iv, E', pv⟩ => q1 σ' δ' s' H' (k1.trans k) iv E' (hd xs δ' s' pv))
    obtain ⟨e, d, hd', is⟩ := y
    subst e
    refine hs xs i d δ' s' hd' pv _ _ H'' (E'.set j (is.kp k)) iv (fun σ2 δ2 s2 H2 a b c p => ⟨δ2, s2, k.trans a, b, c, p⟩) (fun v d s2 H2 a b c p => q2 v d s2 H2 ((k1.trans k).trans a) b c p) (fun σ2 δ2 s2 H2 a b c p => q1 σ2 δ2 s2 H2 ((k1.trans k).trans a) b c p) (fun σ2 δ2 s2 H2 a b c p => ⟨δ2, s2, k.trans a, b, c, p⟩)
theorem rn_while (Pv : Nat → Env → τ → Prop) (m : Nat) (h0 : Pv m δ s) (T : Nat → Env → Bool → τ → Prop) (hc : ∀ m δ' s', Pv m δ' s' → Et J t δ' s' (T m δ'))
    (hs : ∀ m δ' s', T m δ' true s' → Rn J ts δ' s' { Po with nx := fun δ2 s2 => ∃ m', m' < m ∧ Pv m' δ2 s2, ct := fun δ2 s2 => ∃ m', m' < m ∧ Pv m' δ2 s2, bk := Po.nx }) (hd : ∀ m δ' s', T m δ' false s' → Po.nx δ' s') : Rn J (tWhile t ts) δ s Po := fun En σ H E inv q1 q2 q3 q4 => by
  refine ⟨fun m σ' H' => ∃ δ' s', Kp (J.own s) H (J.own s') H' ∧ J.inv s' H' ∧ EnvR (J.own s') H' σ' δ' ∧ Pv m δ' s', ⟨m, δ, s, Kp.refl, inv, E, h0⟩, fun m σ' H' ⟨δ', s', k, iv, E', pv⟩ => ?_⟩
  refine hc m δ' s' pv σ' H' E' iv _ fun b s1 H1 k1 i1 p1 => ?_
  cases b with
  | false => exact q1 σ' δ' s1 H1 (k.trans k1) i1 (E'.kp k1) (hd m δ' s1 p1)
  | true =>
    refine ⟨fun σ2 H2 => ∃ δ2 s2, Kp (J.own s) H (J.own s2) H2 ∧ J.inv s2 H2 ∧ EnvR (J.own s2) H2 σ2 δ2 ∧ ∃ m', m' < m ∧ Pv m' δ2 s2, fun σ2 H2 ⟨δ2, s2, a, b, c, m', hm, p⟩ => ⟨m', hm, δ2, s2, a, b, c, p⟩, ?_⟩
    exact hs m δ' s1 p1 _ σ' H1 (E'.kp k1) i1 (fun σ2 δ2 s2 H2 a b c p => ⟨δ2, s2, (k.trans k1).trans a, b, c, p⟩) (fun v d s2 H2 a b c p => q2 v d s2 H2 ((k.trans k1).trans a) b c p) (fun σ2 δ2 s2 H2 a b c p => q1 σ2 δ2 s2 H2 ((k.trans k1).trans a) b c p) (fun σ2 δ2 s2 H2 a b c p => ⟨δ2, s2, (k.trans k1).trans a, b, c, p⟩)

/-! ### comprehensions: the new list is owned while it is made -/
def del (H : Hp) (x : Addr) : Hp := fun a => if a = x then none else H a
theorem del_same {H : Hp} {x : Addr} : del H x x = none := by unfold del; rw [if_pos rfl]
theorem del_ne {H : Hp} {x a : Addr} (h : a ≠ x) : del H x a = H a := by unfold del; rw [if_neg h]
theorem del_upd {H : Hp} {x : Addr} {o : HO} : del (upd H x o) x = del H x := by
  funext a; unfold del upd
  by_cases h : a = x
  · rw [if_pos h, if_pos h]
  · rw [if_neg h, if_neg h, if_neg h]
theorem del_none {H : Hp} {x : Addr} (h : H x = none) : del H x = H := by
  funext a; unfold del
  by_cases e : a = x
  · rw [if_pos e, e, h]
  · rw [if_neg e]
theorem del_sub {H : Hp} {x : Addr} : Same (del H x) H := fun a o h => by
  by_cases e : a = x
  · subst e; rw [del_same] at h; cases h
  · rw [del_ne e] at h; exact h
theorem del_mono {H H' : Hp} {x : Addr} (s : Same H H') : Same (del H x) (del H' x) := fun a o h => by
  by_cases e : a = x
  · subst e; rw [del_same] at h; cases h
  · rw [del_ne e] at h ⊢; exact s a o h
def Ifc.plus (J : Ifc τ) (Dl : Addr) : Ifc (τ × List V) where
  own := fun s a => J.own s.1 a ∨ a = Dl
  inv := fun s H => J.inv s.1 (del H Dl) ∧ H Dl = some (.lst s.2)
  ok := fun s H h a q e => by
    rcases q with q | q
    · have z := J.ok s.1 _ h.1 a q
      by_cases ea : a = Dl
      · subst ea; exact z del_same
      · rw [del_ne ea] at z; exact z e
    · subst q; rw [h.2] at e; cases e
  stab := fun s H H' h e => ⟨J.stab s.1 _ _ h.1 (del_mono e), e _ _ h.2⟩
theorem wipe_at (σ : L2.St) (i : Nat) : ∀ vs : List Nat, (wipe σ vs)[i]? = if i ∈ vs then (if i < σ.length then some none else none) else σ[i]?
  | [] => by simp [wipe]
  | v :: vs => by
    unfold wipe
    rw [List.getElem?_set, wipe_length]
    have ih := wipe_at σ i vs
    by_cases hv : v = i
    · subst hv
      simp
    · rw [if_neg hv, ih]
      have : i ≠ v := fun e => hv e.symm
      by_cases hm : i ∈ vs
      · simp [hm]
      · simp [hm, this]
theorem wipe_set {σ : L2.St} {vs : List Nat} {j : Nat} {x : Option V} (hj : j ∈ vs) : wipe ((wipe σ vs).set j x) vs = wipe σ vs := by
  apply List.ext_getElem?
  intro i
  rw [wipe_at, List.length_set, wipe_length]
  by_cases hi : i ∈ vs
  · rw [if_pos hi, wipe_at, if_pos hi]
  · rw [if_neg hi, List.getElem?_set_ne (fun (e : j = i) => hi (e ▸ hj))]
theorem ev_lc {wi : TI} {j : Nat} {vs : List Nat} {A : List D → τ → Prop} (hi : Io J wi δ s A) (hj : j ∈ vs) (Pv : List D → Nat → List D → τ → Prop) (h0 : ∀ xs s', A xs s' → Pv xs 0 [] s')
    (p : D → Bool) (ht : ∀ (xs : List D) (s' : τ) (i : Nat) (x : D), A xs s' → xs[i]? = some x → EtP t ((wipeD δ vs).set j (some x)) (p x)) (hz : ∀ xs s', A xs s' → xs.length < sizeLine)
    (hs : ∀ (xs : List D) (s0 : τ) (Dl : Addr) (i : Nat) (x : D) (ds : List D) (s1 : τ) (acc : List V), A xs s0 → ¬ J.own s0 Dl → xs[i]? = some x → p x = true → Pv xs i ds s1 → Ev (J.plus Dl) te ((wipeD δ vs).set j (some x)) (s1, acc) (fun d s2 => s2.2 = acc ∧ Pv xs (i + 1) (ds ++ [d]) s2.1))
    (hn : ∀ (xs : List D) (i : Nat) (x : D) (ds : List D) (s1 : τ), xs[i]? = some x → p x = false → Pv xs i ds s1 → Pv xs (i + 1) ds s1)
    (hd : ∀ xs ds s', Pv xs xs.length ds s' → P (.lst ds) s') : Ev J (tLc wi (gName j) t te vs) δ s P := fun σ H E inv Q q =>
  hi σ H E inv _ fun I xs s1 H1 k1 i1 w p1 => fun Dl hD => by
    have nD : ¬ J.own s1 Dl := (J.ok s1 H1 i1).new hD
    have kD : Kp (J.own s1) H1 ((J.plus Dl).own (s1, ([] : List V))) (upd H1 Dl (.lst [])) := fun a o ha na => ⟨same_new hD a o ha, fun z => by
      rcases z with z | z
      · exact na z
      · subst z; rw [hD] at ha; cases ha⟩
    refine lc_it w (fun i H' => ∃ s' acc ds, Kp (J.own s1) H1 ((J.plus Dl).own (s', acc)) H' ∧ (J.plus Dl).inv (s', acc) H' ∧ IsAll ((J.plus Dl).own (s', acc)) H' acc ds ∧ ds.length ≤ i ∧ Pv xs i ds s')
      ⟨s1, [], [], kD, ⟨by rw [del_upd, del_none hD]; exact i1, upd_same⟩, .nil, Nat.le_refl _, h0 xs s1 p1⟩ (fun i H' _ ⟨s', acc, ds, k, _⟩ a o ha na => (k a o ha na).1) (fun i x H' H'' hi ⟨s', acc, ds, k, iv, ia, hl, pv⟩ y => ?_) (fun H' ⟨s', acc, ds, k, iv, ia, hl, pv⟩ => ?_)
    · obtain ⟨e, d, hd', is⟩ := y
      subst e
      refine ⟨wipe_set hj, ?_⟩
      have E' : EnvR ((J.plus Dl).own (s', acc)) H'' ((wipe σ vs).set j (some x)) ((wipeD δ vs).set j (some d)) := (((E.kp k1).kp k).wipe vs).set j (is.kp k)
      refine ht xs s1 i d p1 hd' ((J.plus Dl).own (s', acc)) _ H'' ((J.plus Dl).ok _ H'' iv) E' _ fun H3 e3 => ?_
      cases hp : p d with
      | false => exact ⟨s', acc, ds, k.trans (Kp.same e3), (J.plus Dl).stab _ H'' H3 iv e3, ia.same e3, by omega, hn xs i d ds s' hd' hp pv⟩
      | true =>
        show te _ H3 _
        refine hs xs s1 Dl i d ds s' acc p1 nD hd' hp pv _ H3 (E'.same e3) ((J.plus Dl).stab _ H'' H3 iv e3) _ fun v d2 s2 H4 k4 i4 is4 ⟨ea, p4⟩ => ?_
        obtain ⟨s2, acc2⟩ := s2
        simp only at ea
        subst ea
        have h4 : H4 Dl = some (.lst acc2) := i4.2
        have ia4 : IsAll ((J.plus Dl).own (s2, acc2)) H4 acc2 ds := (ia.same e3).kp k4
        have hz' := hz xs s1 p1
        have hlen := ia4.length
        refine ⟨acc2, h4, by rw [hlen]; omega, s2, acc2 ++ [v], ds ++ [d2], ?_, ⟨?_, upd_same⟩, ?_, by rw [List.length_append, List.length_singleton]; omega, p4⟩
        · intro a o ha na
          obtain ⟨g1, g2⟩ := ((k.trans (Kp.same e3)).trans k4) a o ha na
          exact ⟨by rw [upd_ne (fun z => g2 (.inr z))]; exact g1, g2⟩
        · show J.inv s2 (del (upd H4 Dl _) Dl)
          rw [del_upd]
          exact i4.1
        · have kk : Kp ((J.plus Dl).own (s2, acc2)) H4 ((J.plus Dl).own (s2, acc2 ++ [v])) (upd H4 Dl (.lst (acc2 ++ [v]))) := fun a o ha na => ⟨by rw [upd_ne (fun z => na (.inr z))]; exact ha, na⟩
          exact (ia4.kp kk).append (IsAll.one (is4.kp kk))
    · have kk : Kp ((J.plus Dl).own (s', acc)) H' (J.own s') H' := fun a o ha na => ⟨ha, fun z => na (.inl z)⟩
      refine q (.ref Dl) (.lst ds) s' H' ?_ (J.stab s' _ _ iv.1 del_sub) (.lst iv.2 ?_ (ia.kp kk)) (hd xs ds s' pv)
      · exact (k1.trans k).trans kk
      · exact fun z => J.ok s' _ iv.1 Dl z del_same
end
end DL

set_option Elab.async false
set_option linter.all false
set_option maxRecDepth 100000
set_option maxHeartbeats 4000000
namespace DL
open PySem L2
variable [Wd]

/-! ### pure by any interface -/
def JP (own : Own) (H0 : Hp) (o : OwnOk own H0) : Ifc Unit := ⟨fun _ => own, fun _ H => Same H0 H, fun _ _ h => o.same h, fun _ _ _ h e => h.trans e⟩
section
variable {δ : Env} {ta te : TE} {t : TT} {d z : D} {ds xs : List D}
theorem EvP.of (h : ∀ (τ : Type) (J : Ifc τ) (s : τ), Ev J te δ s (fun d' s' => d' = d ∧ s' = s)) : EvP te δ d := fun own σ H o E Q q =>
  h Unit (JP own H o) () σ H E (Same.refl H) Q fun v d' s' H' k i is ⟨e, _⟩ => q v H' i (e ▸ is)
theorem take_succ_get {α : Type} : ∀ {l : List α} {i : Nat} {x : α}, l[i]? = some x → l.take (i + 1) = l.take i ++ [x]
  | [], i, x, h => by simp at h
  | a :: l, 0, x, h => by
    have e : a = x := Option.some.inj h
    subst e
    rfl
  | a :: l, i + 1, x, h => by
    have ih := take_succ_get (l := l) (i := i) (x := x) h
    show a :: l.take (i + 1) = a :: l.take i ++ [x]
    rw [ih]
    rfl
theorem p_lc {wi : TI} {j : Nat} {vs : List Nat} (p : D → Bool) (f : D → D) (hi : ItP wi δ xs) (hj : j ∈ vs) (hz : xs.length < sizeLine)
    (ht : ∀ x, x ∈ xs → EtP t ((wipeD δ vs).set j (some x)) (p x)) (he : ∀ x, x ∈ xs → p x = true → EvP te ((wipeD δ vs).set j (some x)) (f x)) :
    EvP (tLc wi (gName j) t te vs) δ (.lst ((xs.filter p).map f)) := EvP.of fun τ J s =>
  ev_lc (A := fun xs' s' => xs' = xs ∧ s' = s) (hi.io ⟨rfl, rfl⟩) hj (fun xs' i ds s' => xs' = xs ∧ s' = s ∧ ds = ((xs.take i).filter p).map f) (fun xs' s' ⟨e1, e2⟩ => ⟨e1, e2, by simp⟩) p
    (fun xs' s' i x ⟨e1, e2⟩ hx => by subst e1; exact ht x (List.mem_of_getElem? hx)) (fun xs' s' ⟨e1, _⟩ => by subst e1; exact hz)
    (fun xs' s0 Dl i x ds s1 acc ⟨e1, e2⟩ _ hx hp ⟨_, e3, e4⟩ => by
      subst e1; subst e3
      refine ev_p (he x (List.mem_of_getElem? hx) hp) ⟨rfl, rfl, rfl, ?_⟩
      rw [take_succ_get hx, List.filter_append, List.map_append, ← e4]
      simp [hp])
    (fun xs' i x ds s1 hx hp ⟨e1, e3, e4⟩ => by
      subst e1
      refine ⟨rfl, e3, ?_⟩
      rw [take_succ_get hx, List.filter_append, List.map_append, ← e4]
      simp [hp])
    (fun xs' ds s' ⟨e1, e2, e3⟩ => by
      subst e1
      rw [List.take_length] at e3
      exact ⟨by rw [e3], e2⟩)
theorem pt_yes : EtP tYes δ true := fun own σ H o E Q q => q H (Same.refl H)
/-- no test -/
theorem p_lcm {wi : TI} {j : Nat} {vs : List Nat} (f : D → D) (hi : ItP wi δ xs) (hj : j ∈ vs) (hz : xs.length < sizeLine) (he : ∀ x, x ∈ xs → EvP te ((wipeD δ vs).set j (some x)) (f x)) :
    EvP (tLc wi (gName j) tYes te vs) δ (.lst (xs.map f)) := by
  have h := p_lc (t := tYes) (fun _ => true) f hi hj hz (fun _ _ => pt_yes) (fun x hx _ => he x hx)
  rw [List.filter_eq_self.mpr (fun _ _ => rfl)] at h
  exact h

/-! ### promises of pure defs -/
def spP (R : List D → D → Prop) : Sp := fun vs H Q _ => ∃ (own : Own) (ds : List D) (z : D), OwnOk own H ∧ IsAll own H vs ds ∧ R ds z ∧ ∀ v H', Same H H' → Is own H' v z → Q v H'
variable {R : List D → D → Prop} {E0' : XK}
theorem p_call {ta : TA} (h : EaP ta δ ds) (hR : R ds z) : EvP (tCall (spP R) [] E0' ta) δ z := fun own σ H o E Q q =>
  h own σ H o E _ fun vs H1 s1 i1 => ⟨own, ds, z, o.same s1, by rw [List.append_nil]; exact i1, hR, fun v H' s2 i2 => q v H' (s1.trans s2) i2⟩
theorem p_callN {ta tk : TA} {es : List D} {n m : Nat} (h : EaP ta δ ds) (hk : EaP tk δ es) (hn : ds.length = n) (hm : es.length = m) (hR : R (ds ++ es) z) : EvP (tCallN n m (spP R) (fun vs zs => vs ++ zs) E0' ta tk) δ z := fun own σ H o E Q q =>
  h own σ H o E _ fun vs H1 s1 i1 => hk own σ H1 (o.same s1) (E.same s1) _ fun zs H2 s2 i2 => ⟨by rw [i1.length]; exact hn, by rw [i2.length]; exact hm, own, ds ++ es, z, (o.same s1).same s2, (i1.same s2).append i2, hR, fun v H' s3 i3 => q v H' ((s1.trans s2).trans s3) i3⟩
def RnP (t : TS) (δ : Env) (z : D) : Prop := ∀ (τ : Type) (J : Ifc τ) (s : τ), Rn J t δ s { rt := fun d s' => d = z ∧ s' = s }
/-- the slots at a def's start -/
def startD (N : List Str) (ds : List D) : Env := ds.map some ++ List.replicate (N.length - ds.length) none
end
section
variable {P : Program} {w : World} {K : PySem.W.Frag} {mg : Str → Option Value} {base : Heap}
theorem okP {x qual : Str} {st : Stmt} {f : Addr} {fd : FuncData} {N ps : List Str} {k : Nat} {R : List D → D → Prop} (F : Fun K x qual st f fd) (S : FnScope N ps (defScope st)) (len : ∀ ds z, R ds z → ds.length = ps.length)
    (hbody : ∀ (cdv : Value) (A : Around) (outer : List PySem.Env) (s : Shared) (H : Hp) (E : XK), Room k (A.deeper (PyProof.Rows.envOfC qual (defScope st) s.heap.objs.size f cdv)) →
      ∃ t, PSs (cxOf CX0 P w K mg base N qual (defScope st) f cdv A outer s H E).nox (defBody st) t ∧ ∀ ds z, R ds z → RnP t (startD N ds) z) : FnOk P w K mg base CX0 (k + 1) f fd ps (spP R) := by
  refine F.ok S (fun vs H Q E h => ?_) (fun cdv A outer s H vs Q E hr h => ?_)
  · obtain ⟨own, ds, z, _, ia, hR, _⟩ := h
    rw [ia.length]
    exact len ds z hR
  · obtain ⟨own, ds, z, o, ia, hR, q⟩ := h
    obtain ⟨t, hd, ht⟩ := hbody cdv A outer s H E hr
    refine ⟨t, hd, ht ds z hR Unit (JP own H o) () _ _ H ?_ (Same.refl H) (fun _ _ _ _ _ _ _ z => z.elim) (fun v d s' H' kp i is ⟨e, _⟩ => q v H' i (e ▸ is)) (fun _ _ _ _ _ _ _ z => z.elim) (fun _ _ _ _ _ _ _ z => z.elim)⟩
    unfold L2.start startD
    rw [ia.length]
    exact EnvR.start ia _
end
section
variable {X : Cx} {CX : CXT} {k : Nat} {f : Addr} {fd : FuncData} {ps ks : List Str} {sp : Sp} {E : XK} {x : Str} {p pos : Pos} {kws : List Keyword} {tk : TA} {g : List Value → List Value → List Value} {gV : List V → List V → List V}
/-- f(k = v, ..) -/
theorem pe_callN0 (F : FnOk X.prog X.w X.K X.mg X.base CX k f fd ps sp) (hr : Room k X.A) (hg : Gl X x) (hm : X.mg x = some (.ref f)) (hk : PySem.W.keepIn X.K (.ref f) = true) (hb : KBn X.K fd ps 0 ks g gV) (hx : Passes CX X E)
    (hkw : PK X kws tk) (hall : (backToKw pos (keywordEach kws X.env)).all (·.1.isSome) = true := by rfl) (hks : (backToKw pos (keywordEach kws X.env)).filterMap (·.1) = ks := by rfl)
    (hdb : (x == ("__debug__" : Str)) = false := by decide)
    (hpl : ((backTo pos (starEach [] X.env)).any (·.1) || (backToKw pos (keywordEach kws X.env)).any (·.1.isNone)) = false := by rfl) :
    PE X (.Call (.Name x p) [] kws pos) (tCallN 0 ks.length sp gV E tNil tk) := by
  refine ⟨fun pins s σ H Q I h => ?_⟩
  refine wpAny_Call_Name_kw (ld_glob I hg hm ?_ hdb)
  refine PySem.W.callWith_KW0 (h₀ := X.base) I.ok.mod.kin hk hall ?_ hpl
  refine thn (hkw.run pos pins s σ H _ I h) fun ws s2 ⟨zs, H2, I2, rz, l1, l2, q2⟩ => ⟨I2.kIn, ?_⟩
  rw [hks]
  exact run_fnN (us := []) (vs := []) F hr hb hx I2 .nil rz rfl l2 q2
end
theorem Fun.kbn {K : PySem.W.Frag} {x qual : Str} {st : Stmt} {f : Addr} {fd : FuncData} {ps ks : List Str} {n : Nat} (F : Fun K x qual st f fd)
    (h : ∀ (kV doc pm : Value) (an : Option Addr) (cdv ct : Value) (us ws : List Value), us.length = n → ws.length = ks.length → bindArgs (PySem.W.fnOf x qual (defArgs st) (defBody st) (defScope st) .none kV doc pm an cdv ct) ⟨us, ks.zip ws⟩ = pure (ps.zip (us ++ ws))) :
    KBn K fd ps n ks (fun us ws => us ++ ws) (fun vs zs => vs ++ zs) := by
  obtain ⟨oc, od, kV, doc, pm, an, cdv, ct, osl, rfl, lk, hcd⟩ := F.ex
  exact ⟨fun s us ws X l1 l2 => .of_eq (h kV doc pm an cdv ct us ws l1 l2), fun r1 r2 => r1.append r2⟩

/-! ### head, *parts = .. -/
section
open PySem.W PySem.Calls PyProof.Rows
variable {prog : Program} {w : World} {A : Around} {E : Value → Shared → Prop} {s : Shared}
theorem unpack_starT {l : Addr} {items : Array Value} {n i : Nat} {Q : List Value → Shared → Prop} (hl : IsTup s.heap l items) (hh : A.handled = none) (hi : i < n) (hn : n ≤ items.size + 1) (hz : items.size ≤ sizeLine)
    (h : ∀ (h₂ : Heap) tk, (∀ b o, s.heap.get? b = some o → h₂.get? b = some o) → Q (items.toList.take i ++ [.ref h₂.objs.size] ++ (items.toList.drop i).drop (items.size + 1 - n)) { s with heap := h₂.push { cls := .type "list", data := .seq ((items.toList.drop i).take (items.size + 1 - n)).toArray }, toks := tk }) :
    wpAny (model prog w) A (unpackItems (.ref l) n (some i)) Q E s := by
  have hlt : l ≠ s.heap.objs.size := by obtain ⟨o, ho, _⟩ := hl; exact Nat.ne_of_lt (Heap.lt_size ho)
  have hll : l < s.heap.objs.size := by obtain ⟨o, ho, _⟩ := hl; exact Heap.lt_size ho
  unfold unpackItems
  refine wpAny_bind ?_
  unfold notIterableAtAll
  refine wpAny_bind (wpAny_specialOf hl.typeIs slot_tuple_iter.lookup ?_)
  refine wpAny_pure ?_
  simp only [Bool.false_eq_true, if_false]
  refine wpAny_bind (wpAny_holding (iter_tuple hl ?_))
  refine wpAny_bind (wpAny_holding (draw_tuple hlt i 0 _ _ ⟨_, Heap.get?_push_size _ rfl, rfl, rfl⟩ (hl.push _) (by omega) fun h₁ hit₁ hs₁ => ?_))
  have hl₁ : IsTup h₁ l items := (hl.push _).extBut hs₁.extBut hlt
  rw [Nat.zero_add] at hit₁
  have hit₁' := hit₁
  obtain ⟨oi, hoi, _⟩ := hit₁'
  have hl₁' := hl₁
  obtain ⟨ol, hol, _⟩ := hl₁'
  rw [List.drop_zero]
  have hfl : (items.toList.take i).length = i := by rw [List.length_take, Array.length_toList]; omega
  rw [if_neg (show ¬ ((items.toList.take i).length < i) by rw [hfl]; omega)]
  refine wpAny_bind (wpAny_holding (kun_collect (s := { s with heap := h₁ }) (T := "tuple_iterator") (.inr (.inr (.inr rfl))) (Walks.tuple (A := A.in1) hh s.heap.objs.size l hlt items) (fun j u st => st.1.typeIs) (k := i) (by omega) ⟨hit₁, hl₁⟩ (Heap.lt_size hoi) (Heap.lt_size hol) (fun h₂ tk hk => ?_) hz))
  have hrl : (items.toList.drop i).length = items.size - i := by rw [List.length_drop, Array.length_toList]
  have hmid : (items.toList.drop i).length - (n - 1 - i) = items.size + 1 - n := by rw [hrl]; omega
  show wpAny _ _ (if (items.toList.drop i).length < n - 1 - i then _ else _) _ _ _
  rw [if_neg (by rw [hrl]; omega)]
  show wpAny _ _ (newList ((items.toList.drop i).take ((items.toList.drop i).length - (n - 1 - i))) >>= fun d => pure (items.toList.take i ++ [d] ++ (items.toList.drop i).drop ((items.toList.drop i).length - (n - 1 - i)))) _ _ _
  rw [hmid]
  have he : Heap.ExtBut s.heap.objs.size s.heap h₂ := fun b o hb e => hk b o hb (hs₁.extBut b o hb (Heap.get?_push_of_some _ e))
  refine wpAny_bind (wpAny_newObj_type ?_ (by show ((items.toList.drop i).take (items.size + 1 - n)).toArray.size ≤ sizeLine; rw [List.size_toArray, List.length_take, hrl]; omega))
  exact wpAny_pure (h h₂ tk fun b o e => he b o (Nat.ne_of_lt (Heap.lt_size e)) e)
end
section
variable {X : Cx} {pos : Pos}
def gStarT (K : PySem.W.Frag) (n i : Nat) (t : TGs) : TG := fun v σ H Q => ∃ a xs, v = .ref a ∧ SqT K H a xs ∧ n ≤ xs.length + 1 ∧
  ∀ p, H p = none → t (xs.take i ++ [.ref p] ++ (xs.drop i).drop (xs.length + 1 - n)) σ (upd H p (.lst ((xs.drop i).take (xs.length + 1 - n)))) Q
theorem pg_starT {es : List Expr} {k : Nat} {t : TGs} {n i : Nat} (hc : X.calm = true) (h : PGs X es t) (hi : i < n)
    (hn : (assignEach es X.env).length = n := by rfl) (hst : (assignEach es X.env).findIdx? (·.1) = some i := by rfl) : PG X (.Tuple es k pos) (gStarT X.K n i t) := by
  refine ⟨fun pins s σ H v u Q I r hw => ?_⟩
  obtain ⟨a, xs, e1, hq, hl, hw⟩ := hw
  subst e1
  cases r
  obtain ⟨its, rv, ht, hz⟩ := I.tuple hq
  have hlen := rv.length
  rw [PyProof.Rows.assign_Tuple]
  refine wpAny_bind (wpAny_standAt ?_)
  unfold unpack
  rw [hn, hst]
  have hsz : its.toArray.size = xs.length := by rw [List.size_toArray]; omega
  refine wpAny_bind (wpAny_holding (unpack_starT ht (I.ok.hd hc) hi (by omega) (by omega) fun h₂ tk hk => ?_))
  have I1 : Inv X pins σ H { s with heap := h₂, toks := tk } := I.kept (t' := tk) hk
  have hf : H h₂.objs.size = none := I1.hok.fresh (Nat.le_refl _)
  have I2 : Inv X pins σ (upd H h₂.objs.size (.lst ((xs.drop i).take (xs.length + 1 - n)))) { s with heap := h₂.push { cls := .type "list", data := .seq ((its.drop i).take (xs.length + 1 - n)).toArray }, toks := tk } :=
    I1.laid (t' := tk) (fun b o e => Heap.get?_push_of_some _ e) (Nat.le_refl _) ⟨by rw [List.length_take, List.length_drop]; omega, _, 0, (rv.drop i).take _, Heap.get?_push_size _ rfl⟩
  rw [hsz]
  have q2 := hw h₂.objs.size hf
  have rr : RelV (.ref h₂.objs.size) (Value.ref h₂.objs.size) := rfl
  exact h.run pins _ σ _ _ _ Q I2 (((rv.take i).append (.cons rr .nil)).append ((rv.drop i).drop _)) q2
theorem pgs_starN {e : Expr} {es : List Expr} {t : TG} {u : TGs} {p : Pos} (h1 : PG X e t) (h2 : PGs X es u) : PGs X (.Starred e p :: es) (gCons t u) := by
  refine ⟨fun pins s σ H vs us Q I r h => ?_⟩
  obtain ⟨v, vr, e1, h⟩ := h
  subst e1
  cases r with
  | cons r rr =>
    show wpAny _ _ (assignInOrder (assign e X.env :: (assignEach es X.env).map (·.2)) _) _ _ _
    refine PyProof.Rows.assignInOrder_cons (thn (h1.run pins s σ H _ _ _ I r h) fun _ s1 ⟨σ1, H1, I1, q1⟩ => ?_)
    exact h2.run pins s1 σ1 H1 _ _ Q I1 rr q1
end
section
variable {τ : Type} {J : Ifc τ} {δ : Env} {s : τ} {te : TE} {us : TS} {Po : Post τ} {K : PySem.W.Frag}
/-- head, *parts = t -/
theorem rn_star2 {i j : Nat} {P : D → τ → Prop} (h : Ev J te δ s P) (hP : ∀ d s', P d s' → ∃ x xs, d = .tup (x :: xs) ∧ Po.nx ((δ.set i (some x)).set j (some (.lst xs))) s') :
    Rn J (tAsg te (gStarT K 2 1 (gCons (gName i) (gCons (gName j) gNil)))) δ s Po := fun En σ H E inv q1 q2 q3 q4 => h σ H E inv _ fun v d s' H' k i' is p => by
  obtain ⟨x, xs, rfl, pp⟩ := hP d s' p
  cases is with
  | @tup a vs _ h1 n1 a1 =>
    cases a1 with
    | @cons v vr _ _ iv ir =>
      refine ⟨a, v :: vr, rfl, SqT.of h1, by simp, fun p' hp => ?_⟩
      have e1 : (v :: vr).take 1 ++ [V.ref p'] ++ ((v :: vr).drop 1).drop ((v :: vr).length + 1 - 2) = [v, .ref p'] := by simp
      have e2 : ((v :: vr).drop 1).take ((v :: vr).length + 1 - 2) = vr := by simp
      rw [e1, e2]
      have ok := J.ok s' H' i'
      refine ⟨v, _, rfl, _, _, rfl, rfl, q1 _ _ s' _ (k.trans (Kp.same (same_new hp))) (J.stab s' H' _ i' (same_new hp)) ?_ pp⟩
      exact (((E.kp k).same (same_new hp)).set i (iv.same (same_new hp))).set j (Is.newLst ok hp ir)
theorem rn_star2P {i j : Nat} {x : D} {xs : List D} (h : EvP te δ (.tup (x :: xs))) (k : Rn J us ((δ.set i (some x)).set j (some (.lst xs))) s Po) :
    Rn J (tSeq (tAsg te (gStarT K 2 1 (gCons (gName i) (gCons (gName j) gNil)))) us) δ s Po :=
  rn_seq (M := fun δ' s' => δ' = (δ.set i (some x)).set j (some (.lst xs)) ∧ s' = s) (rn_star2 h.ev fun d s' ⟨e1, e2⟩ => ⟨x, xs, e1, rfl, e2⟩) fun _ _ ⟨e1, e2⟩ => by subst e1; subst e2; exact k
/-- a, b = x, y -/
theorem rn_par {i j : Nat} {ta : TA} {A : List D → τ → Prop} (h : Ea J ta δ s A) (hA : ∀ ds s', A ds s' → ∃ x y, ds = [x, y] ∧ Po.nx ((δ.set i (some x)).set j (some y)) s') : Rn J (tPar i j ta) δ s Po := fun En σ H E inv q1 q2 q3 q4 => h σ H E inv _ fun vs ds s' H' k i' is p => by
  obtain ⟨x, y, rfl, pp⟩ := hA ds s' p
  cases is with
  | cons h1 t1 =>
    cases t1 with
    | cons h2 t2 =>
      cases t2
      exact ⟨_, _, rfl, q1 _ _ s' H' k i' (((E.kp k).set i h1).set j h2) pp⟩
/-- a, b = t -/
theorem rn_two {i j : Nat} {P : D → τ → Prop} (h : Ev J te δ s P) (hP : ∀ d s', P d s' → ∃ x y, d = .tup [x, y] ∧ Po.nx ((δ.set i (some x)).set j (some y)) s') :
    Rn J (tAsg te (gTup K 2 (gCons (gName i) (gCons (gName j) gNil)))) δ s Po := fun En σ H E inv q1 q2 q3 q4 => h σ H E inv _ fun v d s' H' k i' is p => by
  obtain ⟨x, y, rfl, pp⟩ := hP d s' p
  cases is with
  | @tup a vs _ h1 n1 a1 =>
    cases a1 with
    | cons i1 t1 =>
      cases t1 with
      | cons i2 t2 =>
        cases t2
        exact ⟨a, _, rfl, SqT.of h1, rfl, _, _, rfl, _, _, rfl, rfl, q1 _ _ s' H' k i' (((E.kp k).set i i1).set j i2) pp⟩
end
end DL

set_option Elab.async false
set_option linter.all false
set_option maxRecDepth 100000
set_option maxHeartbeats 4000000
namespace DL
open PySem L2
variable [Wd]

/-! ### the draws: a list [cells, at, seed] at a, its cells at c -/
def Drw (a c : Addr) (H : Hp) : Prop := ∃ (ns : List Int) (at' seed : Int), H a = some (.lst [.ref c, .int at', .int seed]) ∧ H c = some (.lst (ns.map V.int)) ∧ a ≠ c ∧ ns ≠ [] ∧ ns.length ≤ 63 ∧ (∀ n ∈ ns, 0 ≤ n) ∧ 0 ≤ at' ∧ 0 ≤ seed ∧ seed < 2147483647
/-- all but the draws stands as it stood -/
def KpD (a c : Addr) (H H' : Hp) : Prop := ∀ x o, x ≠ a → x ≠ c → H x = some o → H' x = some o
theorem KpD.refl {a c : Addr} {H : Hp} : KpD a c H H := fun _ _ _ _ h => h
theorem KpD.trans {a c : Addr} {H H1 H2 : Hp} (h : KpD a c H H1) (k : KpD a c H1 H2) : KpD a c H H2 := fun x o h1 h2 h3 => k x o h1 h2 (h x o h1 h2 h3)
theorem KpD.same {a c : Addr} {H H1 : Hp} (h : Same H H1) : KpD a c H H1 := fun x o _ _ h3 => h x o h3
theorem Drw.same {a c : Addr} {H H' : Hp} (h : Drw a c H) (e : Same H H') : Drw a c H' := by
  obtain ⟨ns, at', seed, h1, h2, r⟩ := h
  exact ⟨ns, at', seed, e _ _ h1, e _ _ h2, r⟩
structure HasDraw {τ : Type} (J : Ifc τ) (a c : Addr) : Prop where
  oa : ∀ s, J.own s a
  oc : ∀ s, J.own s c
  drw : ∀ s H, J.inv s H → Drw a c H
  upd : ∀ s H H', J.inv s H → KpD a c H H' → Drw a c H' → J.inv s H'
theorem HasDraw.plus {τ : Type} {J : Ifc τ} {a c Dl : Addr} {s : τ} (h : HasDraw J a c) (n : ¬ J.own s Dl) : HasDraw (J.plus Dl) a c := by
  have na : a ≠ Dl := fun e => n (e ▸ h.oa s)
  have nc : c ≠ Dl := fun e => n (e ▸ h.oc s)
  refine ⟨fun s' => .inl (h.oa s'.1), fun s' => .inl (h.oc s'.1), fun s' H i => (h.drw s'.1 _ i.1).same del_sub, fun s' H H' i k d => ⟨h.upd s'.1 _ _ i.1 (fun x o hx hc hh => ?_) ?_, k _ _ (Ne.symm na) (Ne.symm nc) i.2⟩⟩
  · by_cases e : x = Dl
    · subst e; rw [del_same] at hh; cases hh
    · rw [del_ne e] at hh ⊢; exact k x o hx hc hh
  · obtain ⟨ns, at', seed, h1, h2, r⟩ := d
    exact ⟨ns, at', seed, by rw [del_ne na]; exact h1, by rw [del_ne nc]; exact h2, r⟩
/-- with draws: whatever else is owned -/
def EvD (a : Addr) (t : TE) (δ : Env) (P : D → Prop) : Prop := ∀ (τ : Type) (J : Ifc τ) (c : Addr) (s : τ), HasDraw J a c → Ev J t δ s (fun d s' => s' = s ∧ P d)
def EtD (a : Addr) (t : TT) (δ : Env) (P : Bool → Prop) : Prop := ∀ (τ : Type) (J : Ifc τ) (c : Addr) (s : τ), HasDraw J a c → Et J t δ s (fun d s' => s' = s ∧ P d)
def EaD (a : Addr) (t : TA) (δ : Env) (P : List D → Prop) : Prop := ∀ (τ : Type) (J : Ifc τ) (c : Addr) (s : τ), HasDraw J a c → Ea J t δ s (fun d s' => s' = s ∧ P d)
def ItD (a : Addr) (t : TI) (δ : Env) (P : List D → Prop) : Prop := ∀ (τ : Type) (J : Ifc τ) (c : Addr) (s : τ), HasDraw J a c → Io J t δ s (fun d s' => s' = s ∧ P d)
structure PostD where
  nx : Env → Prop := fun _ => False
  rt : D → Prop := fun _ => False
  bk : Env → Prop := fun _ => False
  ct : Env → Prop := fun _ => False
def PostD.at {τ : Type} (Po : PostD) (s : τ) : Post τ := { nx := fun δ s' => s' = s ∧ Po.nx δ, rt := fun d s' => s' = s ∧ Po.rt d, bk := fun δ s' => s' = s ∧ Po.bk δ, ct := fun δ s' => s' = s ∧ Po.ct δ }
def RnD (a : Addr) (t : TS) (δ : Env) (Po : PostD) : Prop := ∀ (τ : Type) (J : Ifc τ) (c : Addr) (s : τ), HasDraw J a c → Rn J t δ s (Po.at s)
section
variable {a : Addr} {δ : Env} {ta tb te : TE} {t u : TT} {P R : D → Prop} {d : D} {ts us ws : TS} {Po : PostD}
theorem EvP.toD (h : EvP te δ d) (k : P d) : EvD a te δ P := fun τ J c s hd => ev_p h ⟨rfl, k⟩
theorem EvD.imp (h : EvD a te δ P) (k : ∀ d, P d → R d) : EvD a te δ R := fun τ J c s hd => (h τ J c s hd).imp fun d s' ⟨e, p⟩ => ⟨e, k d p⟩
theorem EtP.toD {b : Bool} {T : Bool → Prop} (h : EtP t δ b) (k : T b) : EtD a t δ T := fun τ J c s hd => h.et ⟨rfl, k⟩
theorem EaP.toD {ta : TA} {ds : List D} {A : List D → Prop} (h : EaP ta δ ds) (k : A ds) : EaD a ta δ A := fun τ J c s hd => h.ea ⟨rfl, k⟩
theorem ItP.toD {wi : TI} {xs : List D} {A : List D → Prop} (h : ItP wi δ xs) (k : A xs) : ItD a wi δ A := fun τ J c s hd => h.io ⟨rfl, k⟩
theorem d_op {r : R2} {P1 : D → Prop} {P2 : D → D → Prop} (ha : EvD a ta δ P1) (hb : ∀ d, P1 d → EvD a tb δ (P2 d)) (hr : ∀ d e, P2 d e → ∃ z, RvP r d e z ∧ P z) : EvD a (tOp r ta tb) δ P := fun τ J c s hd =>
  ev_op (ha τ J c s hd) (P2 := fun d e s' => s' = s ∧ P2 d e) (fun d s1 ⟨e, p⟩ => by subst e; exact hb d p τ J c _ hd) fun d e s2 ⟨e1, p⟩ => by
    obtain ⟨z, h1, h2⟩ := hr d e p
    exact ⟨z, h1, e1, h2⟩
theorem dt_test {T : Bool → Prop} (h : EvD a te δ (fun d => ∃ b, d = .bl b ∧ T b)) : EtD a (tTest te) δ T := fun τ J c s hd => et_test ((h τ J c s hd).imp fun d s' ⟨e, b, h1, h2⟩ => ⟨b, h1, e, h2⟩)
theorem dt_B {T : Bool → Prop} (h : EvD a te δ (fun d => ∃ b, d = .bl b ∧ T b)) : EtD a (tB te) δ T := fun τ J c s hd => et_B ((h τ J c s hd).imp fun d s' ⟨e, b, h1, h2⟩ => ⟨b, h1, e, h2⟩)
theorem dt_and {T T1 : Bool → Prop} (h1 : EtD a t δ T1) (h2 : T1 true → EtD a u δ T) (h3 : T1 false → T false) : EtD a (tAnd t u) δ T := fun τ J c s hd =>
  et_and (h1 τ J c s hd) (fun s1 ⟨e, p⟩ => by subst e; exact h2 p τ J c _ hd) fun s1 ⟨e, p⟩ => ⟨e, h3 p⟩
theorem dt_or {T T1 : Bool → Prop} (h1 : EtD a t δ T1) (h2 : T1 false → EtD a u δ T) (h3 : T1 true → T true) : EtD a (tOr t u) δ T := fun τ J c s hd =>
  et_or (h1 τ J c s hd) (fun s1 ⟨e, p⟩ => by subst e; exact h2 p τ J c _ hd) fun s1 ⟨e, p⟩ => ⟨e, h3 p⟩
theorem dt_not {T : Bool → Prop} (h : EtD a t δ (fun b => T (!b))) : EtD a (tNot t) δ T := fun τ J c s hd => et_not (h τ J c s hd)
theorem d_and {T1 : Bool → Prop} (h1 : EvD a ta δ (fun d => ∃ b, d = .bl b ∧ T1 b)) (h2 : T1 true → EvD a tb δ P) (h3 : T1 false → P (.bl false)) : EvD a (tAndV ta tb) δ P := fun τ J c s hd =>
  ev_and (T1 := fun b s' => s' = s ∧ T1 b) ((h1 τ J c s hd).imp fun d s' ⟨e, b, x1, x2⟩ => ⟨b, x1, e, x2⟩) (fun s1 ⟨e, p⟩ => by subst e; exact h2 p τ J c _ hd) fun s1 ⟨e, p⟩ => ⟨e, h3 p⟩
theorem d_if {T : Bool → Prop} (h : EtD a t δ T) (h1 : T true → EvD a ta δ P) (h2 : T false → EvD a tb δ P) : EvD a (tIf t ta tb) δ P := fun τ J c s hd =>
  ev_if (h τ J c s hd) (fun s1 ⟨e, p⟩ => by subst e; exact h1 p τ J c _ hd) (fun s1 ⟨e, p⟩ => by subst e; exact h2 p τ J c _ hd)
theorem da_nil {A : List D → Prop} (k : A []) : EaD a tNil δ A := fun τ J c s hd => ea_nil ⟨rfl, k⟩
theorem da_cons {tr : TA} {A : List D → Prop} {P1 : D → Prop} (h : EvD a ta δ P1) (hr : ∀ d, P1 d → EaD a tr δ (fun ds => A (d :: ds))) : EaD a (tCons ta tr) δ A := fun τ J c s hd =>
  ea_cons (h τ J c s hd) fun d s1 ⟨e, p⟩ => by subst e; exact hr d p τ J c _ hd
theorem d_tup {ta : TA} (h : EaD a ta δ (fun ds => ds.length ≤ sizeLine ∧ P (.tup ds))) : EvD a (tTup ta) δ P := fun τ J c s hd =>
  ev_tup fun σ H E i Q q => h τ J c s hd σ H E i Q fun vs ds s' H' k i' is ⟨e, h1, h2⟩ => q vs ds s' H' k i' is ⟨h1, e, h2⟩
theorem d_lst {ta : TA} (h : EaD a ta δ (fun ds => ds.length ≤ sizeLine ∧ P (.lst ds))) : EvD a (tLst ta) δ P := fun τ J c s hd =>
  ev_lst fun σ H E i Q q => h τ J c s hd σ H E i Q fun vs ds s' H' k i' is ⟨e, h1, h2⟩ => q vs ds s' H' k i' is ⟨h1, e, h2⟩
theorem d_cb {r : List V → Hp → VK → Prop} {ta : TA} (h : EaD a ta δ (fun ds => ∃ z, RcP r ds z ∧ P z)) : EvD a (tCB r ta) δ P := fun τ J c s hd =>
  ev_cb fun σ H E i Q q => h τ J c s hd σ H E i Q fun vs ds s' H' k i' is ⟨e, z, h1, h2⟩ => q vs ds s' H' k i' is ⟨z, h1, e, h2⟩
theorem d_then {k : V → Hp → VK → Prop} (h : EvD a ta δ (fun d => ∃ z, RuP k d z ∧ P z)) : EvD a (tThen ta k) δ P := fun τ J c s hd =>
  ev_then ((h τ J c s hd).imp fun d s' ⟨e, z, h1, h2⟩ => ⟨z, h1, e, h2⟩)
theorem d_slice {r : V → Option Int → Option Int → Hp → VK → Prop} {tl th : TO} {lo hi : Option Int} (h : EvD a te δ (fun d => ∃ z, RsP r d lo hi z ∧ P z)) (hl : EoP tl δ lo) (hh : EoP th δ hi) : EvD a (tSl r te tl th) δ P := fun τ J c s hd =>
  ev_slice ((h τ J c s hd).imp fun d s' ⟨e, z, h1, h2⟩ => ⟨z, h1, e, h2⟩) hl hh
theorem itd_rng {ta : TA} {N : Int → Prop} (h : EaD a ta δ (fun ds => ∃ n, ds = [.int n] ∧ -(2 ^ 62) ≤ n ∧ n < 2 ^ 62 ∧ N n)) : ItD a (iRng1 ta) δ (fun xs => ∃ n : Int, xs = rng n.toNat ∧ N n) := fun τ J c s hd σ H E i R q =>
  h τ J c s hd σ H E i _ fun vs ds s' H' k i' is ⟨e, n, e1, h1, h2, hN⟩ => by
    subst e1
    cases is with
    | cons i0 t0 =>
      cases t0
      cases i0
      refine ⟨n, rfl, h1, h2, q _ (rng n.toNat) s' H' k i' ⟨fun i H hi g => ?_, fun H g => ?_, fun i H v H' hi g y => ?_⟩ ⟨e, n, rfl, hN⟩⟩
      · rw [rng_length] at hi
        exact hi
      · show n.toNat ≤ (rng n.toNat).length
        rw [rng_length]
        exact Nat.le_refl _
      · obtain ⟨e, hv⟩ := y
        subst hv
        rw [rng_length] at hi
        refine ⟨e, .int (0 + (i : Int)), ?_, .int _⟩
        unfold rng
        rw [List.getElem?_map, List.getElem?_range hi, Int.zero_add]
        rfl

/-! ### statements -/
theorem r_next (k : Po.nx δ) : RnD a tNext δ Po := fun τ J c s hd => rn_next ⟨rfl, k⟩
theorem r_nextSeq (h : RnD a us δ Po) : RnD a (tSeq tNext us) δ Po := fun τ J c s hd => rn_nextSeq (h τ J c s hd)
theorem r_seq {M : Env → Prop} (h : RnD a ts δ { Po with nx := M }) (k : ∀ δ', M δ' → RnD a us δ' Po) : RnD a (tSeq ts us) δ Po := fun τ J c s hd =>
  rn_seq (M := fun δ' s' => s' = s ∧ M δ') (h τ J c s hd) fun δ' s' ⟨e, m⟩ => by subst e; exact k δ' m τ J c _ hd
theorem r_ret (h : EvD a te δ Po.rt) : RnD a (tRet te) δ Po := fun τ J c s hd => rn_ret (h τ J c s hd)
theorem r_retSeq (h : EvD a te δ Po.rt) : RnD a (tSeq (tRet te) us) δ Po := fun τ J c s hd => rn_retSeq (h τ J c s hd)
theorem r_setSeq {i : Nat} (h : EvD a te δ P) (k : ∀ d, P d → RnD a us (δ.set i (some d)) Po) : RnD a (tSeq (tAsg te (gName i)) us) δ Po := fun τ J c s hd =>
  rn_setSeq (h τ J c s hd) fun d s' ⟨e, p⟩ => by subst e; exact k d p τ J c _ hd
theorem r_set {i : Nat} (h : EvD a te δ P) (k : ∀ d, P d → Po.nx (δ.set i (some d))) : RnD a (tAsg te (gName i)) δ Po := fun τ J c s hd =>
  rn_set (h τ J c s hd) fun d s' ⟨e, p⟩ => ⟨e, k d p⟩
theorem r_if {T : Bool → Prop} (h : EtD a t δ T) (k1 : T true → RnD a ts δ Po) (k2 : T false → RnD a us δ Po) : RnD a (tIfS t ts us) δ Po := fun τ J c s hd =>
  rn_if (h τ J c s hd) (fun s1 ⟨e, p⟩ => by subst e; exact k1 p τ J c _ hd) (fun s1 ⟨e, p⟩ => by subst e; exact k2 p τ J c _ hd)
theorem r_ifSeq {T : Bool → Prop} (h : EtD a t δ T) (k1 : T true → RnD a (tSeq ts ws) δ Po) (k2 : T false → RnD a (tSeq us ws) δ Po) : RnD a (tSeq (tIfS t ts us) ws) δ Po := fun τ J c s hd =>
  rn_ifSeq (h τ J c s hd) (fun s1 ⟨e, p⟩ => by subst e; exact k1 p τ J c _ hd) (fun s1 ⟨e, p⟩ => by subst e; exact k2 p τ J c _ hd)
theorem r_par {i j : Nat} {ta : TA} {A : List D → Prop} (h : EaD a ta δ A) (hA : ∀ ds, A ds → ∃ x y, ds = [x, y] ∧ RnD a us ((δ.set i (some x)).set j (some y)) Po) : RnD a (tSeq (tPar i j ta) us) δ Po := fun τ J c s hd =>
  rn_seq (M := fun δ' s' => s' = s ∧ ∃ x y, δ' = (δ.set i (some x)).set j (some y) ∧ A [x, y]) (rn_par (h τ J c s hd) fun ds s' ⟨e, p⟩ => by
    obtain ⟨x, y, h1, h2⟩ := hA ds p
    subst h1
    exact ⟨x, y, rfl, e, x, y, rfl, p⟩) fun δ' s' ⟨e, x, y, h1, p⟩ => by
      subst e
      obtain ⟨x', y', h3, h4⟩ := hA _ p
      cases h3
      rw [h1]
      exact h4 τ J c _ hd
theorem r_for {wi : TI} {j : Nat} {A : List D → Prop} (hi : ItD a wi δ A) (Pv : Nat → Env → Prop) (h0 : Pv 0 δ)
    (hs : ∀ (xs : List D) (i : Nat) (x : D) (δ' : Env), A xs → xs[i]? = some x → Pv i δ' → RnD a ts (δ'.set j (some x)) { Po with nx := Pv (i + 1), ct := Pv (i + 1), bk := Po.nx }) (hd : ∀ (xs : List D) (δ' : Env), A xs → Pv xs.length δ' → Po.nx δ') : RnD a (tFor wi (gName j) ts) δ Po := fun τ J c s hD =>
  rn_for (hi τ J c s hD) (fun xs i δ' s' => s' = s ∧ A xs ∧ Pv i δ') (fun xs s' ⟨e, p⟩ => ⟨e, p, h0⟩)
    (fun xs i x δ' s' hx ⟨e, p, pv⟩ => by
      subst e
      exact (hs xs i x δ' p hx pv τ J c _ hD).imp (fun _ _ ⟨e, q⟩ => ⟨e, p, q⟩) (fun _ _ q => q) (fun _ _ q => q) (fun _ _ ⟨e, q⟩ => ⟨e, p, q⟩))
    (fun xs δ' s' ⟨e, p, pv⟩ => ⟨e, hd xs δ' p pv⟩)
/-- a comprehension that draws: what holds of the list so far -/
theorem d_lc {wi : TI} {j : Nat} {vs : List Nat} {A : List D → Prop} (hi : ItD a wi δ A) (hj : j ∈ vs) (hz : ∀ xs, A xs → xs.length < sizeLine) (Pv : Nat → List D → Prop) (h0 : Pv 0 [])
    (hs : ∀ (xs : List D) (i : Nat) (x : D) (ds : List D), A xs → xs[i]? = some x → Pv i ds → EvD a te ((wipeD δ vs).set j (some x)) (fun d => Pv (i + 1) (ds ++ [d])))
    (hd : ∀ (xs ds : List D), A xs → Pv xs.length ds → P (.lst ds)) : EvD a (tLc wi (gName j) tYes te vs) δ P := fun τ J c s hD =>
  ev_lc (hi τ J c s hD) hj (fun xs i ds s' => s' = s ∧ A xs ∧ Pv i ds) (fun xs s' ⟨e, p⟩ => ⟨e, p, h0⟩) (fun _ => true) (fun _ _ _ _ _ _ => pt_yes) (fun xs s' ⟨_, p⟩ => hz xs p)
    (fun xs s0 Dl i x ds s1 acc ⟨_, p⟩ n hx _ ⟨e, _, pv⟩ => by
      subst e
      exact (hs xs i x ds p hx pv (τ × List V) (J.plus Dl) c (_, acc) (hD.plus n)).imp fun d s2 ⟨e, q⟩ => by subst e; exact ⟨rfl, rfl, p, q⟩)
    (fun xs i x ds s1 _ h _ => by cases h) (fun xs ds s' ⟨e, p, pv⟩ => ⟨e, hd xs ds p pv⟩)

/-! ### promises of defs that draw (the draws their first argument) -/
def spD (R : List D → (D → Prop) → Prop) : Sp := fun vs H Q _ => ∃ (own : Own) (a c : Addr) (ds : List D) (P : D → Prop), OwnOk own H ∧ own a ∧ own c ∧ Drw a c H ∧ IsAll own H vs (.ref a :: ds) ∧ R ds P ∧
  ∀ v d H', KpD a c H H' → Drw a c H' → Is own H' v d → P d → Q v H'
theorem d_call {R : List D → (D → Prop) → Prop} {ta : TA} {E : XK} (h : EaD a ta δ (fun ds => ∃ es P', ds = .ref a :: es ∧ R es P' ∧ ∀ d, P' d → P d)) : EvD a (tCall (spD R) [] E ta) δ P := fun τ J c s hd σ H Ev inv Q q =>
  h τ J c s hd σ H Ev inv _ fun vs ds s' H' k i' is ⟨e, es, P', e1, hR, hp⟩ => by
    subst e1
    subst e
    refine ⟨J.own s', a, c, es, P', J.ok s' H' i', hd.oa s', hd.oc s', hd.drw s' H' i', by rw [List.append_nil]; exact is, hR, fun v d H'' kd dr is' pd => ?_⟩
    refine q v d s' H'' (k.trans fun x o hx nx => ⟨kd x o (fun e => nx (e ▸ hd.oa s')) (fun e => nx (e ▸ hd.oc s')) hx, nx⟩) (hd.upd s' H' H'' i' kd dr) is' ⟨rfl, hp d pd⟩
theorem d_callP {R : List D → (D → Prop) → Prop} {ta : TA} {E : XK} {es : List D} (h : EaP ta δ (.ref a :: es)) (hR : R es P) : EvD a (tCall (spD R) [] E ta) δ P := d_call (EaP.toD h ⟨es, P, rfl, hR, fun _ z => z⟩)
end
section
variable {P : Program} {w : World} {K : PySem.W.Frag} {mg : Str → Option Value} {base : Heap}
theorem okD {x qual : Str} {st : Stmt} {f : Addr} {fd : FuncData} {N ps : List Str} {k : Nat} {R : List D → (D → Prop) → Prop} (F : Fun K x qual st f fd) (S : FnScope N ps (defScope st)) (len : ∀ ds z, R ds z → ds.length + 1 = ps.length)
    (hbody : ∀ (cdv : Value) (A : Around) (outer : List PySem.Env) (s : Shared) (H : Hp) (E : XK), Room k (A.deeper (PyProof.Rows.envOfC qual (defScope st) s.heap.objs.size f cdv)) →
      ∃ t, PSs (cxOf CX0 P w K mg base N qual (defScope st) f cdv A outer s H E).nox (defBody st) t ∧ ∀ a ds P', R ds P' → RnD a t (startD N (.ref a :: ds)) { rt := P' }) : FnOk P w K mg base CX0 (k + 1) f fd ps (spD R) := by
  refine F.ok S (fun vs H Q E h => ?_) (fun cdv A outer s H vs Q E hr h => ?_)
  · obtain ⟨own, a, c, ds, z, _, _, _, _, ia, hR, _⟩ := h
    rw [ia.length, List.length_cons]
    exact len ds z hR
  · obtain ⟨own, a, c, ds, P', o, oa, oc, dr, ia, hR, q⟩ := h
    obtain ⟨t, hd, ht⟩ := hbody cdv A outer s H E hr
    refine ⟨t, hd, ?_⟩
    let J : Ifc Unit := ⟨fun _ => own, fun _ H' => OwnOk own H' ∧ Drw a c H' ∧ KpD a c H H', fun _ _ i => i.1, fun _ H1 H2 i e => ⟨i.1.same e, i.2.1.same e, i.2.2.trans (KpD.same e)⟩⟩
    have hD : HasDraw J a c := by
      refine ⟨fun _ => oa, fun _ => oc, fun _ _ i => i.2.1, fun _ H1 H2 i kd dr' => ⟨fun x hx e => ?_, dr', i.2.2.trans kd⟩⟩
      obtain ⟨ns, at', seed, h1, h2, _⟩ := dr'
      by_cases ea : x = a
      · subst ea; rw [h1] at e; cases e
      · by_cases ec : x = c
        · subst ec; rw [h2] at e; cases e
        · cases hx1 : H1 x with
          | none => exact i.1 x hx hx1
          | some u => rw [kd x u ea ec hx1] at e; cases e
    refine ht a ds P' hR Unit J c () hD _ _ H ?_ ⟨o, dr, KpD.refl⟩ (fun _ _ _ _ _ _ _ z => z.2.elim) (fun v d s' H' kp i is ⟨_, e⟩ => q v d H' i.2.2 i.2.1 is e) (fun _ _ _ _ _ _ _ z => z.2.elim) (fun _ _ _ _ _ _ _ z => z.2.elim)
    unfold L2.start startD
    rw [ia.length]
    exact EnvR.start ia _
end
end DL

set_option Elab.async false
set_option linter.all false
set_option maxRecDepth 100000
set_option maxHeartbeats 4000000
namespace DL
open PySem PySem.Spec PyProof.Rows in
theorem tuple_mul1 (l : Addr) (items : Array Value) (n : Nat) (dd : Option Addr) (sl : Array (Option Value)) (x : Int) (u : Tok) (c0 : (decide (x < -(2 ^ 63)) || decide (x ≥ 2 ^ 63)) = false) (c1 : (items.isEmpty || x == 1) = true) :
    Meets (Builtin.«tuple.__mul__» ⟨[.ref l, .int x u], []⟩) (fun _ R s => s.heap.get? l = some { cls := .type "tuple", dict := dd, data := .seq items n, slots := sl } ∧
      R (.ok (.ret (Value.ref l))) s) :=
  .of_wp fun prog w A R s h => by
    obtain ⟨hp, g, d, tk, os⟩ := s
    obtain ⟨hl, h⟩ := h
    have f1 := AutoSeq1.idx_int
    wp_walk using wpAny_loadPart' hl
    repeat (first
      | (refine wpAny_ite_false (decide_eq_false (by rw [c0]; exact Bool.false_ne_true)) ?_; wp_walk using wpAny_loadPart' hl)
      | (refine wpAny_ite_true (decide_eq_true (by rw [c1])) ?_; wp_walk using wpAny_loadPart' hl))
    exact ⟨_, rfl, h⟩
open PySem L2
variable [Wd]

def rRepT1 (K : PySem.W.Frag) : R2 := fun x y H Q => ∃ l xs, x = .ref l ∧ y = .int 1 ∧ SqT K H l xs ∧ Q (.ref l) H
open PySem.Spec PyProof.Rows in
theorem op_repT1 {X : Cx} : OpR X (binaryOp .Mult) (rRepT1 X.K) := by
  intro pins s σ H x y v u Q I rx ry h
  obtain ⟨l, xs, rfl, rfl, hT, q⟩ := h
  cases rx
  obtain ⟨t, rfl⟩ := ry
  obtain ⟨its, r, ⟨⟨cls, dd, data, sl⟩, ho, hc, n, hd⟩, hs⟩ := I.tuple hT
  simp only at hc hd
  subst hc hd
  refine wpAny_binaryOp_repeat_ref (T := "tuple") (U := "int") (by decide) ⟨_, ho, rfl⟩ (fun s' => typeIs_int s' 1 t) noFill_tuple_mul F.fills_int_mul F.slot_int_rmul repeat_tuple F.slot_int_index.lookup
    (call_meets F.slot_int_rmul (typeIs_int s 1 t) F.entry_int_rmul (F.args_int_rmul_2 _ _) (int_rmul_tuple 1 t l its.toArray n dd sl)
      ⟨ho, rfl, ⟨_, ho, rfl⟩, call_meets F.slot_tuple_mul ⟨_, ho, rfl⟩ F.entry_tuple_mul (F.args_tuple_mul_2 _ _) (tuple_mul1 l its.toArray n dd sl 1 t (by decide) (by simp)) ⟨ho, ?_⟩⟩)
  exact ⟨.ref l, H, I, rfl, q⟩
def rMulA (K : PySem.W.Frag) : R2 := fun x y H Q => (rI CMul fun i j => .int (i * j)) x y H Q ∨ (rRep x y H Q ∨ (rRepT K x y H Q ∨ rRepT1 K x y H Q))
theorem op_mulA {X : Cx} : OpR X (binaryOp .Mult) (rMulA X.K) := op_mul.or (op_rep.or (op_repT.or op_repT1))
section
variable {K : PySem.W.Frag} {δ : Env} {d e z : D} {ds xs : List D}
theorem mul_int {i j : Int} (h : CMul i j) : RvP (rMulA K) (.int i) (.int j) (.int (i * j)) := rv_inl (rv_intC h)
theorem rep_lst {k : Int} (h1 : -(2 ^ 63) ≤ k) (h2 : k < 2 ^ 63) (h3 : xs.length * k.toNat ≤ sizeLine) : RvP (rMulA K) (.lst xs) (.int k) (.lst (List.replicate k.toNat xs).flatten) := rv_inr (rv_inl fun own H x y o hx hy Q q => by
  cases hy
  cases hx with
  | lst g1 n1 a1 => exact ⟨_, k, _, rfl, rfl, g1, h1, h2, by rw [a1.length]; exact h3, fun p hp => q _ _ (same_new hp) (Is.newLst o hp (a1.rep k.toNat))⟩)
theorem rep_tup {k : Int} (h0 : xs ≠ []) (h1 : 1 ≤ k) (h2 : k ≤ 1000) (h3 : xs.length ≤ 1000) : RvP (rMulA K) (.tup xs) (.int k) (.tup (List.replicate k.toNat xs).flatten) := rv_inr (rv_inr fun own H x y o hx hy Q q => by
  cases hy
  cases hx with
  | tup g1 n1 a1 =>
    have hx' := Is.tup g1 n1 a1
    by_cases hk : k = 1
    · subst hk
      refine .inr ⟨_, _, rfl, rfl, SqT.of g1, ?_⟩
      have e1 : (List.replicate (1 : Int).toNat xs).flatten = xs := by simp
      rw [e1] at q
      exact q _ H (Same.refl H) hx'
    · refine .inl ⟨_, k, _, rfl, rfl, SqT.of g1, fun e' => ?_, by omega, h2, by rw [a1.length]; exact h3, fun p hp => q _ _ (same_new hp) (Is.newTup o hp (a1.rep k.toNat))⟩
      subst e'
      cases a1
      exact h0 rfl)
/-- abs(i) -/
def rAbs : List V → Hp → VK → Prop := fun xs H Q => ∃ i, xs = [.int i] ∧ Q (.int (if i < 0 then -i else i)) H
theorem call_absA {X : Cx} : CallR X (.builtin "abs") rAbs := call_abs
theorem abs_int {i : Int} : RcP rAbs [.int i] (.int (if i < 0 then -i else i)) := fun own H vs o hx Q q => by
  cases hx with
  | cons h t =>
    cases t
    cases h
    exact ⟨i, rfl, q _ H (Same.refl H) (.int _)⟩
/-- int(x) of an int or a bool -/
def rInt1 : List V → Hp → VK → Prop := fun xs H Q => (∃ i, xs = [.int i] ∧ Q (.int i) H) ∨ ∃ k, xs = [.bl k] ∧ Q (.int (if k then 1 else 0)) H
theorem call_intA {X : Cx} : CallR X (.type "int") rInt1 := call_int1
theorem int_bl {k : Bool} : RcP rInt1 [.bl k] (.int (if k then 1 else 0)) := fun own H vs o hx Q q => by
  cases hx with
  | cons h t =>
    cases t
    cases h
    exact .inr ⟨k, rfl, q _ H (Same.refl H) (.int _)⟩
/-- list(x) of a list or a tuple -/
def rListA (K : PySem.W.Frag) : List V → Hp → VK → Prop := fun xs H Q => ∃ p ys, xs = [.ref p] ∧ (SqL K H p ys ∨ SqT K H p ys) ∧ ∀ l, H l = none → Q (.ref l) (upd H l (.lst ys))
theorem call_listA {X : Cx} : CallR X (.type "list") (rListA X.K) := call_list_of
theorem list_tup : RcP (rListA K) [.tup xs] (.lst xs) := fun own H vs o hx Q q => by
  cases hx with
  | cons h t =>
    cases t
    cases h with
    | tup g1 n1 a1 => exact ⟨_, _, rfl, .inr (SqT.of g1), fun l hl => q _ _ (same_new hl) (Is.newLst o hl a1)⟩
theorem list_lst : RcP (rListA K) [.lst xs] (.lst xs) := fun own H vs o hx Q q => by
  cases hx with
  | cons h t =>
    cases t
    cases h with
    | lst g1 n1 a1 => exact ⟨_, _, rfl, .inl (SqL.of g1), fun l hl => q _ _ (same_new hl) (Is.newLst o hl a1)⟩
/-- tuple(x) -/
theorem tuple_lst : RuP (kTup K) (.lst xs) (.tup xs) := fun own H x o hx Q q => by
  cases hx with
  | lst g1 n1 a1 => exact .inl ⟨_, _, rfl, SqL.of g1, fun p hp => q _ _ (same_new hp) (Is.newTup o hp a1)⟩
theorem tuple_tup : RuP (kTup K) (.tup xs) (.tup xs) := fun own H x o hx Q q => by
  cases hx with
  | tup g1 n1 a1 => exact .inr ⟨_, _, rfl, SqT.of g1, q _ H (Same.refl H) (Is.tup g1 n1 a1)⟩
/-- a new dict is taken as data: it stands as it is from now on -/
def tFrz (t : TE) : TE := fun σ H Q => t σ H fun v H1 => ∃ a u, v = .ref a ∧ H1 a = some u ∧ Mut (some u) ∧ ∀ od, Q v (upd H1 a (.frz od u))
theorem pe_frz {X : Cx} {e : Expr} {t : TE} (h : PE X e t) : PE X e (tFrz t) :=
  ⟨fun pins s σ H Q I hh => thn (h.run pins s σ H _ I hh) fun v s1 ⟨x, H1, I1, r1, a, u, ex, hu, mu, q⟩ => by
    obtain ⟨od, I2⟩ := I1.lock hu mu
    exact ⟨x, _, I2, r1, q od⟩⟩
def tFrzS (t : TS) : TS := fun D σ H => ∃ a u, H a = some u ∧ Mut (some u) ∧ ∀ od, t D σ (upd H a (.frz od u))
theorem pss_frz {X : Cx} {b : List Stmt} {t : TS} (h : PSs X b t) : PSs X b (tFrzS t) :=
  ⟨fun pins s σ H D I hh => by
    obtain ⟨a, u, hu, mu, q⟩ := hh
    obtain ⟨od, I2⟩ := I.lock hu mu
    exact h.run pins s σ _ D I2 (q od)⟩
end
/-! ### constants of the module -/
section
variable {X : Cx} {x : Str} {pos : Pos}
theorem pe_gint {i : Int} (hg : Gl X x) (h : ∃ t, X.mg x = some (.int i t)) (hd : (x == ("__debug__" : Str)) = false := by decide) : PE X (.Name x pos) (tC (.int i)) := by
  obtain ⟨t, h⟩ := h
  exact pe_glob hg h ⟨_, rfl⟩ hd
theorem pe_gstr {z : Str} (hg : Gl X x) (h : ∃ t, X.mg x = some (.str z t)) (hd : (x == ("__debug__" : Str)) = false := by decide) : PE X (.Name x pos) (tC (.str z)) := by
  obtain ⟨t, h⟩ := h
  exact pe_glob hg h ⟨_, rfl⟩ hd
theorem pe_gty {n : String} (hg : Gl X x) (hm : X.mg x = none) (hv : bootBuiltins x = some (.type n)) (hn : x ≠ "__name__" := by decide) (hd : (x == ("__debug__" : Str)) = false := by decide) : PE X (.Name x pos) (tC (.ty n)) := pe_bltn hg hm hv rfl hn hd
end
end DL

set_option Elab.async false
set_option linter.all false
set_option maxRecDepth 100000
set_option maxHeartbeats 4000000
namespace DL
open PySem L2
variable [Wd]
/-- the def of the name x keeps sp -/
structure Cl (P : Program) (w : World) (K : PySem.W.Frag) (mg : Str → Option Value) (base : Heap) (k : Nat) (x : Str) (ps : List Str) (sp : Sp) : Prop where
  ex : ∃ f fd, FnOk P w K mg base CX0 k f fd ps sp ∧ mg x = some (.ref f) ∧ PySem.W.keepIn K (.ref f) = true ∧ Binds K fd ps []
structure ClN (P : Program) (w : World) (K : PySem.W.Frag) (mg : Str → Option Value) (base : Heap) (k : Nat) (x : Str) (ps : List Str) (n : Nat) (ks : List Str) (sp : Sp) : Prop where
  ex : ∃ f fd, FnOk P w K mg base CX0 k f fd ps sp ∧ mg x = some (.ref f) ∧ PySem.W.keepIn K (.ref f) = true ∧ KBn K fd ps n ks (fun us ws => us ++ ws) (fun vs zs => vs ++ zs)
section
variable {X : Cx} {k : Nat} {x : Str} {ps ks : List Str} {sp : Sp} {p pos : Pos} {e : Expr} {es : List Expr} {kws : List Keyword} {t tk : TA} {n : Nat}
theorem pe_cl (C : Cl X.prog X.w X.K X.mg X.base k x ps sp) (hr : Room k X.A) (hg : Gl X x) (ha : PA X (e :: es) t) (hd : (x == ("__debug__" : Str)) = false := by decide)
    (he : starEach (e :: es) X.env = (false, eval e X.env) :: starEach es X.env := by rfl) (hpl : (backTo pos (starEach es X.env)).any (·.1) = false := by rfl) : PE X (.Call (.Name x p) (e :: es) [] pos) (tCall sp [] E0 t) := by
  obtain ⟨f, fd, F, hm, hk, hb⟩ := C.ex
  exact pe_call F hr hg hm hk hb .nil pass0 ha hd he hpl
theorem pe_clN (C : ClN X.prog X.w X.K X.mg X.base k x ps n ks sp) (hr : Room k X.A) (hg : Gl X x) (ha : PA X (e :: es) t) (hkw : PK X kws tk) (hall : (backToKw pos (keywordEach kws X.env)).all (·.1.isSome) = true := by rfl) (hks : (backToKw pos (keywordEach kws X.env)).filterMap (·.1) = ks := by rfl)
    (hdb : (x == ("__debug__" : Str)) = false := by decide) (he : starEach (e :: es) X.env = (false, eval e X.env) :: starEach es X.env := by rfl)
    (hpl : ((backTo pos (starEach (e :: es) X.env)).any (·.1) || (backToKw pos (keywordEach kws X.env)).any (·.1.isNone)) = false := by rfl) :
    PE X (.Call (.Name x p) (e :: es) kws pos) (tCallN n ks.length sp (fun vs zs => vs ++ zs) E0 t tk) := by
  obtain ⟨f, fd, F, hm, hk, hb⟩ := C.ex
  exact pe_callN F hr hg hm hk hb pass0 ha hkw hall hks hdb he hpl
theorem pe_clN0 (C : ClN X.prog X.w X.K X.mg X.base k x ps 0 ks sp) (hr : Room k X.A) (hg : Gl X x) (hkw : PK X kws tk) (hall : (backToKw pos (keywordEach kws X.env)).all (·.1.isSome) = true := by rfl) (hks : (backToKw pos (keywordEach kws X.env)).filterMap (·.1) = ks := by rfl)
    (hdb : (x == ("__debug__" : Str)) = false := by decide)
    (hpl : ((backTo pos (starEach [] X.env)).any (·.1) || (backToKw pos (keywordEach kws X.env)).any (·.1.isNone)) = false := by rfl) :
    PE X (.Call (.Name x p) [] kws pos) (tCallN 0 ks.length sp (fun vs zs => vs ++ zs) E0 tNil tk) := by
  obtain ⟨f, fd, F, hm, hk, hb⟩ := C.ex
  exact pe_callN0 F hr hg hm hk hb pass0 hkw hall hks hdb hpl
variable {P : Program} {w : World} {K : PySem.W.Frag} {mg : Str → Option Value} {base : Heap} {j : Nat}
theorem Cl.mono (C : Cl P w K mg base j x ps sp) (h : j ≤ k) : Cl P w K mg base k x ps sp := by
  obtain ⟨f, fd, F, hm, hk, hb⟩ := C.ex
  exact ⟨f, fd, F.mono h, hm, hk, hb⟩
theorem ClN.mono (C : ClN P w K mg base j x ps n ks sp) (h : j ≤ k) : ClN P w K mg base k x ps n ks sp := by
  obtain ⟨f, fd, F, hm, hk, hb⟩ := C.ex
  exact ⟨f, fd, F.mono h, hm, hk, hb⟩
theorem Cl.imp {sp' : Sp} (C : Cl P w K mg base k x ps sp) (h : ∀ vs H Q E, sp' vs H Q E → sp vs H Q E) : Cl P w K mg base k x ps sp' := by
  obtain ⟨f, fd, F, hm, hk, hb⟩ := C.ex
  exact ⟨f, fd, F.imp h, hm, hk, hb⟩
end
end DL

set_option Elab.async false
set_option linter.all false
set_option maxRecDepth 100000
set_option maxHeartbeats 4000000
namespace DL
open PySem L2
variable [Wd]
/-! ### the laws' own draws: _law_take(draw, size), _law_begin(script) -/
def t_take (K : PySem.W.Frag) : TS :=
  (tSeq (tAsg (tOp (rIx K) (tVar 0) (tC (.int 0))) (gName 2)) (tSeq (tAsg (tOp (rI (fun _ j => 0 < j) fun i j => .int (i % j)) (tOp (rIx K) (tVar 0) (tC (.int 1))) (tCB (rLenA K) (tCons (tVar 2) tNil))) (gName 3)) (tSeq (tAsg (tOp (rIx K) (tVar 2) (tVar 3)) (gName 4)) (tSeq (tIfS (tTest (tOp (rI0 fun i j => .bl (decide (j ≤ i))) (tVar 4) (tOp (rI CPow fun i j => .int (i ^ j.toNat)) (tC (.int 10)) (tC (.int 18))))) (tSeq (tAsg (tOp (rI CDiv fun i j => .int (i / j)) (tVar 4) (tVar 1)) (gSub (tVar 2) (tVar 3) rSetL)) (tRet (tOp (rI (fun _ j => 0 < j) fun i j => .int (i % j)) (tVar 4) (tVar 1)))) tNext) (tSeq (tAsg (tOp (rAddA K) (tOp (rIx K) (tVar 0) (tC (.int 1))) (tC (.int 1))) (gSub (tVar 0) (tC (.int 1)) rSetL)) (tSeq (tAsg (tOp (rI (fun _ j => 0 < j) fun i j => .int (i % j)) (tOp (rAddA K) (tOp (rAddA K) (tOp (rMulA K) (tOp (rIx K) (tVar 0) (tC (.int 2))) (tC (.int 48271))) (tVar 4)) (tC (.int 12345))) (tC (.int 2147483647))) (gSub (tVar 0) (tC (.int 2)) rSetL)) (tRet (tOp (rI (fun _ j => 0 < j) fun i j => .int (i % j)) (tOp (rI CDiv fun i j => .int (i / j)) (tOp (rI (fun _ j => 0 < j) fun i j => .int (i % j)) (tOp (rMulA K) (tOp (rIx K) (tVar 0) (tC (.int 2))) (tOp (rIx K) (tVar 0) (tC (.int 2)))) (tC (.int 2147483629))) (tC (.int 16))) (tVar 1)))))))))
def Rtake (ds : List D) (P : D → Prop) : Prop := ∃ n : Int, ds = [.int n] ∧ 0 < n ∧ n < 1073741824 ∧ P = fun d => ∃ i, d = .int i ∧ 0 ≤ i ∧ i < n
theorem map_set_int (ns : List Int) (j : Nat) (v : Int) : (ns.map V.int).set j (.int v) = (ns.set j v).map V.int := by rw [List.map_set]
theorem take_read {K : PySem.W.Frag} {a c : Addr} {n : Int} {H : Hp} {Q : VK} (d : Drw a c H) (hn : 0 < n) (hn2 : n < 1073741824) (k : ∀ i H', KpD a c H H' → Drw a c H' → 0 ≤ i → i < n → Q (.int i) H') :
    t_take K { nx := fun _ H' => Q .non H', rt := Q } [some (.ref a), some (.int n), none, none, none] H := by
  obtain ⟨ns, at', seed, h1, h2, hac, hne, h63, hpos, hat, hs0, hs1⟩ := d
  have hlen : 0 < ns.length := List.length_pos_iff.mpr hne
  have hl : ((ns.map V.int).length : Int) = (ns.length : Int) := by rw [List.length_map]
  -- cells = draw[0]
  refine ⟨_, rfl, .inl ⟨a, _, 0, _, rfl, rfl, SqL.of h1, rfl, ?_⟩⟩
  -- at = draw[1] % len(cells)
  refine ⟨_, rfl, .inl ⟨a, _, 1, _, rfl, rfl, SqL.of h1, rfl, _, rfl, ?_⟩⟩
  refine ⟨.ref c, _, rfl, .inl ⟨_, SqL.of h2, rfl⟩, at', _, rfl, rfl, by rw [hl]; omega, ?_⟩
  rw [hl]
  have g0 : 0 ≤ at' % (ns.length : Int) := Int.emod_nonneg _ (by omega)
  have g1 : at' % (ns.length : Int) < (ns.length : Int) := Int.emod_lt_of_pos _ (by omega)
  obtain ⟨m, hj⟩ : ∃ m : Nat, at' % (ns.length : Int) = (m : Int) := ⟨(at' % (ns.length : Int)).toNat, by omega⟩
  have hm : m < ns.length := by omega
  have hget : ns[m]? = some ns[m] := List.getElem?_eq_getElem hm
  have hcell : (ns.map V.int)[m]? = some (.int ns[m]) := by rw [List.getElem?_map, hget]; rfl
  have hc0 : 0 ≤ ns[m] := hpos _ (List.getElem_mem hm)
  generalize ns[m] = cell at hget hcell hc0
  -- cell = cells[at]
  refine ⟨_, rfl, _, rfl, .inl ⟨c, _, _, _, rfl, rfl, SqL.of h2, (by rw [hj]; exact atI_nat hcell), ?_⟩⟩
  refine ⟨_, rfl, 10, 18, rfl, rfl, ⟨by decide, by decide, by decide⟩, cell, _, rfl, rfl, _, rfl, ?_⟩
  refine ite2 (fun hc => ?_) (fun hc => ?_)
  · -- a digit of a great cell
    refine ⟨_, rfl, _, rfl, cell, n, rfl, rfl, ⟨hn, hn2⟩, ?_⟩
    refine ⟨_, rfl, _, rfl, c, _, _, m, rfl, rfl, h2, ?_, ?_⟩
    · rw [List.length_map, hj]
      unfold ixN
      rw [if_pos (by omega), if_pos (by omega)]
      simp
    refine ⟨_, rfl, _, rfl, cell, n, rfl, rfl, hn, ?_⟩
    rw [map_set_int]
    refine k _ _ (fun x o hx hc' h => by rw [upd_ne hc']; exact h) ?_ (Int.emod_nonneg _ (by omega)) (Int.emod_lt_of_pos _ hn)
    refine ⟨ns.set m (cell / n), at', seed, by rw [upd_ne hac]; exact h1, upd_same, hac, ?_, by rw [List.length_set]; exact h63, fun x hx => ?_, hat, hs0, hs1⟩
    · intro e
      have := congrArg List.length e
      rw [List.length_set] at this
      simp at this
      exact hne this
    · rcases List.mem_or_eq_of_mem_set hx with hx | hx
      · exact hpos x hx
      · rw [hx]
        exact Int.ediv_nonneg hc0 (by omega)
  · -- a mixed number
    refine ⟨_, rfl, .inl ⟨a, _, 1, _, rfl, rfl, SqL.of h1, rfl, .inl ⟨at', 1, rfl, rfl, ?_⟩⟩⟩
    refine ⟨_, rfl, a, _, 1, 1, rfl, rfl, h1, rfl, ?_⟩
    refine ⟨_, rfl, .inl ⟨a, _, 2, _, rfl, rfl, SqL.of upd_same, rfl, .inl ⟨seed, 48271, rfl, rfl, .inr ⟨by decide, by decide⟩, _, rfl, .inl ⟨_, cell, rfl, rfl, .inl ⟨_, 12345, rfl, rfl, _, 2147483647, rfl, rfl, (show (0 : Int) < 2147483647 by decide), ?_⟩⟩⟩⟩⟩
    refine ⟨_, rfl, a, _, 2, 2, rfl, rfl, upd_same, rfl, ?_⟩
    rw [upd_upd]
    have g2 : 0 ≤ (seed * 48271 + cell + 12345) % 2147483647 := Int.emod_nonneg _ (by decide)
    have g3 : (seed * 48271 + cell + 12345) % 2147483647 < 2147483647 := Int.emod_lt_of_pos _ (by decide)
    obtain ⟨seed', hsd⟩ : ∃ x, (seed * 48271 + cell + 12345) % 2147483647 = x := ⟨_, rfl⟩
    rw [hsd] at g2 g3
    refine ⟨_, rfl, .inl ⟨a, _, 2, _, rfl, rfl, SqL.of upd_same, rfl, _, rfl, .inl ⟨a, _, 2, _, rfl, rfl, SqL.of upd_same, rfl, .inl ⟨_, _, rfl, rfl, .inl ⟨by show -(2 ^ 64) < (seed * 48271 + cell + 12345) % 2147483647; rw [hsd]; omega, by show (seed * 48271 + cell + 12345) % 2147483647 < 2 ^ 64; rw [hsd]; omega⟩, _, 2147483629, rfl, rfl, (show (0 : Int) < 2147483629 by decide), _, 16, rfl, rfl, ⟨by decide, by decide⟩, _, rfl, _, n, rfl, rfl, hn, ?_⟩⟩⟩⟩
    refine k _ _ (fun x o hx hc' h => by rw [upd_ne hx]; exact h) ?_ (Int.emod_nonneg _ (by omega)) (Int.emod_lt_of_pos _ hn)
    exact ⟨ns, at' + 1, (seed * 48271 + cell + 12345) % 2147483647, upd_same, by rw [upd_ne (Ne.symm hac)]; exact h2, hac, hne, h63, hpos, by omega, by rw [hsd]; exact g2, by rw [hsd]; exact g3⟩
section
variable {P : Program} {w : World} {K : PySem.W.Frag} {mg : Str → Option Value} {base : Heap}
theorem ok_take {x qual : Str} {st : Stmt} {f : Addr} {fd : FuncData} {N ps : List Str} {k : Nat} (F : Fun K x qual st f fd) (S : FnScope N ps (defScope st)) (hN : N.length = 5) (hp : ps.length = 2)
    (hbody : ∀ (cdv : Value) (A : Around) (outer : List PySem.Env) (s : Shared) (H : Hp) (E : XK), Room k (A.deeper (PyProof.Rows.envOfC qual (defScope st) s.heap.objs.size f cdv)) →
      PSs (cxOf CX0 P w K mg base N qual (defScope st) f cdv A outer s H E).nox (defBody st) (t_take K)) : FnOk P w K mg base CX0 (k + 1) f fd ps (spD Rtake) := by
  refine F.ok S (fun vs H Q E h => ?_) (fun cdv A outer s H vs Q E hr h => ?_)
  · obtain ⟨own, a, c, ds, z, _, _, _, _, ia, ⟨n, rfl, _⟩, _⟩ := h
    rw [ia.length, hp]
    rfl
  · obtain ⟨own, a, c, ds, P', o, oa, oc, dr, ia, ⟨n, rfl, h0, h1, rfl⟩, q⟩ := h
    refine ⟨_, hbody cdv A outer s H E hr, ?_⟩
    cases ia with
    | cons i1 t1 =>
      cases t1 with
      | cons i2 t2 =>
        cases t2
        cases i1
        cases i2
        have e : L2.start N [.ref a, .int n] = [some (.ref a), some (.int n), none, none, none] := by
          unfold L2.start
          rw [hN]
          rfl
        rw [e]
        exact take_read dr h0 h1 fun i H' kd dr' hi0 hi1 => q _ (.int i) H' kd dr' (.int i) ⟨i, rfl, hi0, hi1⟩
end
/-! ### the beginning -/
def t_begin (K : PySem.W.Frag) : TS :=
  (tSeq (tAsg (tLc (iAny K (tSl (rSlX K) (tVar 0) tNoPart (tPart (tC (.int 63))))) (gName 2) tYes (tCB rAbs (tCons (tVar 2) tNil)) [2]) (gName 1)) (tSeq (tIfS (tTest (tOp (rEqA K) (tVar 1) (tLst tNil))) (tAsg (tLst (tCons (tC (.int 7)) tNil)) (gName 1)) tNext) (tRet (tLst (tCons (tVar 1) (tCons (tC (.int 0)) (tCons (tC (.int 1)) tNil)))))))
def absI (i : Int) : Int := if i < 0 then -i else i
theorem absI_nonneg (i : Int) : 0 ≤ absI i := by unfold absI; split <;> omega
theorem plains_ints : ∀ ns : List Int, plains (ns.map D.int) = true
  | [] => by simp [plains]
  | n :: ns => by simp only [List.map_cons, plains, DL.plain, plains_ints ns, Bool.and_self]
theorem deep_ints : ∀ ns : List Int, deepDs (ns.map D.int) = 0
  | [] => by simp [deepDs]
  | n :: ns => by simp [deepDs, deepD, deep_ints ns]
theorem cmpOk_ints (ns : List Int) : cmpOk (.lst (ns.map D.int)) := ⟨by simp only [DL.plain]; exact plains_ints ns, by simp only [deepD, deep_ints]; decide⟩
theorem eqD_ints_nil (ns : List Int) : eqD (.lst (ns.map D.int)) (.lst []) = ns.isEmpty := by
  cases ns <;> simp [eqD, toPy, toPys, PyData.eqv, PyData.eqvAll]
def spBegin (K : PySem.W.Frag) : Sp := fun vs H Q _ => ∃ (a0 : Addr) (ns : List Int), vs = [.ref a0] ∧ SqL K H a0 (ns.map V.int) ∧ ns.length ≤ 63 ∧ ∀ a c H', Same H H' → H a = none → H c = none → Drw a c H' → Q (.ref a) H'
theorem begin_read {K : PySem.W.Frag} {a0 : Addr} {ns : List Int} {H : Hp} {Q : VK} (hS : SqL K H a0 (ns.map V.int)) (h63 : ns.length ≤ 63) (k : ∀ a c H', Same H H' → H a = none → H c = none → Drw a c H' → Q (.ref a) H') :
    t_begin K { nx := fun _ H' => Q .non H', rt := Q } [some (.ref a0), none, none] H := by
  refine .inl ⟨_, rfl, 63, rfl, .inl ⟨a0, _, rfl, hS, fun p hp => ?_⟩⟩
  have ecut : cutV (ns.map V.int) none (some 63) = ns.map V.int := by
    unfold cutV
    have e1 : HT.sIx (ns.map V.int).length (ns.map V.int).length (some 63) = min 63 (ns.map V.int).length := HT.sIx_nat _ _ 63
    rw [HT.sIx_none, e1, List.drop_zero, Nat.sub_zero, List.length_map]
    exact List.take_of_length_le (by rw [List.length_map]; omega)
  rw [ecut]
  have s1 : Same H (upd H p (.lst (ns.map V.int))) := same_new hp
  refine ⟨p, rfl, ⟨_, SqL.of upd_same⟩, fun Dl hD => ?_⟩
  have nDp : Dl ≠ p := fun e => by subst e; rw [upd_same] at hD; cases hD
  have hDH : H Dl = none := by
    cases q : H Dl with
    | none => rfl
    | some o => rw [s1 _ _ q] at hD; cases hD
  refine lc_list (K := K) (a := p) (xs := ns.map V.int) (fun i H' => Same H H' ∧ H' p = some (.lst (ns.map V.int)) ∧ H' Dl = some (.lst (((ns.take i).map absI).map V.int))) ⟨s1.trans (same_new hD), by rw [upd_ne (Ne.symm nDp)]; exact upd_same, upd_same⟩ (fun i H' _ ⟨_, h, _⟩ => SqL.of h) (fun i x H' hx ⟨g1, g2, g3⟩ => ?_) (fun H' ⟨g1, g2, g3⟩ => ?_)
  · obtain ⟨z, hz, rfl⟩ : ∃ z, ns[i]? = some z ∧ x = V.int z := by
      rw [List.getElem?_map] at hx
      cases e : ns[i]? with
      | none => rw [e] at hx; cases hx
      | some z => rw [e] at hx; exact ⟨z, rfl, (Option.some.inj hx).symm⟩
    refine ⟨rfl, _, rfl, z, rfl, _, g3, ?_, ?_⟩
    · rw [List.length_map, List.length_map, List.length_take, sizeLine_eq]
      omega
    · refine ⟨fun b o hb => ?_, ?_, ?_⟩
      · rw [upd_ne (ne_of_none hb hDH)]
        exact g1 b o hb
      · rw [upd_ne (Ne.symm nDp)]
        exact g2
      · rw [upd_same, take_succ_get hz, List.map_append, List.map_append]
        rfl
  rw [List.length_map, List.take_length] at g3
  -- cells == []
  refine ⟨_, rfl, Nat.zero_le _, fun e he => ?_⟩
  have s2 : Same H' (upd H' e (.lst [])) := same_new he
  have own0 : OwnOk (fun _ => False) (upd H' e (.lst [])) := fun _ z => z.elim
  refine eq_deep (K := K) (cmpOk_ints (ns.map absI)) (by exact ⟨by simp [DL.plain, plains], by simp [deepD, deepDs]⟩ : cmpOk (.lst [])) (fun _ => False) _ (.ref Dl) (.ref e) own0 (.lst (s2 _ _ g3) trivial (IsAll.ofInts _)) (.lst upd_same trivial .nil) _ fun v H3 s3 i3 => ?_
  rw [eqD_ints_nil] at i3
  cases i3
  have g1' : Same H H3 := (g1.trans s2).trans s3
  have g3' : H3 Dl = some (.lst ((ns.map absI).map V.int)) := s3 _ _ (s2 _ _ g3)
  refine ⟨_, rfl, ?_⟩
  refine ite2 (fun hc => ?_) (fun hc => ?_)
  · -- an empty script: [7]
    refine ⟨by show 1 ≤ sizeLine; rw [sizeLine_eq]; decide, fun c hc' => ?_⟩
    refine ⟨_, rfl, by show 3 ≤ sizeLine; rw [sizeLine_eq]; decide, fun a ha => ?_⟩
    have nac : a ≠ c := fun e => by subst e; rw [upd_same] at ha; cases ha
    have sc : Same H3 (upd H3 c (.lst [.int 7])) := same_new hc'
    refine k a c _ ((g1'.trans sc).trans (same_new ha)) ((g1'.trans sc).free ha) (g1'.free hc') ⟨[7], 0, 1, upd_same, ?_, nac, by simp, by simp, by simp, by omega, by omega, by omega⟩
    rw [upd_ne (Ne.symm nac)]
    exact upd_same
  · refine ⟨_, rfl, by show 3 ≤ sizeLine; rw [sizeLine_eq]; decide, fun a ha => ?_⟩
    have naD : a ≠ Dl := fun e => by subst e; rw [g3'] at ha; cases ha
    refine k a Dl _ (g1'.trans (same_new ha)) (g1'.free ha) hDH ⟨ns.map absI, 0, 1, upd_same, ?_, naD, ?_, by rw [List.length_map]; exact h63, fun n hn => ?_, by omega, by omega, by omega⟩
    · rw [upd_ne (Ne.symm naD)]
      exact g3'
    · intro e
      apply hc
      rw [e]
      rfl
    · obtain ⟨m, _, rfl⟩ := List.mem_map.mp hn
      exact absI_nonneg m
section
variable {P : Program} {w : World} {K : PySem.W.Frag} {mg : Str → Option Value} {base : Heap}
theorem ok_begin {x qual : Str} {st : Stmt} {f : Addr} {fd : FuncData} {N ps : List Str} {k : Nat} (F : Fun K x qual st f fd) (S : FnScope N ps (defScope st)) (hN : N.length = 3) (hp : ps.length = 1)
    (hbody : ∀ (cdv : Value) (A : Around) (outer : List PySem.Env) (s : Shared) (H : Hp) (E : XK), Room k (A.deeper (PyProof.Rows.envOfC qual (defScope st) s.heap.objs.size f cdv)) →
      PSs (cxOf CX0 P w K mg base N qual (defScope st) f cdv A outer s H E).nox (defBody st) (t_begin K)) : FnOk P w K mg base CX0 (k + 1) f fd ps (spBegin K) := by
  refine F.ok S (fun vs H Q E h => ?_) (fun cdv A outer s H vs Q E hr h => ?_)
  · obtain ⟨a0, ns, rfl, _⟩ := h
    rw [hp]
    rfl
  · obtain ⟨a0, ns, rfl, hS, h63, q⟩ := h
    refine ⟨_, hbody cdv A outer s H E hr, ?_⟩
    have e : L2.start N [.ref a0] = [some (.ref a0), none, none] := by
      unfold L2.start
      rw [hN]
      rfl
    rw [e]
    exact begin_read hS h63 q
end
end DL

set_option Elab.async false
set_option linter.all false
set_option maxRecDepth 100000
set_option maxHeartbeats 4000000
namespace DL
open PySem L2
variable [Wd]
/-- a value that is told -/
theorem EvP.eqD {a : Addr} {te : TE} {δ : Env} {d : D} (h : EvP te δ d) : EvD a te δ (· = d) := EvP.toD h rfl
/-! ### _law_pick(draw, some) of a list -/
def Rpick (ds : List D) (P : D → Prop) : Prop := ∃ xs : List D, ds = [.lst xs] ∧ xs ≠ [] ∧ xs.length ≤ 1000000 ∧ P = fun d => d ∈ xs
def t_pick (K : PySem.W.Frag) (sp__law_take : Sp) : TS :=
  (tRet (tOp (rIx K) (tVar 1) (tCall sp__law_take [] E0 (tCons (tVar 0) (tCons (tCB (rLenA K) (tCons (tVar 1) tNil)) tNil)))))
theorem atI_of {α : Type} {xs : List α} {i : Int} (h0 : 0 ≤ i) (h1 : i < (xs.length : Int)) : ∃ x, atI xs i = some x ∧ x ∈ xs := by
  obtain ⟨m, rfl⟩ : ∃ m : Nat, i = (m : Int) := ⟨i.toNat, by omega⟩
  have hm : m < xs.length := by omega
  exact ⟨xs[m], atI_nat (List.getElem?_eq_getElem hm), List.getElem_mem hm⟩
theorem run_pick {K : PySem.W.Frag} {N : List Str} (hN : N.length = 2) (a : Addr) (ds : List D) (P : D → Prop) (h : Rpick ds P) : RnD a (t_pick K (spD Rtake)) (startD N (.ref a :: ds)) { rt := P } := by
  obtain ⟨xs, rfl, hne, hl, rfl⟩ := h
  have e : startD N [.ref a, .lst xs] = [some (.ref a), some (.lst xs)] := by
    unfold startD
    rw [hN]
    rfl
  rw [e]
  have hpos := List.length_pos_iff.mpr hne
  refine r_ret (d_op (P2 := fun d e => d = .lst xs ∧ ∃ i, e = .int i ∧ 0 ≤ i ∧ i < (xs.length : Int)) (EvP.eqD (p_var rfl)) (fun d hd => ?_) (fun d e ⟨h1, i, h2, h3, h4⟩ => ?_))
  · subst hd
    exact (d_callP (a_cons (p_var rfl) (a_cons (p_cb (a_cons (p_var rfl) a_nil) len_lst) a_nil)) ⟨(xs.length : Int), rfl, by omega, by omega, rfl⟩).imp fun d ⟨i, h⟩ => ⟨rfl, i, h⟩
  · subst h1; subst h2
    obtain ⟨x, hx, hm⟩ := atI_of h3 h4
    exact ⟨x, at_lst hx, hm⟩
/-- the law's begin: the rest is read with the draws in slot i -/
def spLaw (K : PySem.W.Frag) : Sp := fun vs H Q _ => ∃ (a : Addr) (ns : List Int), vs = [.ref a] ∧ SqL K H a (ns.map V.int) ∧ ns.length ≤ 63 ∧ ∀ H', Q (.bl true) H'
def startL : Nat → Env
  | n => none :: some .non :: List.replicate n none
theorem law_read {K : PySem.W.Frag} {rest : TS} {n : Nat} {a0 : Addr} {ns : List Int} {H : Hp} {Q : VK} (hS : SqL K H a0 (ns.map V.int)) (h63 : ns.length ≤ 63) (hQ : ∀ H', Q (.bl true) H')
    (hrest : ∀ a, RnD a rest (none :: some (.ref a) :: List.replicate n none) { rt := fun d => d = .bl true }) :
    tSeq (tAsg (tCall (spBegin K) [] E0 (tCons (tVar 0) tNil)) (gName 1)) rest { nx := fun _ H' => Q .non H', rt := Q } (some (.ref a0) :: none :: List.replicate n none) H := by
  refine ⟨_, rfl, a0, ns, rfl, hS, h63, fun a c H1 s1 ha hc dr => ?_⟩
  show rest { nx := fun _ H' => Q .non H', rt := Q } (some (.ref a0) :: some (.ref a) :: List.replicate n none) H1
  let own : Own := fun x => x = a ∨ x = c
  have ok : ∀ H', Drw a c H' → OwnOk own H' := fun H' d x hx e => by
    obtain ⟨ns, at', seed, h1, h2, _⟩ := d
    rcases hx with rfl | rfl
    · rw [h1] at e; cases e
    · rw [h2] at e; cases e
  let J : Ifc Unit := ⟨fun _ => own, fun _ H' => Drw a c H', fun _ H' d => ok H' d, fun _ _ _ d e => d.same e⟩
  have hD : HasDraw J a c := ⟨fun _ => .inl rfl, fun _ => .inr rfl, fun _ _ d => d, fun _ _ _ _ _ d => d⟩
  have nones : ∀ m : Nat, EnvR own H1 (List.replicate m none) (List.replicate m none) := fun m => by
    induction m with
    | zero => exact .nil
    | succ m ih => rw [List.replicate_succ, List.replicate_succ]; exact .skip ih
  exact hrest a Unit J c () hD _ _ H1 (.skip (.cons (.ref a) (nones n))) dr (fun _ _ _ _ _ _ _ z => z.2.elim) (fun v d s' H' kp i is ⟨_, e⟩ => by
    have e' : d = .bl true := e
    subst e'
    cases is
    exact hQ H') (fun _ _ _ _ _ _ _ z => z.2.elim) (fun _ _ _ _ _ _ _ z => z.2.elim)
/-! ### slots forgotten -/
inductive Wk : Env → Env → Prop
  | nil : Wk [] []
  | keep {o : Option D} {δ δ' : Env} : Wk δ δ' → Wk (o :: δ) (o :: δ')
  | drop {o : Option D} {δ δ' : Env} : Wk δ δ' → Wk (o :: δ) (none :: δ')
theorem Wk.env {own : Own} {H : Hp} : ∀ {δ δ' : Env} {σ : L2.St}, Wk δ δ' → EnvR own H σ δ → EnvR own H σ δ'
  | _, _, _, .nil, h => h
  | _, _, _, .keep w, .skip t => .skip (w.env t)
  | _, _, _, .keep w, .cons i t => .cons i (w.env t)
  | _, _, _, .drop w, .skip t => .skip (w.env t)
  | _, _, _, .drop w, .cons _ t => .skip (w.env t)
theorem rn_wk {τ : Type} {J : Ifc τ} {t : TS} {δ δ' : Env} {s : τ} {Po : Post τ} (w : Wk δ δ') (h : Rn J t δ' s Po) : Rn J t δ s Po := fun En σ H E i q1 q2 q3 q4 => h En σ H (w.env E) i q1 q2 q3 q4
theorem r_wk {a : Addr} {t : TS} {δ δ' : Env} {Po : PostD} (w : Wk δ δ') (h : RnD a t δ' Po) : RnD a t δ Po := fun τ J c s hd => rn_wk w (h τ J c s hd)
theorem r_two {a : Addr} {K : PySem.W.Frag} {te : TE} {us : TS} {δ : Env} {Po : PostD} {i j : Nat} {P : D → Prop} (h : EvD a te δ P) (hP : ∀ d, P d → ∃ x y, d = .tup [x, y] ∧ RnD a us ((δ.set i (some x)).set j (some y)) Po) :
    RnD a (tSeq (tAsg te (gTup K 2 (gCons (gName i) (gCons (gName j) gNil)))) us) δ Po := fun τ J c s hd =>
  rn_seq (M := fun δ' s' => s' = s ∧ ∃ x y, δ' = (δ.set i (some x)).set j (some y) ∧ P (.tup [x, y])) (rn_two (h τ J c s hd) fun d s' ⟨e, p⟩ => by
    obtain ⟨x, y, h1, h2⟩ := hP d p
    subst h1
    exact ⟨x, y, rfl, e, x, y, rfl, p⟩) fun δ' s' ⟨e, x, y, h1, p⟩ => by
      subst e
      obtain ⟨x', y', h3, h4⟩ := hP _ p
      cases h3
      rw [h1]
      exact h4 τ J c _ hd
theorem r_setP {a : Addr} {te : TE} {us : TS} {δ : Env} {Po : PostD} {i : Nat} {d : D} (h : EvP te δ d) (k : RnD a us (δ.set i (some d)) Po) : RnD a (tSeq (tAsg te (gName i)) us) δ Po := r_setSeq (EvP.eqD h) fun d' e => by subst e; exact k
theorem r_ifP {a : Addr} {t : TT} {ts us : TS} {δ : Env} {Po : PostD} {b : Bool} (h : EtP t δ b) (k1 : b = true → RnD a ts δ Po) (k2 : b = false → RnD a us δ Po) : RnD a (tIfS t ts us) δ Po := r_if (T := fun c => c = b) (EtP.toD h rfl) (fun e => k1 e.symm) (fun e => k2 e.symm)
theorem r_ifSeqP {a : Addr} {t : TT} {ts us ws : TS} {δ : Env} {Po : PostD} {b : Bool} (h : EtP t δ b) (k1 : b = true → RnD a (tSeq ts ws) δ Po) (k2 : b = false → RnD a (tSeq us ws) δ Po) : RnD a (tSeq (tIfS t ts us) ws) δ Po := r_ifSeq (T := fun c => c = b) (EtP.toD h rfl) (fun e => k1 e.symm) (fun e => k2 e.symm)
end DL

set_option Elab.async false
set_option linter.all false
set_option maxRecDepth 100000
set_option maxHeartbeats 4000000
namespace DL
open PySem L2
variable [Wd]
/-- a def of the text, as it stands behind the top -/
structure Df (K : PySem.W.Frag) (mg : Str → Option Value) (x : Str) (st : Stmt) (f : Addr) (fd : FuncData) : Prop where
  fn : Fun K x x st f fd
  mg : mg x = some (.ref f)
section
variable {P : Program} {w : World} {K : PySem.W.Frag} {mg : Str → Option Value} {base : Heap} {x : Str} {st : Stmt} {f : Addr} {fd : FuncData} {ps ks : List Str} {k n : Nat} {sp : Sp}
theorem Df.cl (d : Df K mg x st f fd) (b : Binds K fd ps []) (F : FnOk P w K mg base CX0 k f fd ps sp) : Cl P w K mg base k x ps sp := ⟨f, fd, F, d.mg, d.fn.kp, b⟩
theorem Df.clN (d : Df K mg x st f fd) (b : KBn K fd ps n ks (fun us ws => us ++ ws) (fun vs zs => vs ++ zs)) (F : FnOk P w K mg base CX0 k f fd ps sp) : ClN P w K mg base k x ps n ks sp := ⟨f, fd, F, d.mg, d.fn.kp, b⟩
theorem fn_never {CX : CXT} (h : ∀ vs H Q E, ¬ sp vs H Q E) : FnOk P w K mg base CX k f fd ps sp := ⟨fun vs H Q E q => absurd q (h vs H Q E), fun A outer s H args us vs Q E _ _ _ _ q => absurd q (h vs H Q E)⟩
theorem fn_neverP {CX : CXT} {R : List D → D → Prop} (h : ∀ ds z, ¬ R ds z) : FnOk P w K mg base CX k f fd ps (spP R) := fn_never fun vs H Q E ⟨_, ds, z, _, _, hR, _⟩ => h ds z hR
theorem fn_neverD {CX : CXT} {R : List D → (D → Prop) → Prop} (h : ∀ ds z, ¬ R ds z) : FnOk P w K mg base CX k f fd ps (spD R) := fn_never fun vs H Q E ⟨_, _, _, ds, z, _, _, _, _, _, hR, _⟩ => h ds z hR
end
/-- the end of a law's row -/
theorem walkL {l : PySem.W.OpenLaw} {k : Nat} {q : Program} {loose : List Str} {XP : (Str → Option Value) → Heap → Prop} {YP : World → Heap → Prop} {d : DefRec} {K : Params → PySem.W.Frag} (hn : l.most = some 63) (hdf : d.params.defaults = []) (hr : Room k callerA)
    (hY : ∀ (w : World) (h : Heap), YP w h → (K w.params).In h)
    (F : ∀ (w : World) (mg : Str → Option Value) (fa : Addr) (h : Heap), (K w.params).In h → h.Ns mainGlobals mg → mg d.name = some (.ref fa) →
      ∃ fd : FuncData, (∀ (s : Shared) (u : Value), BindsTo s fd ⟨[u], []⟩ [("_law_script", u)]) ∧ ∀ base : Heap, (K w.params).In base → base.Ns mainGlobals mg → FnOk l.prog w (K w.params) mg base CX0 k fa fd ["_law_script"] (spLaw (K w.params))) :
    PySem.W.WalkO q loose XP YP l.row.toRowW d [] (fun f vs => PySem.call f vs) :=
  L2.walk_of (n := 63) (k := k) (x := "_law_script") (CX := fun _ => CX0) (sp := fun w => spLaw (K w.params)) hn (by decide) hdf hr hY F (fun _ _ a ns hl _ hS => ⟨a, ns, rfl, hS, hl, fun _ => rfl⟩) fun _ _ _ _ _ z => z
theorem ok_law {P : Program} {w : World} {K : PySem.W.Frag} {mg : Str → Option Value} {base : Heap} {x qual : Str} {st : Stmt} {f : Addr} {fd : FuncData} {N : List Str} {k n : Nat} (F : Fun K x qual st f fd) (S : FnScope N ["_law_script"] (defScope st)) (hN : N.length = n + 2)
    (hbody : ∀ (cdv : Value) (A : Around) (outer : List PySem.Env) (s : Shared) (H : Hp) (E : XK), Room k (A.deeper (PyProof.Rows.envOfC qual (defScope st) s.heap.objs.size f cdv)) →
      ∃ t rest, PSs (cxOf CX0 P w K mg base N qual (defScope st) f cdv A outer s H E).nox (defBody st) t ∧ t = tSeq (tAsg (tCall (spBegin K) [] E0 (tCons (tVar 0) tNil)) (gName 1)) rest ∧
        ∀ a, RnD a rest (none :: some (.ref a) :: List.replicate n none) { rt := fun d => d = .bl true }) : FnOk P w K mg base CX0 (k + 1) f fd ["_law_script"] (spLaw K) := by
  refine F.ok S (fun vs H Q E h => ?_) (fun cdv A outer s H vs Q E hr h => ?_)
  · obtain ⟨a, ns, rfl, _⟩ := h
    rfl
  · obtain ⟨a, ns, rfl, hS, h63, q⟩ := h
    obtain ⟨t, rest, h1, h2, h3⟩ := hbody cdv A outer s H E hr
    refine ⟨t, h1, ?_⟩
    subst h2
    have e : L2.start N [.ref a] = some (.ref a) :: none :: List.replicate n none := by
      unfold L2.start
      rw [hN]
      rfl
    rw [e]
    exact law_read hS h63 q h3
end DL

set_option Elab.async false
set_option linter.all false
set_option maxRecDepth 100000
set_option maxHeartbeats 4000000
/-! Exceptions: data of caught ones, promises with an outcome, raise, try. -/
namespace DL
open PySem L2 PySem.Spec PyProof.Rows
variable [Wd]

/-! ### isinstance of a caught exception, with or without a dict -/
section
open PySem.W PySem.Calls PyProof.Rows
variable {P : Program} {w : World} {A : Around} {E : Value → Shared → Prop} {s : Shared} {K : Frag} {x c : Addr} {ox : Obj} {od : Option Obj}
theorem find_class (C : ExcC K c) : findObj K c od "__class__" = some (.bind (.builtin "getset_descriptor.__get__") (.builtin "object.__class__")) := by
  obtain ⟨cd, hc, _⟩ := any_some C.hd
  unfold findObj
  rw [hc, Option.bind_some, C.ha, Option.bind_some]
  simp [C.hn, C.ht]
theorem class_of_exc {Q : Option Value → Shared → Prop} (C : ExcC K c) (X : K.In s.heap) (I : InstAt s.heap x ox c od) (h : Q (some (.ref c)) { s with toks := s.toks + 1 }) : wpAny (model P w) A (getAttr? (.ref x) "__class__") Q E s := by
  obtain ⟨hp, g, d, t, os⟩ := s
  have a0 := I.type (M := model P w)
  have a1 := looks_findIn (M := model P w) X C.hg
  have a2 := looks_findIn (M := model P w) X C.hk
  have a3 := looks_find (M := model P w) X I (find_class C)
  have a4 : Looks (model P w) hp (isInstance (.ref x) (.type "BaseException")) true := a0.andThen (looks_subIn X C.hs)
  have n2 : (Value.builtin "BaseException.__getattribute__" == Value.builtin "object.__getattribute__") = false := by decide +kernel
  have n1 : (onTheHeap (Value.ref c) && Value.builtin "BaseException.__getattribute__" == Value.builtin "object.__getattribute__") = false := by rw [n2]; rfl
  unfold getAttr? getAttrBy? getAttrBy
  refine wpAny_bind (wpAny_mkText (wpAny_bind (wpAny_attempt (wpAny_holding (wpAny_bind (a0.at (wpAny_bind (a1.at ?_))))))))
  show wpAny _ _ (if (onTheHeap (Value.ref c) && Value.builtin "BaseException.__getattribute__" == Value.builtin "object.__getattribute__") = true then _ else _) _ _ _
  rw [n1, if_neg Bool.false_ne_true]
  unfold getAttrByItsOwn hookBefore
  refine wpAny_bind ?_
  rw [if_pos (show onTheHeap (Value.ref c) = true from rfl)]
  refine a2.at (wpAny_bind (wpAny_attempt (wpAny_holding ?_)))
  unfold callGetattribute
  rw [show (false && onTheHeap (Value.builtin "BaseException.__getattribute__")) = false from rfl, if_neg Bool.false_ne_true]
  unfold boundAndCalled
  rw [PySem.F.excAttr_ValueError.ga.bind (.ref x)]
  refine wpAny_bind (wpAny_pure ?_)
  show wpAny _ _ (call (.builtin "BaseException.__getattribute__") [.ref x, .str "__class__" t]) _ _ _
  refine wpAny_call (codeAny_call_builtin PySem.F.excAttr_ValueError.ga.plain PySem.F.entry_bexc_ga ?_)
  refine @check_slot (model P w) _ _ ⟨hp, g, d, t + 1, os⟩ "BaseException.__getattribute__" "BaseException" "__getattribute__" (.ref x) [.str "__class__" t] [] _ (by decide +kernel) (by decide +kernel) a4 (PySem.F.args_bexc_ga (.ref x) (.str "__class__" t)) ?_
  unfold Builtin.«object.__getattribute__»
  refine wpAny_bind (wpAny_of_eq (a := ((Value.ref x : Value), [Value.str "__class__" t])) (by first | rfl | (simp only [slotArgs]; rfl)) ?_)
  refine wpAny_bind (wpAny_pure (wpAny_bind (a0.at (wpAny_bind (a3.at ?_)))))
  show wpAny _ _ (holding [Value.builtin "object.__class__"] (call (.builtin "getset_descriptor.__get__") [.builtin "object.__class__", .ref x, .ref c]) >>= ret) _ _ _
  refine wpAny_bind (wpAny_holding (wpAny_call (class_get (s := ⟨hp, g, d, t + 1, os⟩) (ox := ox) (od := od) X I C.hm ?_)))
  refine wpAny_pure ?_
  show wpAny _ _ (handedOut (.ref c)) _ _ _
  rw [handedOut_of (v := .ref c) rfl]
  first
    | exact wpAny_pure (wpAny_pure h)
    | exact wpAny_pure h
    | exact wpAny_pure (wpAny_bind (wpAny_pure (wpAny_pure h)))
theorem kit_exc (C : ExcC K c) : KitX K (.ref x) (.ref c) (fun h => ∃ ox od, InstAt h x ox c od) where
  ty := fun _ _ _ ⟨_, _, I⟩ => I.type
  it := fun _ _ X _ => by
    obtain ⟨cd, hc, _⟩ := any_some C.hd
    unfold clsIn at hc
    split at hc
    · rename_i o1 o2 o3 o4 ho
      intro A' Q' E' s' k q
      unfold isType loadHead
      exact wpAny_bind (wpAny_loadPart (k _ _ (X _ _ ho)) (wpAny_pure q))
    · cases hc
  ne := fun h tp dd its n sl X htp => by
    obtain ⟨cd, hc, _⟩ := any_some C.hd
    refine Bool.eq_false_iff.mpr fun q => ?_
    have e : c = tp := Value.ref.inj (beq_iff_eq.mp q)
    subst e
    unfold clsIn at hc
    split at hc
    · rename_i o1 o2 o3 o4 ho
      cases (X _ _ ho).symm.trans htp
    · cases hc
  ca := fun X ⟨_, _, I⟩ k => class_of_exc C X I k
end
section
variable {X : Cx} {pins : List (Addr × Obj)} {σ : L2.St} {H : Hp} {s : Shared}
/-- the object of a caught exception that has no dict, or whose dict stands there -/
theorem caught_at {a c : Addr} {dd : Option Addr} (I : Inv X pins σ H s) (h : H a = some (Caught (.ref c) dd a)) : ∃ (oe : Obj) (vs : Array Value), s.heap.get? a = some oe ∧ oe.data = .fields vs ∧ Zc (.ref c) dd oe := by
  have z : ObjOk X.prog X.w H s.heap a (.ext fun h => ∃ (oe : Obj) (vs : Array Value), h.get? a = some oe ∧ oe.data = .fields vs ∧ Zc (.ref c) dd oe) := I.hok a _ h
  exact z.1
theorem caught_ok {P : Program} {w : World} {H : Hp} {h : Heap} {a : Addr} {dd : Option Addr} {cls : Value} {oe : Obj} {vs : Array Value} (e : h.get? a = some oe) (d : oe.data = .fields vs) (z : Zc cls dd oe) : ObjOk P w H h a (Caught cls dd a) :=
  ⟨⟨oe, vs, e, d, z⟩, ⟨oe, e⟩, fun _ _ ⟨o, v, q, r⟩ k => ⟨o, v, k o q, r⟩⟩
theorem inst_caught {a c : Addr} {dd : Option Addr} (I : Inv X pins σ H s) (h : H a = some (Caught (.ref c) dd a)) (hd : ∀ d, dd = some d → ∃ fs, H d = some (.xd fs)) : ∃ ox od, PySem.W.InstAt s.heap a ox c od := by
  obtain ⟨oe, vs, e, d, z⟩ := caught_at I h
  have no : PySem.W.notCls oe = true := by unfold PySem.W.notCls; rw [d]
  cases dd with
  | none => exact ⟨oe, none, e, z.1, no, by rw [z.2]; trivial⟩
  | some dx =>
    obtain ⟨fs, hx⟩ := hd dx rfl
    have hx' : ObjOk X.prog X.w H s.heap dx (.xd fs) := I.hok dx _ hx
    obtain ⟨mA, ⟨o, _, _, ho, _⟩, _⟩ := hx'
    exact ⟨oe, some o, e, z.1, no, by rw [z.2]; exact ho⟩
theorem call_isC : CallR X (.builtin "isinstance") (rIsC X.K) := by
  intro pins s σ H xs us Q I r h
  obtain ⟨a, c, dd, cv, u, b, rfl, ha, hd, C, k, e, q⟩ := h
  obtain ⟨u1, u2, rfl, r1, r2⟩ := vals2 r
  have e2 := k.eq r2
  subst e2
  cases (show u1 = Value.ref a from r1)
  exact PySem.W.kia_one (kit_exc C) I.kIn (inst_caught I ha hd) e (fun z => nomatch z) fun tk => ⟨.bl b, H, I.tok tk, rfl, q⟩
theorem call_isiA : CallR X (.builtin "isinstance") (rIsiA X.K) := by
  intro pins s σ H xs us Q I r h
  rcases h with h | h | h
  · exact call_isiY pins s σ H xs us Q I r h
  · exact call_isC pins s σ H xs us Q I r h
  · exact call_isiYT pins s σ H xs us Q I r h
/-- its field -/
def tXc (K : PySem.W.Frag) (f : Str) (te : TE) : TE := fun σ H Q => te σ H fun x H1 => ∃ (a c dx : Addr) (fs : List (Str × V)) (v : V), x = .ref a ∧ H1 a = some (Caught (.ref c) (some dx) a) ∧ XfC K c ∧ PySem.W.findIn K (.ref c) f = some none ∧ H1 dx = some (.xd fs) ∧ fs.lookup f = some v ∧ Q v H1
theorem pe_xc {e : Expr} {te : TE} {pos : Pos} {f : Str} (he : PE X e te) (hb : attributeBase e f X.env (eval e X.env) = eval e X.env := by rfl) : PE X (.Attribute e f pos) (tXc X.K f te) := by
  refine ⟨fun pins s σ H Q I h => attr_of hb (thn (he.run pins s σ H _ I h) fun u s1 hh => ?_)⟩
  obtain ⟨x, H1, I1, rx, a, c, dx, fs, v, ex, ha, T, hno, ed, l, q⟩ := hh
  subst ex
  cases (show u = Value.ref a from rx)
  obtain ⟨oe, vs, e1, e2, z⟩ := caught_at I1 ha
  have hx : ObjOk X.prog X.w H1 s1.heap dx (.xd fs) := I1.hok dx _ ed
  obtain ⟨mA, hns, hr⟩ := hx
  obtain ⟨od, ho, hl⟩ := lookIn_ns hns
  obtain ⟨y, hy, ry⟩ := RelO.some_of (v := v) (o := mA f) (by rw [← l]; exact hr f)
  have J : PySem.W.InstAt s1.heap a oe c (some od) := ⟨e1, z.1, by unfold PySem.W.notCls; rw [e2] <;> rfl, by rw [z.2]; exact ho⟩
  exact HandSPX.exc_get I1.kIn J T.ga T.gg T.exC (PySem.W.findObj_own T.hdC hno rfl (by rw [hl, hy])) (handed_of ry) ⟨v, H1, I1.tok _, ry, q⟩
end

/-! ### try: what the clause catches is tracked on -/
section
variable {X : Cx} {pins : List (Addr × Obj)}
/-- an exception that came to this frame: sI is the state without it, B the ground -/
structure Come (X : Cx) (pins : List (Addr × Obj)) (a : Addr) (B : Heap) (sI s' : Shared) (h : Heap) (cls : Value) (d : Option Addr) (σ : L2.St) (H : Hp) : Prop where
  inv : Inv X pins σ H sI
  gr : ∀ b o, sI.heap.get? b = some o → b ∉ frs X.stack → B.get? b = some o
  fly : HandSPX.FlyingZ B X.stack a (Zc cls d) h
  up : sI.heap.UpToSlots h
  no : H a = none
  os : s'.os = sI.os
  bare : AllBare s'.gens
section
variable {a : Addr} {B : Heap} {sI s' : Shared} {h : Heap} {cls : Value} {d : Option Addr} {σ : L2.St} {H : Hp}
theorem Come.land (c : Come X pins a B sI s' h cls d σ H) : Inv X pins σ H { s' with heap := h } := c.inv.landed (s' := { s' with heap := h }) c.gr c.fly.1 c.up c.os c.bare
theorem Come.nfr (c : Come X pins a B sI s' h cls d σ H) : a ∉ frs X.stack := fun hm => by
  obtain ⟨oe, vs, he, _, hd⟩ := c.fly.there
  obtain ⟨_, o', e', hnf⟩ := c.fly.2.2.1.mem hm
  rw [he] at e'
  cases e'
  exact hnf _ hd
/-- .. and is tracked -/
theorem Come.track (c : Come X pins a B sI s' h cls d σ H) : Inv X pins σ (upd H a (Caught cls d a)) { s' with heap := h } := by
  obtain ⟨oe, vs, he, hz, hd⟩ := c.fly.there
  have I := c.inv
  have na : ∀ b o, sI.heap.get? b = some o → b ≠ a := fun b o e z => by
    subst z
    have y := c.gr b o e c.nfr
    rw [c.fly.2.1] at y
    cases y
  have st : B.StaysIn h := c.fly.1
  have fr : ∀ b ∈ frs X.stack, ∀ o, sI.heap.get? b = some o → ∃ sl, h.get? b = some { o with slots := sl } := fun b hb o e => by
    obtain ⟨_, o', e', hn⟩ := I.stack.mem hb
    rw [e] at e'
    cases e'
    exact c.up b o e hn
  refine I.call' (s' := { s' with heap := h }) (ch := []) c.os ⟨fun b o e _ hb _ => st b o (c.gr b o e hb), fun b o e _ hb _ => fr b hb o e, fun b o e n _ => by rw [upd_ne (na b o e)]; exact n, fun b o e _ => ?_, fun b xs q => ?_, fun b u xs q => ?_, fun b ps q => ⟨#[], ?_⟩⟩ (fun b o e => ?_) c.bare fun _ z => nomatch z
  · by_cases hb : b ∈ frs X.stack
    · obtain ⟨sl, q⟩ := fr b hb o e
      exact ⟨_, q⟩
    · exact ⟨o, st b o (c.gr b o e hb)⟩
  · rw [upd_ne (ne_of_none q c.no)]; exact q
  · rw [upd_ne (ne_of_none q c.no)]; exact q
  · rw [upd_ne (ne_of_none q c.no), q]; simp
  · by_cases hb : b = a
    · subst hb
      rw [upd_same] at e
      cases e
      exact caught_ok he hd hz
    · rw [upd_ne hb] at e
      exact (((I.inGround c.gr).kept st) b o e).stay (fun _ _ _ q => q) (fun c' q => by rw [upd_ne (ne_of_none q c.no)]; exact q) fun c' xs q => by rw [upd_ne (ne_of_none q c.no)]; exact q
end
/-- the context of a suite -/
abbrev suiteC (X : Cx) (a : Addr) (pn : List (Addr × Obj)) : Cx := X.suite a pn
theorem suite_in {a : Addr} {σ : L2.St} {H : Hp} {s : Shared} (I : Inv X pins σ H s) : Inv (X.suite a (X.pn ++ pins)) [] σ H s :=
  ⟨I.ok.suite _ _, I.os, I.bare, I.base, I.loc, I.cell, I.free, I.freeC, fun p hp => I.pin p (by rw [List.append_nil] at hp; exact hp), I.hok, I.len⟩
theorem suite_out {a : Addr} {σ : L2.St} {H : Hp} {s : Shared} (I : Inv (X.suite a (X.pn ++ pins)) [] σ H s) (ok : X.Ok) : Inv X pins σ H s :=
  ⟨ok, I.os, I.bare, I.base, I.loc, I.cell, I.free, I.freeC, fun p hp => I.pin p (by rw [List.append_nil]; exact hp), I.hok, I.len⟩
/-- what the clause wishes of the body's exceptions -/
def wCat (K : PySem.W.Frag) (c : Value) (ts : TS) (Wout : WX) (D : Ends) : WX := fun cls d σ H =>
  ∃ b, PySem.W.exmOne K cls c = some b ∧ (b = true → ∀ a, H a = none → ts D σ (upd H a (Caught cls d a))) ∧ (b = false → Wout cls d σ H)
def wCatAs (K : PySem.W.Frag) (c : Value) (i : Nat) (ts : TS) (Wout : WX) (D : Ends) : WX := fun cls d σ H =>
  ∃ b, PySem.W.exmOne K cls c = some b ∧ (b = true → ∀ a, H a = none → ts { nx := fun σ' H' => D.nx (σ'.set i none) H', rt := D.rt, bk := fun σ' H' => D.bk (σ'.set i none) H', ct := fun σ' H' => D.ct (σ'.set i none) H' } (σ.set i (some (.ref a))) (upd H a (Caught cls d a))) ∧
    (b = false → Wout cls d σ H)
def tTry (K : PySem.W.Frag) (c : Value) (tb : WX → TS) (ts : TS) (Wout : WX) : TS := fun D σ H => tb (wCat K c ts Wout D) D σ H
def tTryAs (K : PySem.W.Frag) (c : Value) (i : Nat) (tb : WX → TS) (ts : TS) (Wout : WX) : TS := fun D σ H => tb (wCatAs K c i ts Wout D) D σ H
section
variable {x n : Str} {c : Value} {i : Nat} {body suite : List Stmt} {b₀ : Stmt} {np pos pos' : Pos} {tb : WX → TS} {ts : TS} {Wout : WX} {D : Ends} {nm : Option Str}
/-- the way from the raise to the clause's own part: one clause -/
theorem try_one (hs : X.stack = X.env :: X.outer) (hf : X.env.frame = some X.env.locals) (hc : Names X x c) (tk : Takes X Wout) {W : WX} {σ : L2.St} {H : Hp} {s : Shared} (I : Inv X pins σ H s)
    (hW : ∀ cls d σ' H', W cls d σ' H' → ∃ b, PySem.W.exmOne X.K cls c = some b ∧ (b = false → Wout cls d σ' H') ∧ (b = true → ∀ (a : Addr) (B : Heap) (sI s' : Shared) (h : Heap), Come X pins a B sI s' h cls d σ' H' →
      codeAny (model X.prog X.w) (X.A.mark (some (.ref a))) (.handlers (.ref a) [.ExceptHandler none nm (b₀ :: suite) pos'] X.env) (fun r s₂ => match r with
        | .ok f => (match nm with
          | none => SP X pins D f s₂
          | some n => wpAny (model X.prog X.w) X.A (do bindName X.env n .none; unbindBehindTheSuite X.env n pos') (fun _ s₃ => SP X pins D f s₃) X.xe s₂)
        | .error x => cameBackBy (model X.prog X.w) X.A X.env X.xe x s₂) { s' with heap := h }))
    (hb : ∀ (pn : List (Addr × Obj)) (xe : Value → Shared → Prop), Takes (X.tr pn xe) W → PassesOwn (model X.prog X.w) X.A X.env xe → PSs (X.tr pn xe) body (tb W)) (h : tb W D σ H) :
    wpAny (model X.prog X.w) X.A (exec (.Try body [.ExceptHandler (some (.Name x np)) nm (b₀ :: suite) pos'] [] [] pos) X.env) (SP X pins D) X.xe s := by
  have ok := I.ok
  have hfr : X.A.frames = some (X.env :: X.outer) := ok.frames.trans (congrArg some hs)
  refine wpAny_Try_except (wpAny_mono ((hb (X.pn ++ pins) _ (fun u s' xx => ?_) PassesOwn.looking).run [] s σ H D (I.toTry _) h) (fun f s1 hsp => ?_) (fun e s1 he => he))
  · obtain ⟨a, B, sI, _, σ', H', cls, d, rfl, J', gr, up, sky, na, os, ag, w⟩ := xx
    have J : Inv X pins σ' H' sI := J'.ofTry ok
    show wpAny _ X.A (noteFrame (.ref a) X.env) _ _ _
    refine Sky.land Zc.steady hfr hf (by rw [← hs]; exact sky) fun h3 fl3 up3 => ?_
    have C : Come X pins a B sI s' h3 cls d σ' H' := ⟨J, gr, by rw [hs]; exact fl3, up.trans up3, na, os, ag⟩
    obtain ⟨b, e1, hno, hyes⟩ := hW cls d σ' H' w
    obtain ⟨oe, vs, he, hz, hd⟩ := C.fly.there
    refine wpAny_handleBy_cons (codeAny_handlers_test ?_) (by intro q; cases q)
    have tyL : PySem.W.Looks (model X.prog X.w) h3 (typeOf (.ref a)) cls := fun A Q E s k q => wpAny_typeOf_ref (k _ _ he) (by rw [hz.1]; exact q)
    have mtL := PySem.W.exm_one (M := model X.prog X.w) C.land.kIn tyL e1
    have look : ∀ {Q : Value → Shared → Prop} {E : Value → Shared → Prop}, Q c { s' with heap := h3 } → wpAny (model X.prog X.w) (X.A.mark (some (.ref a))) (eval (.Name x np) X.env) Q E { s' with heap := h3 } := fun {Q E} q => by
      have S := suite_in (a := a) C.land
      obtain ⟨hg, hdb, hm | ⟨hm, hv, hnn⟩⟩ := hc
      · exact ld_glob (X := X.suite a (X.pn ++ pins)) S hg hm q hdb
      · exact ld_blt (X := X.suite a (X.pn ++ pins)) S hg hm hv q hnn hdb
    refine look (mtL.here ?_)
    cases b with
    | true => exact hyes rfl a B sI s' h3 C
    | false =>
      refine wpAny_handleBy_nil ?_
      obtain ⟨_, _, _, _, _, T, _, _, he', _, hd', h1, _⟩ := id fl3
      unfold PySem.passOn
      refine wpAny_bind (wpAny_field he' hd' h1 ?_)
      rw [if_neg (show ¬ ((Value.ref T == Value.none) = true) from by simp)]
      have out : wpAny (model X.prog X.w) X.A (setFlight (.ref a) X.env.frame) (fun _ s4 => wpAny (model X.prog X.w) X.A (throw (.ref a) : Sem Flow) (SP X pins D) X.xe s4) X.xe { s' with heap := h3 } := by
        rw [hf]
        exact HandSPX.setFlight_upZ fl3 fun h4 hh4 up4 => wpAny_throw (tk _ _ ⟨a, B, sI, pins, σ', H', cls, d, rfl, J, gr, (up.trans up3).trans up4, .inr (.inr (by rw [hs]; exact hh4)), na, os, ag, hno rfl⟩)
      first
        | exact wpAny_bind (wpAny_pure (wpAny_bind out))
        | exact wpAny_bind out
  · cases f with
    | next =>
      obtain ⟨σ', H', J', q⟩ := hsp
      exact wpAny_execs_nil ⟨σ', H', J'.ofTry ok, q⟩
    | ret u =>
      obtain ⟨v, σ', H', J', r, q⟩ := hsp
      exact ⟨v, σ', H', J'.ofTry ok, r, q⟩
    | brk =>
      obtain ⟨σ', H', J', q⟩ := hsp
      exact ⟨σ', H', J'.ofTry ok, q⟩
    | cont =>
      obtain ⟨σ', H', J', q⟩ := hsp
      exact ⟨σ', H', J'.ofTry ok, q⟩
theorem ps_tryC (hs : X.stack = X.env :: X.outer) (hf : X.env.frame = some X.env.locals) (hc : Names X x c) (tk : Takes X Wout)
    (hb : ∀ (W : WX) (pn : List (Addr × Obj)) (xe : Value → Shared → Prop), Takes (X.tr pn xe) W → PassesOwn (model X.prog X.w) X.A X.env xe → PSs (X.tr pn xe) body (tb W))
    (hsu : ∀ (a : Addr) (pn : List (Addr × Obj)), PSs (X.suite a pn) (b₀ :: suite) ts) : PS X (.Try body [.ExceptHandler (some (.Name x np)) none (b₀ :: suite) pos'] [] [] pos) (tTry X.K c tb ts Wout) := by
  refine ⟨fun pins s σ H D I h => try_one (W := wCat X.K c ts Wout D) hs hf hc tk I (fun cls d σ' H' w => ?_) (hb _) h⟩
  obtain ⟨b, e1, hyes, hno⟩ := w
  refine ⟨b, e1, hno, fun eb a B sI s' h3 C => codeAny_handlers_suite ?_⟩
  have fl3 := C.fly
  rw [hs] at fl3
  refine HandSPX.lands_againZ fl3 fun h4 fl4 up4 => ?_
  have C4 : Come X pins a B sI s' h4 cls d σ' H' := ⟨C.inv, C.gr, by rw [hs]; exact fl4, C.up.trans up4, C.no, C.os, C.bare⟩
  refine wpAny_mono ((hsu a (X.pn ++ pins)).run [] _ _ _ _ (suite_in C4.track) (hyes eb a C.no)) (fun f s6 hsp => ?_) (fun _ _ z => False.elim z)
  cases f with
  | next => obtain ⟨σ6, H6, S6, q6⟩ := hsp; exact ⟨_, _, suite_out S6 C.inv.ok, q6⟩
  | ret u => obtain ⟨v6, σ6, H6, S6, r6, q6⟩ := hsp; exact ⟨_, _, _, suite_out S6 C.inv.ok, r6, q6⟩
  | brk => obtain ⟨σ6, H6, S6, q6⟩ := hsp; exact ⟨_, _, suite_out S6 C.inv.ok, q6⟩
  | cont => obtain ⟨σ6, H6, S6, q6⟩ := hsp; exact ⟨_, _, suite_out S6 C.inv.ok, q6⟩
theorem ps_tryCAs (hs : X.stack = X.env :: X.outer) (hf : X.env.frame = some X.env.locals) (hN : X.N.Nodup) (hi : X.N[i]? = some n) (hln : X.env.kindOf n = some .local) (hc : Names X x c) (tk : Takes X Wout)
    (hb : ∀ (W : WX) (pn : List (Addr × Obj)) (xe : Value → Shared → Prop), Takes (X.tr pn xe) W → PassesOwn (model X.prog X.w) X.A X.env xe → PSs (X.tr pn xe) body (tb W))
    (hsu : ∀ (a : Addr) (pn : List (Addr × Obj)), PSs (X.suite a pn) (b₀ :: suite) ts) : PS X (.Try body [.ExceptHandler (some (.Name x np)) (some n) (b₀ :: suite) pos'] [] [] pos) (tTryAs X.K c i tb ts Wout) := by
  refine ⟨fun pins s σ H D I h => try_one (W := wCatAs X.K c i ts Wout D) hs hf hc tk I (fun cls d σ' H' w => ?_) (hb _) h⟩
  obtain ⟨b, e1, hyes, hno⟩ := w
  refine ⟨b, e1, hno, fun eb a B sI s' h3 C => codeAny_handlers_suite_as ?_⟩
  have fl3 := C.fly
  rw [hs] at fl3
  refine HandSPX.lands_againZ fl3 fun h4 fl4 up4 => ?_
  have C4 : Come X pins a B sI s' h4 cls d σ' H' := ⟨C.inv, C.gr, by rw [hs]; exact fl4, C.up.trans up4, C.no, C.os, C.bare⟩
  refine store_ok (X := X.suite a (X.pn ++ pins)) (v := .ref a) (suite_in C4.track) hN hi (.inl hln) rfl (fun s5 S5 => ?_) (.inr hln)
  refine wpAny_mono ((hsu a (X.pn ++ pins)).run [] s5 _ _ _ S5 (hyes eb a C.no)) (fun f s6 hsp => ?_) (fun _ _ z => False.elim z)
  cases f with
  | next => obtain ⟨σ6, H6, S6, q6⟩ := hsp; exact gone_ok (suite_out S6 C.inv.ok) hN hi hln fun s7 J7 => ⟨_, _, J7, q6⟩
  | ret u => obtain ⟨v6, σ6, H6, S6, r6, q6⟩ := hsp; exact gone_ok (suite_out S6 C.inv.ok) hN hi hln fun s7 J7 => ⟨_, _, _, J7, r6, q6⟩
  | brk => obtain ⟨σ6, H6, S6, q6⟩ := hsp; exact gone_ok (suite_out S6 C.inv.ok) hN hi hln fun s7 J7 => ⟨_, _, J7, q6⟩
  | cont => obtain ⟨σ6, H6, S6, q6⟩ := hsp; exact gone_ok (suite_out S6 C.inv.ok) hN hi hln fun s7 J7 => ⟨_, _, J7, q6⟩
end
end
end DL

set_option Elab.async false
set_option linter.all false
set_option maxRecDepth 100000
set_option maxHeartbeats 4000000
/-! Data are told apart. -/
namespace DL
open PySem L2
mutual
def beqD : D → D → Bool
  | .non, .non => true
  | .bl a, .bl b => decide (a = b)
  | .int a, .int b => decide (a = b)
  | .str a, .str b => decide (a = b)
  | .tup a, .tup b => beqL a b
  | .lst a, .lst b => beqL a b
  | .dct a, .dct b => beqP a b
  | .ref a, .ref b => decide (a = b)
  | .ty a, .ty b => decide (a = b)
  | .exc0 a, .exc0 b => decide (a = b)
  | .exc1 c f d, .exc1 c' f' d' => (decide (c = c') && decide (f = f')) && beqD d d'
  | _, _ => false
def beqL : List D → List D → Bool
  | [], [] => true
  | a :: as, b :: bs => beqD a b && beqL as bs
  | _, _ => false
def beqP : List (D × D) → List (D × D) → Bool
  | [], [] => true
  | (a, x) :: as, (b, y) :: bs => (beqD a b && beqD x y) && beqP as bs
  | _, _ => false
end
mutual
theorem beqD_self : ∀ d : D, beqD d d = true
  | .non => by simp [beqD]
  | .bl _ => by simp [beqD]
  | .int _ => by simp [beqD]
  | .str _ => by simp [beqD]
  | .tup a => by simp [beqD, beqL_self a]
  | .lst a => by simp [beqD, beqL_self a]
  | .dct a => by simp [beqD, beqP_self a]
  | .ref _ => by simp [beqD]
  | .ty _ => by simp [beqD]
  | .exc0 _ => by simp [beqD]
  | .exc1 _ _ d => by simp [beqD, beqD_self d]
theorem beqL_self : ∀ d : List D, beqL d d = true
  | [] => by simp [beqL]
  | a :: as => by simp [beqL, beqD_self a, beqL_self as]
theorem beqP_self : ∀ d : List (D × D), beqP d d = true
  | [] => by simp [beqP]
  | (a, x) :: as => by simp [beqP, beqD_self a, beqD_self x, beqP_self as]
end
mutual
theorem eq_of_beqD : ∀ d e : D, beqD d e = true → d = e
  | .non, e, h => by cases e <;> simp [beqD] at h ⊢
  | .bl _, e, h => by cases e <;> simp [beqD] at h ⊢; exact h
  | .int _, e, h => by cases e <;> simp [beqD] at h ⊢; exact h
  | .str _, e, h => by cases e <;> simp [beqD] at h ⊢; exact h
  | .tup a, e, h => by cases e <;> simp [beqD] at h ⊢; exact eq_of_beqL a _ h
  | .lst a, e, h => by cases e <;> simp [beqD] at h ⊢; exact eq_of_beqL a _ h
  | .dct a, e, h => by cases e <;> simp [beqD] at h ⊢; exact eq_of_beqP a _ h
  | .ref _, e, h => by cases e <;> simp [beqD] at h ⊢; exact h
  | .ty _, e, h => by cases e <;> simp [beqD] at h ⊢; exact h
  | .exc0 _, e, h => by cases e <;> simp [beqD] at h ⊢; exact h
  | .exc1 _ _ d, e, h => by cases e <;> simp [beqD] at h ⊢; exact ⟨h.1.1, h.1.2, eq_of_beqD d _ h.2⟩
theorem eq_of_beqL : ∀ d e : List D, beqL d e = true → d = e
  | [], e, h => by cases e <;> simp [beqL] at h ⊢
  | a :: as, e, h => by cases e <;> simp [beqL] at h ⊢; exact ⟨eq_of_beqD a _ h.1, eq_of_beqL as _ h.2⟩
theorem eq_of_beqP : ∀ d e : List (D × D), beqP d e = true → d = e
  | [], e, h => by cases e <;> simp [beqP] at h ⊢
  | (a, x) :: as, e, h => by
    cases e with
    | nil => simp [beqP] at h
    | cons p bs =>
      obtain ⟨b, y⟩ := p
      simp [beqP] at h
      rw [eq_of_beqD a b h.1.1, eq_of_beqD x y h.1.2, eq_of_beqP as bs h.2]
end
instance : DecidableEq D := fun a b => if h : beqD a b = true then .isTrue (eq_of_beqD a b h) else .isFalse fun e => h (e ▸ beqD_self a)
/-! ### dicts as rows of pairs -/
/-- what stands at a key -/
def lkD (kvs : List (D × D)) (k : D) : Option D := (kvs.find? fun kv => decide (kv.1 = k)).map (·.2)
def putD (kvs : List (D × D)) (k v : D) : List (D × D) := if (kvs.any fun kv => decide (kv.1 = k)) = true then kvs.map (fun kv => if kv.1 = k then (kv.1, v) else kv) else kvs ++ [(k, v)]
theorem putD_length (kvs : List (D × D)) (k v : D) : (putD kvs k v).length ≤ kvs.length + 1 := by
  unfold putD
  split
  · rw [List.length_map]; omega
  · rw [List.length_append]; exact Nat.le_refl _
theorem kD_inj {a b : Key} (e : kD a = kD b) : a = b := by
  cases a <;> cases b <;> simp [kD] at e <;> rw [e]
def keyD : D → Option Key
  | .int i => some (.inl i)
  | .str x => some (.inr x)
  | _ => none
theorem keyD_kD {d : D} {k : Key} (e : keyD d = some k) : d = kD k := by
  cases d <;> simp [keyD] at e <;> subst e <;> rfl
variable [Wd]
theorem keyD_v {own : Own} {H : Hp} {v : V} {d : D} {k : L2.Key} (h : Is own H v d) (e : keyD d = some k) : v = kV k := by
  cases h <;> simp [keyD] at e <;> subst e <;> rfl
theorem kv_lk {own : Own} {H : Hp} (k : Key) : ∀ {vs : List (Key × V)} {ds : List (D × D)}, IsKV own H vs ds → (∀ d, lkD ds (kD k) = some d → ∃ v, valV vs k = some v ∧ Is own H v d) ∧ (lkD ds (kD k) = none → valV vs k = none)
  | _, _, .nil => ⟨fun d h => by simp [lkD] at h, fun _ => rfl⟩
  | _, _, @IsKV.cons _ _ _ k' v' vs d' ds h t => by
    have ih := kv_lk k t
    by_cases e : k' = k
    · subst e
      have e1 : lkD ((kD k', d') :: ds) (kD k') = some d' := by simp [lkD]
      rw [e1, valV_pos (p := (k', v')) rfl]
      exact ⟨fun d hd => by cases hd; exact ⟨v', rfl, h⟩, fun z => nomatch z⟩
    · have ne : ¬ kD k' = kD k := fun z => e (kD_inj z)
      have e1 : lkD ((kD k', d') :: ds) (kD k) = lkD ds (kD k) := by simp [lkD, ne]
      rw [e1, valV_neg (p := (k', v')) e]
      exact ih
theorem kv_any {own : Own} {H : Hp} (k : Key) : ∀ {vs : List (Key × V)} {ds : List (D × D)}, IsKV own H vs ds → (vs.any fun kv => decide (kv.1 = k)) = (ds.any fun kv => decide (kv.1 = kD k))
  | _, _, .nil => rfl
  | _, _, @IsKV.cons _ _ _ k' v' vs d' ds h t => by
    rw [List.any_cons, List.any_cons, kv_any k t]
    congr 1
    rw [Bool.eq_iff_iff]
    simp only [decide_eq_true_eq]
    exact ⟨fun e => by rw [e], kD_inj⟩
theorem kv_append {own : Own} {H : Hp} : ∀ {vs ws : List (Key × V)} {ds es : List (D × D)}, IsKV own H vs ds → IsKV own H ws es → IsKV own H (vs ++ ws) (ds ++ es)
  | _, _, _, _, .nil, s => s
  | _, _, _, _, .cons r t, s => .cons r (kv_append t s)
theorem kv_map {own : Own} {H : Hp} {k : Key} {v : V} {d : D} (hv : Is own H v d) : ∀ {vs : List (Key × V)} {ds : List (D × D)}, IsKV own H vs ds → IsKV own H (vs.map fun kv => if kv.1 = k then (kv.1, v) else kv) (ds.map fun kv => if kv.1 = kD k then (kv.1, d) else kv)
  | _, _, .nil => .nil
  | _, _, @IsKV.cons _ _ _ k' v' vs d' ds h t => by
    rw [List.map_cons, List.map_cons]
    by_cases e : k' = k
    · rw [if_pos e, if_pos (by rw [e])]
      exact .cons hv (kv_map hv t)
    · rw [if_neg e, if_neg (fun z => e (kD_inj z))]
      exact .cons h (kv_map hv t)
theorem kv_put {own : Own} {H : Hp} {vs : List (Key × V)} {ds : List (D × D)} {k : Key} {v : V} {d : D} (h : IsKV own H vs ds) (hv : Is own H v d) : IsKV own H (putK vs k v) (putD ds (kD k) d) := by
  unfold putK putD
  rw [kv_any k h]
  split
  · exact kv_map hv h
  · exact kv_append h (.cons hv .nil)
theorem kv_length {own : Own} {H : Hp} : ∀ {vs : List (Key × V)} {ds : List (D × D)}, IsKV own H vs ds → vs.length = ds.length
  | _, _, .nil => rfl
  | _, _, .cons _ t => congrArg Nat.succ (kv_length t)
theorem kn_length {own : Own} {H : Hp} : ∀ {vs : List Ent} {ds : List (D × D)}, IsKN own H vs ds → vs.length = ds.length
  | _, _, .nil => rfl
  | _, _, .cons _ _ _ _ t => congrArg Nat.succ (kn_length t)
theorem kd_is {own : Own} {H : Hp} : ∀ k : Key, Is own H (kV k) (kD k)
  | .inl i => .int i
  | .inr x => .str x
theorem kv_keys {own : Own} {H : Hp} : ∀ {vs : List (Key × V)} {ds : List (D × D)}, IsKV own H vs ds → IsAll own H (vs.map fun kv => kV kv.1) (ds.map (·.1))
  | _, _, .nil => .nil
  | _, _, .cons h t => .cons (kd_is _) (kv_keys t)
theorem kv_vals {own : Own} {H : Hp} : ∀ {vs : List (Key × V)} {ds : List (D × D)}, IsKV own H vs ds → IsAll own H (vs.map (·.2)) (ds.map (·.2))
  | _, _, .nil => .nil
  | _, _, .cons h t => .cons h (kv_vals t)
theorem kn_keys {own : Own} {H : Hp} : ∀ {vs : List Ent} {ds : List (D × D)}, IsKN own H vs ds → IsAll own H (vs.map fun e => V.ref e.2.1) (ds.map (·.1))
  | _, _, .nil => .nil
  | _, _, .cons h _ _ _ t => .cons h (kn_keys t)
theorem kn_vals {own : Own} {H : Hp} : ∀ {vs : List Ent} {ds : List (D × D)}, IsKN own H vs ds → IsAll own H (vs.map (·.2.2)) (ds.map (·.2))
  | _, _, .nil => .nil
  | _, _, .cons _ _ _ h t => .cons h (kn_vals t)
end DL

set_option Elab.async false
set_option linter.all false
set_option maxRecDepth 100000
set_option maxHeartbeats 4000000
/-! Dicts by their entries: list(d), d.items(), d.values(), len(d). -/
namespace DL
open PySem L2 PySem.Spec PyProof.Rows
variable [Wd]
/-- the dict at a has these keys and values, in this order -/
def DRaw (H : Hp) (a : Addr) (ks vs : List V) : Prop := (∃ l : List (Key × V), Rd H a (.dK l) ∧ ks = l.map (fun e => kV e.1) ∧ vs = l.map (·.2)) ∨ ∃ l : List Ent, Rd H a (DnO a l) ∧ ks = l.map (fun e => V.ref e.2.1) ∧ vs = l.map (·.2.2)
theorem raw_is {own : Own} {H : Hp} {v : V} {ds : List (D × D)} (h : IsT own H v (.dct ds)) : ∃ a ks vs, v = .ref a ∧ DRaw H a ks vs ∧ IsAll own H ks (ds.map (·.1)) ∧ IsAll own H vs (ds.map (·.2)) := by
  cases h with
  | dct h1 _ k1 => exact ⟨_, _, _, rfl, .inl ⟨_, h1, rfl, rfl⟩, kv_keys k1, kv_vals k1⟩
  | dcn h1 _ k1 _ => exact ⟨_, _, _, rfl, .inr ⟨_, h1, rfl, rfl⟩, kn_keys k1, kn_vals k1⟩
theorem pairs_vals {P : Program} {w : World} : ∀ {es : List DictEntry} {l : List (Key × V)} {us : List (Key × Value)}, Pairs (mixKind P w) es us → KV l us → Vals (l.map fun e => kV e.1) (es.map (·.key)) ∧ Vals (l.map (·.2)) (es.map (·.val))
  | _, _, _, .nil, .nil => ⟨.nil, .nil⟩
  | _, _, _, .cons h1 h2 t, .cons r rt => by
    obtain ⟨i1, i2⟩ := pairs_vals t rt
    refine ⟨.cons ?_ i1, .cons (by dsimp only; rw [h2]; exact r.2) i2⟩
    dsimp only
    rw [r.1]
    exact relV_key h1
theorem ents_vals {wd : World} : ∀ {l : List Ent} {us : List (NestedKey × Addr × Value)}, Paired RelE l us → Vals (l.map fun e => V.ref e.2.1) ((us.map fun x => (⟨x.1.hash wd, .ref x.2.1, x.2.2⟩ : DictEntry)).map (·.key)) ∧ Vals (l.map (·.2.2)) ((us.map fun x => (⟨x.1.hash wd, .ref x.2.1, x.2.2⟩ : DictEntry)).map (·.val))
  | _, _, .nil => ⟨.nil, .nil⟩
  | _, _, .cons r t => by
    obtain ⟨i1, i2⟩ := ents_vals (wd := wd) t
    refine ⟨.cons ?_ i1, .cons r.2.2 i2⟩
    show Value.ref _ = Value.ref _
    rw [r.2.1]
section
variable {X : Cx} {pins : List (Addr × Obj)} {σ : L2.St} {H : Hp} {s : Shared} {a : Addr} {ks vs : List V}
theorem raw_at (I : Inv X pins σ H s) (h : DRaw H a ks vs) : (a == sysModules) = false ∧ ∃ es ep, s.heap.DictRaw a es ep ∧ es.size ≤ sizeLine ∧ Vals ks (es.toList.map (·.key)) ∧ Vals vs (es.toList.map (·.val)) := by
  rcases h with ⟨l, h, rfl, rfl⟩ | ⟨l, h, rfl, rfl⟩
  · obtain ⟨z, y, us, kv, o, es, ep, g1, g2, g3, g4, g5, g6⟩ := dk_rd I.hok h
    obtain ⟨r1, r2⟩ := pairs_vals g5 kv
    refine ⟨y, es, ep, ⟨o, g1, g2, g3⟩, ?_, r1, r2⟩
    have := r1.length
    simp at this
    omega
  · obtain ⟨⟨z, y, us, pr, o, es, ep, g1, g2, g3, g4, g5⟩, _⟩ := h.ok I.hok
    obtain ⟨r1, r2⟩ := ents_vals (wd := Wd.w) pr
    rw [← g4] at r1 r2
    refine ⟨y, es, ep, ⟨o, g1, g2, g3⟩, ?_, r1, r2⟩
    have := r1.length
    simp at this
    omega
end
theorem vals_at {xs : List V} {us : List Value} (hl : xs.length = us.length) (h : ∀ (j : Nat) (x : V) (u : Value), xs[j]? = some x → us[j]? = some u → RelV x u) : Vals xs us := by
  induction xs generalizing us with
  | nil =>
    cases us with
    | nil => exact .nil
    | cons _ _ => cases hl
  | cons x xs ih =>
    cases us with
    | nil => cases hl
    | cons u us => exact .cons (h 0 x u rfl rfl) (ih (by simpa using hl) fun j y w e1 e2 => h (j + 1) y w (by simpa using e1) (by simpa using e2))
/-- list(d) -/
def rListR : List V → Hp → VK → Prop := fun xs H Q => ∃ a ks vs, xs = [.ref a] ∧ DRaw H a ks vs ∧ ∀ q, H q = none → Q (.ref q) (upd H q (.lst ks))
theorem call_listR {X : Cx} (hc : X.calm = true) : CallR X (.type "list") rListR := by
  intro pins s σ H xs us Q I r h
  obtain ⟨a, ks, vs, rfl, hd, q⟩ := h
  rw [Vals.ref1 r]
  obtain ⟨y, es, ep, hraw, hz, r1, _⟩ := raw_at I hd
  refine PySem.W.kdl_call (KdlSrc.rawDict y) (I.ok.hd hc) hraw hz fun h2 tk acc c hk hS hacc => ?_
  have e1 : ks.length = acc.size := by
    have := r1.length
    simp at this
    rw [this, hacc.1]
  refine ⟨.ref s.heap.objs.size, _, I.laid (o := .lst ks) hk (Nat.le_refl _) ⟨by have := r1.length; simp at this; omega, acc.toList, c, vals_at (by simpa using e1) fun j x u g1 g2 => ?_, by simpa using hS⟩, rfl, q _ (I.hok.fresh (Nat.le_refl _))⟩
  obtain ⟨hi, e2⟩ := hacc.2 j u (by rw [← Array.getElem?_toList]; exact g2)
  obtain ⟨w', g3, g4⟩ := Vals.get r1 g1
  have e3 : (es.toList.map (·.key))[j]? = some es[j].key := by simp [hi]
  rw [e3] at g3
  cases g3
  rw [e2]
  exact g4
end DL

set_option Elab.async false
set_option linter.all false
set_option maxRecDepth 100000
set_option maxHeartbeats 4000000
/-! Dicts of any of our keys: d[k], k in d, d[k] = v, d.get. -/
namespace DL
open PySem L2 PySem.Spec PyProof.Rows
variable [Wd]
mutual
theorem nest_is {P : Program} {w : World} {own : Own} {H : Hp} {h : Heap} (ok : HOk P w H h) : ∀ (d : D) {v : V} {u : Value} {k : NestedKey}, Is own H v d → keyOf d = some k → RelV v u → NestedIs h k u
  | .non, _, _, _, hi, hk, r => by
    cases hi
    simp [keyOf] at hk
    subst hk
    cases (show _ = Value.none from r)
    exact .none
  | .int i, _, _, _, hi, hk, r => by
    cases hi
    simp [keyOf] at hk
    subst hk
    obtain ⟨t, rfl⟩ := r
    exact .int i t
  | .str x, _, _, _, hi, hk, r => by
    cases hi
    simp [keyOf] at hk
    subst hk
    obtain ⟨t, rfl⟩ := r
    exact .text x t
  | .tup ds, _, _, _, hi, hk, r => by
    obtain ⟨ks, rfl, hks⟩ := keyOf_tup hk
    cases hi with
    | tup ha n hs =>
      cases r
      obtain ⟨_, its, rv, o, h1, h2, n, h3⟩ := ok _ _ ha
      exact .tup h1 h2 h3 (by simpa using nest_all ok ds hs hks rv)
  | .bl _, _, _, _, _, hk, _ => by simp [keyOf] at hk
  | .lst _, _, _, _, _, hk, _ => by simp [keyOf] at hk
  | .dct _, _, _, _, _, hk, _ => by simp [keyOf] at hk
  | .ref _, _, _, _, _, hk, _ => by simp [keyOf] at hk
  | .ty _, _, _, _, _, hk, _ => by simp [keyOf] at hk
  | .exc0 _, _, _, _, _, hk, _ => by simp [keyOf] at hk
  | .exc1 _ _ _, _, _, _, _, hk, _ => by simp [keyOf] at hk
theorem nest_all {P : Program} {w : World} {own : Own} {H : Hp} {h : Heap} (ok : HOk P w H h) : ∀ (ds : List D) {vs : List V} {us : List Value} {ks : List NestedKey}, IsAll own H vs ds → keysOf ds = some ks → Vals vs us → NestedAll h ks us
  | [], _, _, _, hi, hk, r => by
    cases hi
    simp [keysOf] at hk
    subst hk
    cases r
    exact .nil
  | d :: ds, _, _, _, hi, hk, r => by
    obtain ⟨k, ks', rfl, h1, h2⟩ := keysOf_cons hk
    cases hi with
    | cons i1 i2 =>
      cases r with
      | cons r1 r2 => exact .cons (nest_is ok d i1 h1 r1) (nest_all ok ds i2 h2 r2)
end
/-- a tuple that may be a key -/
def KyAt (H : Hp) (b : Addr) (k : NestedKey) : Prop := ∃ own d, Is own H (.ref b) d ∧ keyOf d = some k ∧ k.depth ≤ 8
/-- a dict of tuple keys (the empty one, too) -/
def DnAt (H : Hp) (a : Addr) (xs : List Ent) : Prop := (∃ own ds, Rd H a (DnO a xs) ∧ IsKN own H xs ds) ∨ (xs = [] ∧ Rd H a (.dK []))
def lkE (xs : List Ent) (k : NestedKey) : Option V := (xs.find? fun e => decide (e.1 = k)).map (·.2.2)
theorem ky_is {P : Program} {w : World} {H : Hp} {h : Heap} {b : Addr} {k : NestedKey} (ok : HOk P w H h) (e : KyAt H b k) : (nestedKind P w).is h k b := by
  obtain ⟨own, d, hi, hk, hd⟩ := e
  exact ⟨nest_is ok d hi hk rfl, hd⟩
theorem kn_ky {own : Own} {H : Hp} : ∀ {xs : List Ent} {ds : List (D × D)}, IsKN own H xs ds → ∀ e, e ∈ xs → KyAt H e.2.1 e.1
  | _, _, .nil, e, he => by cases he
  | _, _, .cons h1 h2 h3 _ t, e, he => by
    rcases List.mem_cons.mp he with rfl | he
    · exact ⟨own, _, h1, h2, h3⟩
    · exact kn_ky t e he
theorem relE_mem : ∀ {xs : List Ent} {us : List (NestedKey × Addr × Value)}, Paired RelE xs us → ∀ x, x ∈ us → ∃ e, e ∈ xs ∧ RelE e x
  | _, _, .nil, x, hx => by cases hx
  | _, _, .cons r t, x, hx => by
    rcases List.mem_cons.mp hx with rfl | hx
    · exact ⟨_, List.mem_cons_self, r⟩
    · obtain ⟨e, h1, h2⟩ := relE_mem t x hx
      exact ⟨e, List.mem_cons_of_mem _ h1, h2⟩
theorem lkE_at {k : NestedKey} : ∀ {xs : List Ent} {us : List (NestedKey × Addr × Value)}, Paired RelE xs us → RelO (lkE xs k) ((atKey us k).map (·.2))
  | _, _, .nil => trivial
  | _, _, @Paired.cons _ _ _ p q ps qs r t => by
    have ih := lkE_at (k := k) t
    by_cases e : p.1 = k
    · have e1 : lkE (p :: ps) k = some p.2.2 := by simp [lkE, e]
      have e2 : atKey (q :: qs) k = some q.2 := by simp [atKey, r.1.symm.trans e]
      rw [e1, e2]
      exact r.2.2
    · have e1 : lkE (p :: ps) k = lkE ps k := by simp [lkE, e]
      have ne : ¬ q.1 = k := fun z => e (r.1.trans z)
      have e2 : atKey (q :: qs) k = atKey qs k := by simp [atKey, ne]
      rw [e1, e2]
      exact ih
theorem dn_at {P : Program} {H : Hp} {h : Heap} {a : Addr} {xs : List Ent} (ok : HOk P Wd.w H h) (e : DnAt H a xs) : xs.length ≤ sizeLine ∧ (a == sysModules) = false ∧ ∃ us, Paired RelE xs us ∧ h.DictOfH (nestedKind P Wd.w) a us := by
  rcases e with ⟨own, ds, e, hk⟩ | ⟨rfl, e⟩
  · obtain ⟨⟨z, y, us, pr, o, es, ep, g1, g2, g3, g4, g5⟩, _⟩ := e.ok ok
    refine ⟨z, y, us, pr, o, es, ep, g1, g2, g3, g4, fun x hx => ?_, g5⟩
    obtain ⟨en, h1, h2⟩ := relE_mem pr x hx
    have := ky_is ok (kn_ky hk en h1)
    rw [← h2.1, ← h2.2.1]
    exact this
  · obtain ⟨z, y, us, kv, o, es, ep, g1, g2, g3, _, g5, _⟩ := dk_rd ok e
    cases kv
    refine ⟨Nat.zero_le _, y, [], .nil, o, es, ep, g1, g2, g3, ?_, (fun x hx => by cases hx), List.nodup_nil⟩
    generalize es.toList = l at g5
    cases g5
    rfl
/-- what the dict at a holds at the key y -/
def DGetA (H : Hp) (a : Addr) (y : V) (r : Option V) : Prop := (∃ kvs k, Rd H a (.dK kvs) ∧ y = kV k ∧ r = valV kvs k) ∨ ∃ xs k b, DnAt H a xs ∧ y = .ref b ∧ KyAt H b k ∧ r = lkE xs k
section
variable {X : Cx} {pins : List (Addr × Obj)} {σ : L2.St} {H : Hp} {s : Shared} {a : Addr} {y v : V} {u r : Value} {o : Option V} {A : Around} {E : Value → Shared → Prop}
theorem nroom (hu : A.units + 64 < cLine) {P : Program} {w : World} : (nestedKind P w).room A.in1 := by
  show A.units + 1 + 8 < cLine
  omega
/-- the item itself, as a value that is known -/
theorem getA_val (I : Inv X pins σ H s) (hw : X.w = Wd.w) (hu : A.units + 64 < cLine) (g : DGetA H a y (some v)) (ry : RelV y u) : s.TypeIs (.ref a) "dict" ∧ ∃ w', RelV v w' ∧ ∀ Q : Value → Shared → Prop, (∀ s', Inv X pins σ H s' → Q w' s') → wpAny (model X.prog X.w) A (getItem (.ref a) u) Q E s := by
  rcases g with ⟨kvs, k, e, rfl, l⟩ | ⟨xs, k, b, e, rfl, eb, l⟩
  · obtain ⟨z, hd, vs, rel, dd⟩ := dk_rd I.hok e
    obtain ⟨w', hw', rw'⟩ := RelO.some_of (v := v) (o := valueAt vs k) (by rw [l]; exact rel.val k)
    exact ⟨dd.typeIs, w', rw', fun Q h => wpAny_getItem_of (kV_is ry) dd.mapOf hw' (h _ (I.tok _))⟩
  · cases (show u = Value.ref b from ry)
    have ok := I.hok
    rw [hw] at ok
    obtain ⟨z, hd, us, rel, dd⟩ := dn_at ok e
    obtain ⟨w', hw', rw'⟩ := RelO.some_of (v := v) (o := (atKey us k).map (·.2)) (by rw [l]; exact lkE_at rel)
    obtain ⟨p, hp, hp2⟩ := Option.map_eq_some_iff.mp hw'
    refine ⟨dd.typeIs, w', rw', fun Q h => ?_⟩
    rw [hw]
    refine wpAny_getItem_heap (nroom hu) (ky_is ok eb) dd hp ?_
    rw [hp2]
    exact h _ (I.tok _)
theorem inA (I : Inv X pins σ H s) (hw : X.w = Wd.w) (hu : A.units + 64 < cLine) (g : DGetA H a y o) (ry : RelV y u) {Q : Value → Shared → Prop} (h : ∀ s', Inv X pins σ H s' → Q (.bool o.isSome) s') : wpAny (model X.prog X.w) A (compareOp .In u (.ref a)) Q E s := by
  rcases g with ⟨kvs, k, e, rfl, l⟩ | ⟨xs, k, b, e, rfl, eb, l⟩
  · exact d_in (by omega) I (.inl ⟨kvs, k, e, rfl, l⟩) ry h
  · cases (show u = Value.ref b from ry)
    have ok := I.hok
    rw [hw] at ok
    obtain ⟨z, hd, us, rel, dd⟩ := dn_at ok e
    rw [hw]
    refine wpAny_in_heap (nroom hu) (ky_is ok eb) hd dd ?_
    have q := (lkE_at (k := k) rel).isSome_eq
    rw [Option.isSome_map] at q
    rw [← q, ← l]
    exact h _ (I.tok _)
theorem notInA (I : Inv X pins σ H s) (hw : X.w = Wd.w) (hu : A.units + 64 < cLine) (g : DGetA H a y o) (ry : RelV y u) {Q : Value → Shared → Prop} (h : ∀ s', Inv X pins σ H s' → Q (.bool (!o.isSome)) s') : wpAny (model X.prog X.w) A (compareOp .NotIn u (.ref a)) Q E s := by
  rcases g with ⟨kvs, k, e, rfl, l⟩ | ⟨xs, k, b, e, rfl, eb, l⟩
  · exact d_notIn (by omega) I (.inl ⟨kvs, k, e, rfl, l⟩) ry h
  · cases (show u = Value.ref b from ry)
    have ok := I.hok
    rw [hw] at ok
    obtain ⟨z, hd, us, rel, dd⟩ := dn_at ok e
    rw [hw]
    refine wpAny_notIn_heap (nroom hu) (ky_is ok eb) hd dd ?_
    have q := (lkE_at (k := k) rel).isSome_eq
    rw [Option.isSome_map] at q
    rw [← q, ← l]
    exact h _ (I.tok _)
end
def rDIx : R2 := fun x y H Q => ∃ a v, x = .ref a ∧ DGetA H a y (some v) ∧ Q v H
def rDIn : R2 := fun y x H Q => ∃ a o, x = .ref a ∧ DGetA H a y o ∧ Q (.bl o.isSome) H
def rDNot : R2 := fun y x H Q => ∃ a o, x = .ref a ∧ DGetA H a y o ∧ Q (.bl (!o.isSome)) H
theorem ix_dict {X : Cx} (hw : X.w = Wd.w) (hu : X.A.units + 64 < cLine) : IxR X rDIx := by
  intro value slice pins s σ H x y v u Q I rx ry h hs
  obtain ⟨a, z, rfl, g, q⟩ := h
  cases rx
  obtain ⟨ty, w', rw', fin⟩ := getA_val (E := X.xe) I hw hu g ry
  exact subscriptTail_builtinR (x := w') ty PySem.F.slot_dict_getitem.lookup (fin (fun r s' => r = w' ∧ EP X pins σ Q r s') fun s' I' => ⟨rfl, z, H, I', rw', q⟩) hs
theorem op_din {X : Cx} (hw : X.w = Wd.w) (hu : X.A.units + 64 < cLine) : OpR X (compareOp .In) rDIn := by
  intro pins s σ H x y v u Q I rx ry h
  obtain ⟨a, o, rfl, g, q⟩ := h
  cases ry
  exact inA I hw hu g rx fun s' I' => ⟨.bl _, H, I', rfl, q⟩
theorem op_dnot {X : Cx} (hw : X.w = Wd.w) (hu : X.A.units + 64 < cLine) : OpR X (compareOp .NotIn) rDNot := by
  intro pins s σ H x y v u Q I rx ry h
  obtain ⟨a, o, rfl, g, q⟩ := h
  cases ry
  exact notInA I hw hu g rx fun s' I' => ⟨.bl _, H, I', rfl, q⟩
end DL

set_option Elab.async false
set_option linter.all false
set_option maxRecDepth 100000
set_option maxHeartbeats 4000000
/-! The abstract layer: readings over data and a store of owned objects. -/
namespace AL
open PySem L2 DL
variable [Wd]

/-! ### the store -/
inductive Cell where
  | lst (ds : List D)
  | dct (kvs : List (D × D))
  | ins (C dx : Addr) (fs : List (Str × D))
  | own (x : Addr)
  | draw (c : Addr)
  | sub (x : Addr)
abbrev Sto := Addr → Option Cell
inductive IsFs (own : Own) (H : Hp) : List (Str × V) → List (Str × D) → Prop
  | nil : IsFs own H [] []
  | cons {k : Str} {v : V} {vs : List (Str × V)} {d : D} {ds : List (Str × D)} : Is own H v d → IsFs own H vs ds → IsFs own H ((k, v) :: vs) ((k, d) :: ds)
theorem IsFs.kp {own own' : Own} {H H' : Hp} (k : Kp own H own' H') : ∀ {vs : List (Str × V)} {ds : List (Str × D)}, IsFs own H vs ds → IsFs own' H' vs ds
  | _, _, .nil => .nil
  | _, _, .cons h t => .cons (h.kp k) (t.kp k)
theorem IsKV.kp {own own' : Own} {H H' : Hp} {vs : List (Key × V)} {ds : List (D × D)} (h : IsKV own H vs ds) (k : Kp own H own' H') : IsKV own' H' vs ds := IsKV.mono k ds h
theorem IsKN.kp {own own' : Own} {H H' : Hp} {vs : List Ent} {ds : List (D × D)} (h : IsKN own H vs ds) (k : Kp own H own' H') : IsKN own' H' vs ds := IsKN.mono k ds h
/-- what stands in the heap for a cell -/
def CellOk (own : Own) (H : Hp) (a : Addr) : Cell → Prop
  | .lst ds => ∃ vs, H a = some (.lst vs) ∧ IsAll own H vs ds
  | .dct kvs => (∃ vs, H a = some (.dK vs) ∧ IsKV own H vs kvs) ∨ ∃ vs, H a = some (DnO a vs) ∧ IsKN own H vs kvs ∧ kvs ≠ []
  | .ins C dx fs => ∃ vs, H a = some (.ins C dx vs) ∧ IsFs own H vs fs
  | .own x => H a = some (.own x)
  | .draw c => Drw a c H
  | .sub _ => ∃ o, H a = some o
theorem CellOk.some {own : Own} {H : Hp} {a : Addr} {c : Cell} (h : CellOk own H a c) : ∃ o, H a = some o := by
  cases c with
  | lst ds => obtain ⟨vs, h, _⟩ := h; exact ⟨_, h⟩
  | dct kvs => rcases h with ⟨vs, h, _⟩ | ⟨vs, h, _⟩ <;> exact ⟨_, h⟩
  | ins C dx fs => obtain ⟨vs, h, _⟩ := h; exact ⟨_, h⟩
  | own x => exact ⟨_, h⟩
  | draw c => obtain ⟨ns, at', seed, h, _⟩ := h; exact ⟨_, h⟩
  | sub x => exact h
theorem CellOk.same {own : Own} {H H' : Hp} {a : Addr} {c : Cell} (h : CellOk own H a c) (e : Same H H') : CellOk own H' a c := by
  cases c with
  | lst ds => obtain ⟨vs, h, k⟩ := h; exact ⟨vs, e _ _ h, k.same e⟩
  | dct kvs =>
    rcases h with ⟨vs, h, k⟩ | ⟨vs, h, k, ne⟩
    · exact .inl ⟨vs, e _ _ h, IsKV.kp k (Kp.same e)⟩
    · exact .inr ⟨vs, e _ _ h, IsKN.kp k (Kp.same e), ne⟩
  | ins C dx fs => obtain ⟨vs, h, k⟩ := h; exact ⟨vs, e _ _ h, k.kp (Kp.same e)⟩
  | own x => exact e _ _ h
  | draw c => exact Drw.same h e
  | sub x => obtain ⟨o, h⟩ := h; exact ⟨o, e _ _ h⟩
/-- the cells of a store, and the callers' own objects fr, which stand as in H0 -/
def ownG (fr : Own) (Γ : Sto) : Own := fun a => fr a ∨ Γ a ≠ none
structure InvG (fr : Own) (H0 : Hp) (Γ : Sto) (H : Hp) : Prop where
  frame : ∀ a, fr a → Γ a = none ∧ ∃ o, H0 a = some o ∧ H a = some o
  cell : ∀ a c, Γ a = some c → CellOk (ownG fr Γ) H a c
  sub : ∀ a c, Γ a = some (.draw c) → Γ c = some (.sub a)
def JG (fr : Own) (H0 : Hp) : Ifc Sto where
  own := ownG fr
  inv := InvG fr H0
  ok := fun Γ H i a h e => by
    rcases h with h | h
    · obtain ⟨_, o, _, h2⟩ := i.frame a h
      rw [h2] at e; cases e
    · cases hc : Γ a with
      | none => exact h hc
      | some c =>
        obtain ⟨o, ho⟩ := (i.cell a c hc).some
        rw [ho] at e; cases e
  stab := fun Γ H H' i e => ⟨fun a h => by
      obtain ⟨n, o, h1, h2⟩ := i.frame a h
      exact ⟨n, o, h1, e _ _ h2⟩, fun a c h => (i.cell a c h).same e, i.sub⟩
theorem CellOk.mv {own own' : Own} {H H' : Hp} {a : Addr} {c : Cell} (h : CellOk own H a c) (k : Kp own H own' H') (e : H' a = H a) (es : ∀ b, c = .draw b → H' b = H b) : CellOk own' H' a c := by
  cases c with
  | lst ds => obtain ⟨vs, h, q⟩ := h; exact ⟨vs, e.trans h, q.kp k⟩
  | dct kvs =>
    rcases h with ⟨vs, h, q⟩ | ⟨vs, h, q, ne⟩
    · exact .inl ⟨vs, e.trans h, IsKV.kp q k⟩
    · exact .inr ⟨vs, e.trans h, IsKN.kp q k, ne⟩
  | ins C dx fs => obtain ⟨vs, h, q⟩ := h; exact ⟨vs, e.trans h, q.kp k⟩
  | own x => exact e.trans h
  | draw b =>
    obtain ⟨ns, at', seed, h1, h2, r⟩ := h
    exact ⟨ns, at', seed, e.trans h1, (es b rfl).trans h2, r⟩
  | sub x => obtain ⟨o, h⟩ := h; exact ⟨o, e.trans h⟩
/-- the heap, or who owns, otherwise; the owned objects as they were -/
theorem InvG.mv {fr fr' : Own} {H0 H0' H H' : Hp} {Γ : Sto} (i : InvG fr H0 Γ H) (k : Kp (ownG fr Γ) H (ownG fr' Γ) H') (e : ∀ a, Γ a ≠ none → H' a = H a) (f : ∀ a, fr' a → Γ a = none ∧ ∃ o, H0' a = some o ∧ H' a = some o) : InvG fr' H0' Γ H' :=
  ⟨f, fun a c h => (i.cell a c h).mv k (e a (by rw [h]; exact fun z => nomatch z)) fun b hb => e b (by rw [i.sub a b (hb ▸ h)]; exact fun z => nomatch z), i.sub⟩

/-! ### exceptions in the air -/
inductive IsX (own : Own) (H : Hp) : Value → Option Addr → D → Prop
  | zero {c : Addr} : IsX own H (.ref c) none (.exc0 c)
  | one {c dx : Addr} {f : Str} {v : V} {d : D} : H dx = some (.xd [(f, v)]) → ¬ own dx → Is own H v d → IsX own H (.ref c) (some dx) (.exc1 c f d)
theorem IsX.kp {own own' : Own} {H H' : Hp} {cls : Value} {dd : Option Addr} {x : D} (h : IsX own H cls dd x) (k : Kp own H own' H') : IsX own' H' cls dd x := by
  cases h with
  | zero => exact .zero
  | one h n i => exact .one (k _ _ h n).1 (k _ _ h n).2 (i.kp k)
/-- its class -/
def clsD : D → Addr
  | .exc0 c => c
  | .exc1 c _ _ => c
  | _ => 0
theorem IsX.cls {own : Own} {H : Hp} {cls : Value} {dd : Option Addr} {x : D} (h : IsX own H cls dd x) : cls = .ref (clsD x) := by cases h <;> rfl
theorem IsX.caught {own : Own} {H : Hp} {cls : Value} {dd : Option Addr} {x : D} {a : Addr} (o : OwnOk own H) (h : IsX own H cls dd x) (n : H a = none) : Is own (upd H a (Caught cls dd a)) (.ref a) x := by
  cases h with
  | zero => exact .exc0 upd_same (o.new n)
  | one h m i =>
    have ne := ne_of_none h n
    exact .exc1 upd_same (o.new n) (by rw [upd_ne ne]; exact h) m (i.same (same_new n))
section
variable {τ : Type}
abbrev EX (τ : Type) := D → DL.Env → τ → Prop
/-- the interface with a wish for exceptions -/
def ex (J : Ifc τ) (W : WX) (E : EX τ) : Ifc τ where
  own := J.own
  inv := fun s H => J.inv s H ∧ ∀ x cls d σ' δ' s' H', Kp (J.own s) H (J.own s') H' → J.inv s' H' → EnvR (J.own s') H' σ' δ' → IsX (J.own s') H' cls d x → E x δ' s' → W cls d σ' H'
  ok := fun s H i => J.ok s H i.1
  stab := fun s H H' i e => ⟨J.stab s H H' i.1 e, fun x cls d σ' δ' s' H'' k => i.2 x cls d σ' δ' s' H'' ((Kp.same e).trans k)⟩
variable {J : Ifc τ} {W : WX} {E : EX τ} {δ : DL.Env} {s : τ}
theorem ex_inv {s' : τ} {H H' : Hp} (i : (ex J W E).inv s H) (k : Kp (J.own s) H (J.own s') H') (i' : J.inv s' H') : (ex J W E).inv s' H' := ⟨i', fun x cls d σ' δ' s2 H2 k2 => i.2 x cls d σ' δ' s2 H2 (k.trans k2)⟩
theorem ev_ex {t : TE} {P : D → τ → Prop} (h : Ev J t δ s P) : Ev (ex J W E) t δ s P := fun σ H En i Q q => h σ H En i.1 Q fun v d s' H' k i' is p => q v d s' H' k (ex_inv i k i') is p
end

/-! ### abstract readings -/
abbrev QV := D → Sto → Prop
abbrev QX := D → DL.Env → Sto → Prop
abbrev AE := DL.Env → Sto → QV → QX → Prop
abbrev AT := DL.Env → Sto → (Bool → Sto → Prop) → QX → Prop
abbrev AA := DL.Env → Sto → (List D → Sto → Prop) → QX → Prop
abbrev AO := DL.Env → Sto → (Option Int → Sto → Prop) → QX → Prop
structure AEnds where
  nx : DL.Env → Sto → Prop
  rt : D → Sto → Prop
  bk : DL.Env → Sto → Prop
  ct : DL.Env → Sto → Prop
  ex : QX
abbrev AS := AEnds → DL.Env → Sto → Prop
abbrev AG := D → DL.Env → (DL.Env → Prop) → Prop
/-- a def: arguments, store, what is wanted of its end and of its exception -/
abbrev AF := List D → Sto → QV → (D → Sto → Prop) → Prop
abbrev JX (fr : Own) (H0 : Hp) (W : WX) (X : QX) : Ifc Sto := ex (JG fr H0) W X
def post (Po : AEnds) : Post Sto := { nx := Po.nx, rt := Po.rt, bk := Po.bk, ct := Po.ct }
def SE (t : WX → TE) (u : AE) : Prop := ∀ (fr : Own) (H0 : Hp) (W : WX) (δ : DL.Env) (Γ : Sto) (P : QV) (X : QX), u δ Γ P X → Ev (JX fr H0 W X) (t W) δ Γ P
def ST (t : WX → TT) (u : AT) : Prop := ∀ (fr : Own) (H0 : Hp) (W : WX) (δ : DL.Env) (Γ : Sto) (P : Bool → Sto → Prop) (X : QX), u δ Γ P X → Et (JX fr H0 W X) (t W) δ Γ P
def SA (t : WX → TA) (u : AA) : Prop := ∀ (fr : Own) (H0 : Hp) (W : WX) (δ : DL.Env) (Γ : Sto) (P : List D → Sto → Prop) (X : QX), u δ Γ P X → Ea (JX fr H0 W X) (t W) δ Γ P
def SO (t : WX → TO) (u : AO) : Prop := ∀ (fr : Own) (H0 : Hp) (W : WX) (δ : DL.Env) (Γ : Sto) (P : Option Int → Sto → Prop) (X : QX), u δ Γ P X → ∀ (σ : L2.St) (H : Hp), EnvR (ownG fr Γ) H σ δ → (JX fr H0 W X).inv Γ H → ∀ Q : Option Int → Hp → Prop, (∀ o Γ' H', Kp (ownG fr Γ) H (ownG fr Γ') H' → (JX fr H0 W X).inv Γ' H' → P o Γ' → Q o H') → t W σ H Q
def SS (t : WX → TS) (u : AS) : Prop := ∀ (fr : Own) (H0 : Hp) (W : WX) (δ : DL.Env) (Γ : Sto) (Po : AEnds), u Po δ Γ → Rn (JX fr H0 W Po.ex) (t W) δ Γ (post Po)
def SG (g : TG) (u : AG) : Prop := ∀ (own : Own) (H : Hp) (v : V) (d : D) (σ : L2.St) (δ : DL.Env) (Q : L2.St → Hp → Prop), OwnOk own H → Is own H v d → EnvR own H σ δ → u d δ (fun δ' => ∀ σ' H', Same H H' → EnvR own H' σ' δ' → Q σ' H') → g v σ H Q

/-! ### owned objects looked at -/
def rs (Γ : Sto) : D → D
  | .ref p => match Γ p with
    | some (.lst ds) => .lst ds
    | some (.dct kvs) => .dct kvs
    | _ => .ref p
  | d => d
theorem rs_ok {fr : Own} {H0 : Hp} {Γ : Sto} {H : Hp} {v : V} {d : D} (i : InvG fr H0 Γ H) (h : Is (ownG fr Γ) H v d) : IsT (ownG fr Γ) H v (rs Γ d) := by
  cases h with
  | ref a =>
    show IsT _ H (.ref a) (match Γ a with | some (.lst ds) => .lst ds | some (.dct kvs) => .dct kvs | _ => .ref a)
    cases hc : Γ a with
    | none => exact .ref a
    | some c =>
      cases c with
      | lst ds => obtain ⟨vs, h1, h2⟩ := i.cell a _ hc; exact .lst h1 trivial h2
      | dct kvs =>
        rcases i.cell a _ hc with ⟨vs, h1, h2⟩ | ⟨vs, h1, h2, ne⟩
        · exact .dct (.inl h1) trivial h2
        · exact .dcn (.inl h1) trivial h2 ne
      | ins C dx fs => exact .ref a
      | own x => exact .ref a
      | draw c => exact .ref a
      | sub x => exact .ref a
  | non => exact .non
  | bl b => exact .bl b
  | int i => exact .int i
  | str x => exact .str x
  | tup h1 n1 a1 => exact .tup h1 n1 a1
  | lst h1 n1 a1 => exact .lst h1 trivial a1
  | dct h1 n1 a1 => exact .dct (.inr ⟨_, h1⟩) trivial a1
  | dcn h1 n1 a1 ne => exact .dcn (.inr ⟨_, h1⟩) trivial a1 ne
  | ty n => exact .ty n
  | exc0 h1 n1 => exact .exc0 h1 n1
  | exc1 h1 n1 h2 n2 i => exact .exc1 h1 n1 h2 n2 i
theorem rs_all {fr : Own} {H0 : Hp} {Γ : Sto} {H : Hp} (i : InvG fr H0 Γ H) : ∀ {vs : List V} {ds : List D}, IsAll (ownG fr Γ) H vs ds → IsTAll (ownG fr Γ) H vs (ds.map (rs Γ))
  | _, _, .nil => .nil
  | _, _, .cons h t => .cons (rs_ok i h) (rs_all i t)
end AL

set_option Elab.async false
set_option linter.all false
set_option maxRecDepth 100000
set_option maxHeartbeats 4000000
/-! The abstract layer: expressions. -/
namespace AL
open PySem L2 DL
variable [Wd]
abbrev A2 := D → D → (D → Prop) → Prop
abbrev A1 := D → (D → Prop) → Prop
abbrev AC := List D → (D → Prop) → Prop
abbrev AL3 := D → Option Int → Option Int → (D → Prop) → Prop
def SOp (r : R2) (o : A2) : Prop := ∀ d e Q, o d e Q → ∃ z, RvP r d e z ∧ Q z
def SUn (r : V → Hp → VK → Prop) (o : A1) : Prop := ∀ d Q, o d Q → ∃ z, RuP r d z ∧ Q z
def SCb (r : List V → Hp → VK → Prop) (o : AC) : Prop := ∀ ds Q, o ds Q → ∃ z, RcP r ds z ∧ Q z
def SSl (r : V → Option Int → Option Int → Hp → VK → Prop) (o : AL3) : Prop := ∀ d lo hi Q, o d lo hi Q → ∃ z, RsP r d lo hi z ∧ Q z
def onB (z : D) (f : Bool → Prop) : Prop := match z with
  | .bl b => f b
  | _ => False
theorem onB_iff {z : D} {f : Bool → Prop} (h : onB z f) : ∃ b, z = .bl b ∧ f b := by
  cases z with
  | bl b => exact ⟨b, rfl, h⟩
  | _ => exact False.elim h
/-- by truth -/
def by2 (k : Bool) (p q : Prop) : Prop := (k = true → p) ∧ (k = false → q)

def aC (d : D) : AE := fun _ Γ P _ => P d Γ
def aVar (i : Nat) : AE := fun δ Γ P _ => match δ[i]? with
  | some (some d) => P d Γ
  | _ => False
def aOp (o : A2) (a b : AE) : AE := fun δ Γ P X => a δ Γ (fun d Γ1 => b δ Γ1 (fun e Γ2 => o (rs Γ2 d) (rs Γ2 e) (fun z => P z Γ2)) X) X
def aUn (o : A1) (a : AE) : AE := fun δ Γ P X => a δ Γ (fun d Γ1 => o (rs Γ1 d) (fun z => P z Γ1)) X
def aChain (o o' : A2) (a b c : AE) : AE := fun δ Γ P X => a δ Γ (fun d Γ1 => b δ Γ1 (fun e Γ2 => o (rs Γ2 d) (rs Γ2 e) (fun z => onB z fun k => by2 k (c δ Γ2 (fun f Γ3 => o' (rs Γ3 e) (rs Γ3 f) (fun z' => P z' Γ3)) X) (P (.bl false) Γ2))) X) X
def aAndV (a b : AE) : AE := fun δ Γ P X => a δ Γ (fun d Γ1 => onB d fun k => by2 k (b δ Γ1 P X) (P (.bl false) Γ1)) X
def aOrV (a b : AE) : AE := fun δ Γ P X => a δ Γ (fun d Γ1 => onB d fun k => by2 k (P (.bl true) Γ1) (b δ Γ1 P X)) X
def aNotV (a : AE) : AE := fun δ Γ P X => a δ Γ (fun d Γ1 => onB d fun k => P (.bl (!k)) Γ1) X
def aIf (t : AT) (a b : AE) : AE := fun δ Γ P X => t δ Γ (fun k Γ1 => by2 k (a δ Γ1 P X) (b δ Γ1 P X)) X
def aTest (a : AE) : AT := fun δ Γ P X => a δ Γ (fun d Γ1 => onB d fun k => P k Γ1) X
def aNot (t : AT) : AT := fun δ Γ P X => t δ Γ (fun k Γ1 => P (!k) Γ1) X
def aAnd (t u : AT) : AT := fun δ Γ P X => t δ Γ (fun k Γ1 => by2 k (u δ Γ1 P X) (P false Γ1)) X
def aOr (t u : AT) : AT := fun δ Γ P X => t δ Γ (fun k Γ1 => by2 k (P true Γ1) (u δ Γ1 P X)) X
def aYes : AT := fun _ Γ P _ => P true Γ
def aNil : AA := fun _ Γ P _ => P [] Γ
def aCons (a : AE) (r : AA) : AA := fun δ Γ P X => a δ Γ (fun d Γ1 => r δ Γ1 (fun ds Γ2 => P (d :: ds) Γ2) X) X
def aTup (a : AA) : AE := fun δ Γ P X => a δ Γ (fun ds Γ1 => ds.length ≤ sizeLine ∧ P (.tup ds) Γ1) X
def aLst (a : AA) : AE := fun δ Γ P X => a δ Γ (fun ds Γ1 => ds.length ≤ sizeLine ∧ P (.lst ds) Γ1) X
def aCB (o : AC) (a : AA) : AE := fun δ Γ P X => a δ Γ (fun ds Γ1 => o (ds.map (rs Γ1)) (fun z => P z Γ1)) X
def aNoPart : AO := fun _ Γ P _ => P none Γ
def aPart (a : AE) : AO := fun δ Γ P X => a δ Γ (fun d Γ1 => match d with
  | .int i => P (some i) Γ1
  | _ => False) X
def aSl (o : AL3) (a : AE) (l h : AO) : AE := fun δ Γ P X => a δ Γ (fun d Γ1 => l δ Γ1 (fun lo Γ2 => h δ Γ2 (fun hi Γ3 => o (rs Γ3 d) lo hi (fun z => P z Γ3)) X) X) X
def aCall (F : AF) (a : AA) : AE := fun δ Γ P X => a δ Γ (fun ds Γ1 => F ds Γ1 P (fun x Γ' => X x δ Γ')) X

section
variable {δ : DL.Env} {fr : Own} {H0 : Hp} {W : WX} {X : QX} {Γ Γ1 : Sto} {H H1 : Hp}
theorem inv_ok (i : (JX fr H0 W X).inv Γ H) : OwnOk (ownG fr Γ) H := (JG fr H0).ok Γ H i.1
end
section
variable {t : WX → TE} {ta tb tc : WX → TE} {ua ub uc : AE} {tt tu : WX → TT} {ut uu : AT} {tA tB' : WX → TA} {uA uB : AA}
theorem se_p {t0 : TE} {u : AE} (h : ∀ δ Γ P X, u δ Γ P X → ∃ d, EvP t0 δ d ∧ P d Γ) : SE (fun _ => t0) u := fun fr H0 W δ Γ P X hu => by
  obtain ⟨d, h1, h2⟩ := h δ Γ P X hu
  exact ev_p h1 h2
theorem se_int {i : Int} : SE (fun _ => tC (.int i)) (aC (.int i)) := se_p fun δ Γ P X h => ⟨_, p_int, h⟩
theorem se_str {x : Str} : SE (fun _ => tC (.str x)) (aC (.str x)) := se_p fun δ Γ P X h => ⟨_, p_str, h⟩
theorem se_bl {b : Bool} : SE (fun _ => tC (.bl b)) (aC (.bl b)) := se_p fun δ Γ P X h => ⟨_, p_bl, h⟩
theorem se_non : SE (fun _ => tC .non) (aC .non) := se_p fun δ Γ P X h => ⟨_, p_non, h⟩
theorem se_ty {n : String} : SE (fun _ => tC (.ty n)) (aC (.ty n)) := se_p fun δ Γ P X h => ⟨_, p_ty, h⟩
theorem se_ref {a : Addr} : SE (fun _ => tC (.ref a)) (aC (.ref a)) := se_p fun δ Γ P X h => ⟨_, fun _ _ H _ _ _ q => q _ H (Same.refl H) (.ref a), h⟩
theorem se_var {i : Nat} : SE (fun _ => tVar i) (aVar i) := se_p fun δ Γ P X h => by
  unfold aVar at h
  split at h
  · rename_i d hd
    exact ⟨d, p_var hd, h⟩
  · exact h.elim
theorem se_op {r : R2} {o : A2} (so : SOp r o) (sa : SE ta ua) (sb : SE tb ub) : SE (fun W => tOp r (ta W) (tb W)) (aOp o ua ub) := fun fr H0 W δ Γ P X h σ H E i Q q =>
  sa fr H0 W δ Γ _ X h σ H E i _ fun v d Γ1 H1 k1 i1 is1 p1 => sb fr H0 W δ Γ1 _ X p1 σ H1 (E.kp k1) i1 _ fun u e Γ2 H2 k2 i2 is2 p2 => by
    obtain ⟨z, rz, pz⟩ := so _ _ _ p2
    exact rz (ownG fr Γ2) H2 v u (inv_ok i2) (rs_ok i2.1 (is1.kp k2)) (rs_ok i2.1 is2) Q fun w H3 s3 is3 => q w z Γ2 H3 ((k1.trans k2).trans (Kp.same s3)) ((JX fr H0 W X).stab _ _ _ i2 s3) is3 pz
theorem se_un {r : V → Hp → VK → Prop} {o : A1} (so : SUn r o) (sa : SE ta ua) : SE (fun W => tUn r (ta W)) (aUn o ua) := fun fr H0 W δ Γ P X h σ H E i Q q =>
  sa fr H0 W δ Γ _ X h σ H E i _ fun v d Γ1 H1 k1 i1 is1 p1 => by
    obtain ⟨z, rz, pz⟩ := so _ _ p1
    exact rz (ownG fr Γ1) H1 v (inv_ok i1) (rs_ok i1.1 is1) Q fun w H3 s3 is3 => q w z Γ1 H3 (k1.trans (Kp.same s3)) ((JX fr H0 W X).stab _ _ _ i1 s3) is3 pz
theorem se_then {r : V → Hp → VK → Prop} {o : A1} (so : SUn r o) (sa : SE ta ua) : SE (fun W => tThen (ta W) r) (aUn o ua) := se_un so sa
theorem se_chain {r r' : R2} {o o' : A2} (so : SOp r o) (so' : SOp r' o') (sa : SE ta ua) (sb : SE tb ub) (sc : SE tc uc) : SE (fun W => tChain r r' (ta W) (tb W) (tc W)) (aChain o o' ua ub uc) := fun fr H0 W δ Γ P X h σ H E i Q q =>
  sa fr H0 W δ Γ _ X h σ H E i _ fun v d Γ1 H1 k1 i1 is1 p1 => sb fr H0 W δ Γ1 _ X p1 σ H1 (E.kp k1) i1 _ fun u e Γ2 H2 k2 i2 is2 p2 => by
    obtain ⟨z, rz, pz⟩ := so _ _ _ p2
    obtain ⟨b, rfl, pb⟩ := onB_iff pz
    refine rz (ownG fr Γ2) H2 v u (inv_ok i2) (rs_ok i2.1 (is1.kp k2)) (rs_ok i2.1 is2) _ fun w H3 s3 is3 => ?_
    have i3 := (JX fr H0 W X).stab _ _ _ i2 s3
    have k3 := (k1.trans k2).trans (Kp.same s3)
    cases is3
    refine ⟨b, rfl, ?_⟩
    cases b with
    | false => exact q _ _ Γ2 H3 k3 i3 (.bl false) (pb.2 rfl)
    | true =>
      show tc W σ H3 _
      refine sc fr H0 W δ Γ2 _ X (pb.1 rfl) σ H3 (E.kp k3) i3 _ fun w' f Γ4 H4 k4 i4 is4 p4 => ?_
      obtain ⟨z', rz', pz'⟩ := so' _ _ _ p4
      exact rz' (ownG fr Γ4) H4 u w' (inv_ok i4) (rs_ok i4.1 ((is2.same s3).kp k4)) (rs_ok i4.1 is4) Q fun y H5 s5 is5 => q y z' Γ4 H5 ((k3.trans k4).trans (Kp.same s5)) ((JX fr H0 W X).stab _ _ _ i4 s5) is5 pz'
theorem se_andV (sa : SE ta ua) (sb : SE tb ub) : SE (fun W => tAndV (ta W) (tb W)) (aAndV ua ub) := fun fr H0 W δ Γ P X h =>
  ev_and (T1 := fun k Γ1 => by2 k (ub δ Γ1 P X) (P (.bl false) Γ1)) ((sa fr H0 W δ Γ _ X h).imp fun d Γ1 z => onB_iff z) (fun Γ1 z => sb fr H0 W δ Γ1 P X (z.1 rfl)) fun Γ1 z => z.2 rfl
theorem se_orV (sa : SE ta ua) (sb : SE tb ub) : SE (fun W => tOrV (ta W) (tb W)) (aOrV ua ub) := fun fr H0 W δ Γ P X h σ H E i Q q =>
  sa fr H0 W δ Γ _ X h σ H E i _ fun v d Γ1 H1 k1 i1 is1 p1 => by
    obtain ⟨b, rfl, p⟩ := onB_iff p1
    cases is1
    refine ⟨b, rfl, ?_⟩
    cases b with
    | false => exact sb fr H0 W δ Γ1 P X (p.2 rfl) σ H1 (E.kp k1) i1 Q fun v d Γ2 H2 k2 i2 is2 p2 => q v d Γ2 H2 (k1.trans k2) i2 is2 p2
    | true => exact q _ _ Γ1 H1 k1 i1 (.bl true) (p.1 rfl)
theorem se_notV (sa : SE ta ua) : SE (fun W => tNotV (ta W)) (aNotV ua) := fun fr H0 W δ Γ P X h σ H E i Q q =>
  sa fr H0 W δ Γ _ X h σ H E i _ fun v d Γ1 H1 k1 i1 is1 p1 => by
    obtain ⟨b, rfl, p⟩ := onB_iff p1
    cases is1
    exact ⟨b, rfl, q _ _ Γ1 H1 k1 i1 (.bl _) p⟩
theorem se_if (st : ST tt ut) (sa : SE ta ua) (sb : SE tb ub) : SE (fun W => tIf (tt W) (ta W) (tb W)) (aIf ut ua ub) := fun fr H0 W δ Γ P X h =>
  ev_if (st fr H0 W δ Γ _ X h) (fun Γ1 z => sa fr H0 W δ Γ1 P X (z.1 rfl)) (fun Γ1 z => sb fr H0 W δ Γ1 P X (z.2 rfl))
theorem st_test (sa : SE ta ua) : ST (fun W => tTest (ta W)) (aTest ua) := fun fr H0 W δ Γ P X h => et_test ((sa fr H0 W δ Γ _ X h).imp fun d Γ1 z => onB_iff z)
theorem st_B (sa : SE ta ua) : ST (fun W => tB (ta W)) (aTest ua) := fun fr H0 W δ Γ P X h => et_B ((sa fr H0 W δ Γ _ X h).imp fun d Γ1 z => onB_iff z)
theorem st_not (st : ST tt ut) : ST (fun W => tNot (tt W)) (aNot ut) := fun fr H0 W δ Γ P X h => et_not (st fr H0 W δ Γ _ X h)
theorem st_and (st : ST tt ut) (su : ST tu uu) : ST (fun W => tAnd (tt W) (tu W)) (aAnd ut uu) := fun fr H0 W δ Γ P X h => et_and (st fr H0 W δ Γ _ X h) (fun Γ1 z => su fr H0 W δ Γ1 P X (z.1 rfl)) fun Γ1 z => z.2 rfl
theorem st_or (st : ST tt ut) (su : ST tu uu) : ST (fun W => tOr (tt W) (tu W)) (aOr ut uu) := fun fr H0 W δ Γ P X h => et_or (st fr H0 W δ Γ _ X h) (fun Γ1 z => su fr H0 W δ Γ1 P X (z.2 rfl)) fun Γ1 z => z.1 rfl
theorem st_yes : ST (fun _ => tYes) aYes := fun fr H0 W δ Γ P X h => pt_yes.et h
theorem sa_nil : SA (fun _ => tNil) aNil := fun fr H0 W δ Γ P X h => ea_nil h
theorem sa_cons (sa : SE ta ua) (sr : SA tA uA) : SA (fun W => tCons (ta W) (tA W)) (aCons ua uA) := fun fr H0 W δ Γ P X h => ea_cons (sa fr H0 W δ Γ _ X h) fun d Γ1 p => sr fr H0 W δ Γ1 _ X p
theorem se_tup (sa : SA tA uA) : SE (fun W => tTup (tA W)) (aTup uA) := fun fr H0 W δ Γ P X h => ev_tup (sa fr H0 W δ Γ _ X h)
theorem se_lst (sa : SA tA uA) : SE (fun W => tLst (tA W)) (aLst uA) := fun fr H0 W δ Γ P X h => ev_lst (sa fr H0 W δ Γ _ X h)
theorem se_cb {r : List V → Hp → VK → Prop} {o : AC} (so : SCb r o) (sa : SA tA uA) : SE (fun W => tCB r (tA W)) (aCB o uA) := fun fr H0 W δ Γ P X h σ H E i Q q =>
  sa fr H0 W δ Γ _ X h σ H E i _ fun vs ds Γ1 H1 k1 i1 is1 p1 => by
    obtain ⟨z, rz, pz⟩ := so _ _ p1
    exact rz (ownG fr Γ1) H1 vs (inv_ok i1) (rs_all i1.1 is1) Q fun w H3 s3 is3 => q w z Γ1 H3 (k1.trans (Kp.same s3)) ((JX fr H0 W X).stab _ _ _ i1 s3) is3 pz
theorem so_none : SO (fun _ => tNoPart) aNoPart := fun fr H0 W δ Γ P X h σ H E i Q q => q none Γ H Kp.refl i h
theorem so_some (sa : SE ta ua) : SO (fun W => tPart (ta W)) (aPart ua) := fun fr H0 W δ Γ P X h σ H E i Q q =>
  sa fr H0 W δ Γ _ X h σ H E i _ fun v d Γ1 H1 k1 i1 is1 p1 => by
    cases d with
    | int n =>
      cases is1
      exact ⟨n, rfl, q _ Γ1 H1 k1 i1 p1⟩
    | _ => exact p1.elim
theorem se_sl {r : V → Option Int → Option Int → Hp → VK → Prop} {o : AL3} {tl th : WX → TO} {ul uh : AO} (so : SSl r o) (sa : SE ta ua) (sl : SO tl ul) (sh : SO th uh) : SE (fun W => tSl r (ta W) (tl W) (th W)) (aSl o ua ul uh) := fun fr H0 W δ Γ P X h σ H E i Q q =>
  sa fr H0 W δ Γ _ X h σ H E i _ fun v d Γ1 H1 k1 i1 is1 p1 => sl fr H0 W δ Γ1 _ X p1 σ H1 (E.kp k1) i1 _ fun lo Γ2 H2 k2 i2 p2 => sh fr H0 W δ Γ2 _ X p2 σ H2 ((E.kp k1).kp k2) i2 _ fun hi Γ3 H3 k3 i3 p3 => by
    obtain ⟨z, rz, pz⟩ := so _ _ _ _ p3
    exact rz (ownG fr Γ3) H3 v (inv_ok i3) (rs_ok i3.1 ((is1.kp k2).kp k3)) Q fun w H4 s4 is4 => q w z Γ3 H4 (((k1.trans k2).trans k3).trans (Kp.same s4)) ((JX fr H0 W X).stab _ _ _ i3 s4) is4 pz

/-! ### calls -/
def spA (F : AF) : Sp := fun vs H Q E => ∃ (fr : Own) (Γ : Sto) (ds : List D) (P : QV) (X : D → Sto → Prop), InvG fr H Γ H ∧ IsAll (ownG fr Γ) H vs ds ∧ F ds Γ P X ∧ (∀ v d Γ' H', Kp (ownG fr Γ) H (ownG fr Γ') H' → InvG fr H Γ' H' → Is (ownG fr Γ') H' v d → P d Γ' → Q v H') ∧
  (∀ x cls dd Γ' H', Kp (ownG fr Γ) H (ownG fr Γ') H' → InvG fr H Γ' H' → IsX (ownG fr Γ') H' cls dd x → X x Γ' → E cls dd H')
theorem InvG.now {fr : Own} {H0 H : Hp} {Γ : Sto} (i : InvG fr H0 Γ H) : InvG fr H Γ H := ⟨fun a h => by
  obtain ⟨n, o, _, h2⟩ := i.frame a h
  exact ⟨n, o, h2, h2⟩, i.cell, i.sub⟩
theorem InvG.then {fr : Own} {H0 H H' : Hp} {Γ Γ' : Sto} (i : InvG fr H0 Γ H) (j : InvG fr H Γ' H') : InvG fr H0 Γ' H' := ⟨fun a h => by
  obtain ⟨_, o, h1, h2⟩ := i.frame a h
  obtain ⟨n, o', h3, h4⟩ := j.frame a h
  rw [h2] at h3
  cases h3
  exact ⟨n, o, h1, h4⟩, j.cell, j.sub⟩
theorem call_run {F : AF} {fr : Own} {H0 : Hp} {W : WX} {X : QX} {δ : DL.Env} {Γ Γ1 : Sto} {P : QV} {σ : L2.St} {H H1 : Hp} {Q : VK} {vs : List V} {ds : List D} (E : EnvR (ownG fr Γ) H σ δ) (q : ∀ v d Γ' H', Kp (ownG fr Γ) H (ownG fr Γ') H' → (JX fr H0 W X).inv Γ' H' → Is (ownG fr Γ') H' v d → P d Γ' → Q v H')
    (k1 : Kp (ownG fr Γ) H (ownG fr Γ1) H1) (i1 : (JX fr H0 W X).inv Γ1 H1) (is1 : IsAll (ownG fr Γ1) H1 vs ds) (hF : F ds Γ1 P (fun x Γ' => X x δ Γ')) : spA F vs H1 Q (WE W σ) :=
  ⟨fr, Γ1, ds, P, _, i1.1.now, is1, hF, fun v d Γ' H' k i is p => q v d Γ' H' (k1.trans k) (ex_inv i1 k (i1.1.then i)) is p,
    fun x cls dd Γ' H' k i isx hx => i1.2 x cls dd σ δ Γ' H' k (i1.1.then i) ((E.kp k1).kp k) isx hx⟩
theorem se_call {F : AF} (sa : SA tA uA) : SE (fun W => tCallS (spA F) (WE W) (tA W)) (aCall F uA) := fun fr H0 W δ Γ P X h σ H E i Q q =>
  sa fr H0 W δ Γ _ X h σ H E i _ fun vs ds Γ1 H1 k1 i1 is1 p1 => call_run E q k1 i1 is1 p1
/-- arguments by their places in a list -/
def pick {α : Type} (perm : List Nat) (l : List α) : List α := perm.filterMap (l[·]?)
theorem all_pick {own : Own} {H : Hp} {vs : List V} {ds : List D} (h : IsAll own H vs ds) : ∀ perm : List Nat, IsAll own H (pick perm vs) (pick perm ds)
  | [] => .nil
  | i :: perm => by
    have ih := all_pick h perm
    unfold AL.pick at ih ⊢
    rw [List.filterMap_cons, List.filterMap_cons]
    cases e : ds[i]? with
    | some d =>
      obtain ⟨v, hv, is⟩ := h.get e
      rw [hv]
      exact .cons is ih
    | none =>
      have : vs[i]? = none := by
        rw [List.getElem?_eq_none_iff] at e ⊢
        rw [h.length]
        exact e
      rw [this]
      exact ih
theorem paired_get : ∀ {vs : List V} {us : List Value} {i : Nat} {v : V}, Vals vs us → vs[i]? = some v → ∃ u, us[i]? = some u ∧ RelV v u
  | _, _, _, _, .nil, e => by simp at e
  | _, _, 0, _, .cons r _, e => by simp at e; subst e; exact ⟨_, rfl, r⟩
  | _, _, i + 1, v, .cons _ t, e => by
    obtain ⟨u, h1, h2⟩ := paired_get (i := i) (v := v) t (by simpa using e)
    exact ⟨u, by simpa using h1, h2⟩
theorem vals_pick {vs : List V} {us : List Value} (h : Vals vs us) : ∀ perm : List Nat, Vals (pick perm vs) (pick perm us)
  | [] => .nil
  | i :: perm => by
    have ih := vals_pick h perm
    unfold AL.pick at ih ⊢
    rw [List.filterMap_cons, List.filterMap_cons]
    cases e : vs[i]? with
    | some v =>
      obtain ⟨u, hu, r⟩ := paired_get h e
      rw [hu]
      exact .cons r ih
    | none =>
      have : us[i]? = none := by
        rw [List.getElem?_eq_none_iff] at e ⊢
        rw [← h.length]
        exact e
      rw [this]
      exact ih
/-- f(.., k = v, ..) -/
def tCallK (n m : Nat) (sp : Sp) (perm : List Nat) (E : L2.St → XK) (t tk : TA) : TE := fun σ H Q => t σ H fun vs H1 => tk σ H1 fun zs H2 => vs.length = n ∧ zs.length = m ∧ sp (pick perm (vs ++ zs)) H2 Q (E σ)
def aCallK (n m : Nat) (F : AF) (perm : List Nat) (a k : AA) : AE := fun δ Γ P X => a δ Γ (fun ds Γ1 => k δ Γ1 (fun es Γ2 => ds.length = n ∧ es.length = m ∧ F (pick perm (ds ++ es)) Γ2 P (fun x Γ' => X x δ Γ')) X) X
theorem se_callK {F : AF} {n m : Nat} {perm : List Nat} (sa : SA tA uA) (sk : SA tB' uB) : SE (fun W => tCallK n m (spA F) perm (WE W) (tA W) (tB' W)) (aCallK n m F perm uA uB) := fun fr H0 W δ Γ P X h σ H E i Q q =>
  sa fr H0 W δ Γ _ X h σ H E i _ fun vs ds Γ1 H1 k1 i1 is1 p1 => sk fr H0 W δ Γ1 _ X p1 σ H1 (E.kp k1) i1 _ fun zs es Γ2 H2 k2 i2 is2 ⟨l1, l2, p2⟩ =>
    ⟨by rw [is1.length]; exact l1, by rw [is2.length]; exact l2, call_run E q (k1.trans k2) i2 (all_pick ((is1.kp k2).append is2) perm) p2⟩
end
end AL

set_option Elab.async false
set_option linter.all false
set_option maxRecDepth 100000
set_option maxHeartbeats 4000000
/-! The abstract layer: walks, comprehensions. -/
namespace AL
open PySem L2 DL PySem.Spec PyProof.Rows
variable [Wd]

/-! ### what is walked: a list, a tuple, a text -/
def iSeq (K : PySem.W.Frag) (te : TE) : TI := fun σ H R => te σ H fun x H1 => (∃ a, x = .ref a ∧ (∃ xs, SqL K H1 a xs) ∧ R (Itl K a) H1) ∨ ((∃ a, x = .ref a ∧ (∃ xs, SqT K H1 a xs) ∧ R (Itt K a) H1) ∨ ∃ y, x = .str y ∧ R (Its y) H1)
theorem pi_seq {X : Cx} {tg l : Expr} {te : TE} (hl : PE X l te) : PI X tg l (iSeq X.K te) := by
  refine ⟨fun pins s σ H R I h => thn (hl.run pins s σ H _ I h) fun v s1 ⟨x, H1, I1, r1, q1⟩ => ?_⟩
  rcases q1 with ⟨a, rfl, ⟨xs, hq⟩, q⟩ | ⟨a, rfl, ⟨xs, hq⟩, q⟩ | ⟨y, rfl, q⟩
  · cases r1
    obtain ⟨its, _, p, _⟩ := I1.list hq
    exact wpAny_pyIter_list p.isList (pi_one (tk := s1.toks) I1 _ (turn_list a _) ⟨_, Heap.get?_push_size _ rfl, rfl, rfl⟩ q)
  · cases r1
    obtain ⟨its, _, p, _⟩ := I1.tuple hq
    exact wpAny_pyIter_tuple (show s1.heap.IsTuple a its.toArray from p) (pi_one (tk := s1.toks) I1 _ (turn_tuple a _) ⟨_, Heap.get?_push_size _ rfl, rfl, rfl⟩ q)
  · obtain ⟨t, rfl⟩ := r1
    cases ha : y.cps.all (· < 128)
    · exact wpAny_pyIter_wide ha (pi_one (tk := s1.toks) I1 _ (turn_str _ y t "str_iterator" (.inr rfl)) ⟨_, Heap.get?_push_size _ rfl, rfl, rfl⟩ q)
    · exact wpAny_pyIter_ascii ha (pi_one (tk := s1.toks) I1 _ (turn_str _ y t "str_ascii_iterator" (.inl rfl)) ⟨_, Heap.get?_push_size _ rfl, rfl, rfl⟩ q)
abbrev AI := DL.Env → Sto → (List D → Sto → Prop) → QX → Prop
/-- what is walked, item by item; a turn may make new objects -/
def WalkE (own : Own) (H1 : Hp) (J : It) (xs : List D) : Prop :=
  Walk J xs.length (fun H' => ∀ a o, H1 a = some o → ¬ own a → H' a = some o) (fun i H x H' => Same H H' ∧ ∃ d, xs[i]? = some d ∧ ∀ own' : Own, OwnOk own' H → Kp own H1 own' H → Is own' H' x d)
theorem WalkE.of {own : Own} {H1 : Hp} {J : It} {xs : List D} (w : WalkD own H1 J xs) : WalkE own H1 J xs := w.mono (fun H h => h) fun i H x H' hi h ⟨e, d, hd, is⟩ => by
  subst e
  exact ⟨Same.refl _, d, hd, fun own' o k => is.kp k⟩
def IoE {τ : Type} (J : Ifc τ) (wi : TI) (δ : DL.Env) (s : τ) (P : List D → τ → Prop) : Prop := ∀ (σ : L2.St) (H : Hp), EnvR (J.own s) H σ δ → J.inv s H → ∀ R : It → Hp → Prop, (∀ I xs s' H', Kp (J.own s) H (J.own s') H' → J.inv s' H' → WalkE (J.own s') H' I xs → P xs s' → R I H') → wi σ H R
def SI (t : WX → TI) (u : AI) : Prop := ∀ (fr : Own) (H0 : Hp) (W : WX) (δ : DL.Env) (Γ : Sto) (P : List D → Sto → Prop) (X : QX), u δ Γ P X → IoE (JX fr H0 W X) (t W) δ Γ P
def itemsOf (d : D) (Q : List D → Prop) : Prop := match d with
  | .lst xs => Q xs
  | .tup xs => Q xs
  | .str x => Q (DL.signs x)
  | _ => False
def aSeqI (a : AE) : AI := fun δ Γ P X => a δ Γ (fun d Γ1 => itemsOf d fun xs => P xs Γ1) X
def aRng (a : AA) : AI := fun δ Γ P X => a δ Γ (fun ds Γ1 => match ds with
  | [.int n] => -(2 ^ 62) ≤ n ∧ n < 2 ^ 62 ∧ P (rng n.toNat) Γ1
  | _ => False) X
theorem walk_lst {K : PySem.W.Frag} {own : Own} {H1 : Hp} {a : Addr} {vs : List V} {xs : List D} (h1 : H1 a = some (.lst vs)) (n1 : ¬ own a) (a1 : IsAll own H1 vs xs) : WalkD own H1 (Itl K a) xs := by
  have hlen := a1.length
  refine ⟨fun i H hi g => ?_, fun H g => ⟨vs, SqL.of (g _ _ h1 n1), by omega⟩, fun i H x H' hi g y => ?_⟩
  · obtain ⟨v, hv⟩ : ∃ v, vs[i]? = some v := ⟨_, List.getElem?_eq_getElem (by omega)⟩
    exact ⟨vs, v, SqL.of (g _ _ h1 n1), hv⟩
  · obtain ⟨e, y⟩ := y
    obtain ⟨d, hd, hi'⟩ := a1.getV (y vs (SqL.of (g _ _ h1 n1)))
    exact ⟨e, d, hd, hi'⟩
theorem walk_tup {K : PySem.W.Frag} {own : Own} {H1 : Hp} {a : Addr} {vs : List V} {xs : List D} (h1 : H1 a = some (.tup vs)) (n1 : ¬ own a) (a1 : IsAll own H1 vs xs) : WalkD own H1 (Itt K a) xs := by
  have hlen := a1.length
  refine ⟨fun i H hi g => ?_, fun H g => ⟨vs, SqT.of (g _ _ h1 n1), by omega⟩, fun i H x H' hi g y => ?_⟩
  · obtain ⟨v, hv⟩ : ∃ v, vs[i]? = some v := ⟨_, List.getElem?_eq_getElem (by omega)⟩
    exact ⟨vs, v, SqT.of (g _ _ h1 n1), hv⟩
  · obtain ⟨e, y⟩ := y
    obtain ⟨d, hd, hi'⟩ := a1.getV (y vs (SqT.of (g _ _ h1 n1)))
    exact ⟨e, d, hd, hi'⟩
theorem walk_str {own : Own} {H1 : Hp} {x : Str} : WalkD own H1 (Its x) (DL.signs x) := by
  have hlen : (DL.signs x).length = x.cps.size := by unfold DL.signs; rw [List.length_map, Array.length_toList]
  refine ⟨fun i H hi g => ?_, fun H g => ?_, fun i H v H' hi g y => ?_⟩
  · show i < x.cps.size
    omega
  · show x.cps.size ≤ (DL.signs x).length
    omega
  · obtain ⟨e, c, hc, hv⟩ := y
    subst hv
    refine ⟨e, _, ?_, .str _⟩
    unfold DL.signs
    rw [List.getElem?_map, Array.getElem?_toList, hc]
    rfl
theorem walk_rng {own : Own} {H1 : Hp} {n : Int} : WalkD own H1 (Itr 0 n.toNat) (rng n.toNat) := by
  refine ⟨fun i H hi g => ?_, fun H g => ?_, fun i H v H' hi g y => ?_⟩
  · rw [rng_length] at hi
    exact hi
  · show n.toNat ≤ (rng n.toNat).length
    rw [rng_length]
    exact Nat.le_refl _
  · obtain ⟨e, hv⟩ := y
    subst hv
    rw [rng_length] at hi
    refine ⟨e, .int (0 + (i : Int)), ?_, .int _⟩
    unfold rng
    rw [List.getElem?_map, List.getElem?_range hi, Int.zero_add]
    rfl
theorem si_seq {K : PySem.W.Frag} {ta : WX → TE} {ua : AE} (sa : SE ta ua) : SI (fun W => iSeq K (ta W)) (aSeqI ua) := fun fr H0 W δ Γ P X h σ H E i R q =>
  sa fr H0 W δ Γ _ X h σ H E i _ fun v d Γ1 H1 k1 i1 is1 p1 => by
    cases d with
    | lst xs =>
      cases is1 with
      | lst h1 n1 a1 => exact .inl ⟨_, rfl, ⟨_, SqL.of h1⟩, q _ xs Γ1 H1 k1 i1 (WalkE.of (walk_lst h1 n1 a1)) p1⟩
    | tup xs =>
      cases is1 with
      | tup h1 n1 a1 => exact .inr (.inl ⟨_, rfl, ⟨_, SqT.of h1⟩, q _ xs Γ1 H1 k1 i1 (WalkE.of (walk_tup h1 n1 a1)) p1⟩)
    | str x =>
      cases is1
      exact .inr (.inr ⟨x, rfl, q _ (DL.signs x) Γ1 H1 k1 i1 (WalkE.of walk_str) p1⟩)
    | _ => exact p1.elim
theorem si_rng {ta : WX → TA} {ua : AA} (sa : SA ta ua) : SI (fun W => iRng1 (ta W)) (aRng ua) := fun fr H0 W δ Γ P X h σ H E i R q =>
  sa fr H0 W δ Γ _ X h σ H E i _ fun vs ds Γ1 H1 k1 i1 is1 p1 => by
    split at p1
    · rename_i n
      obtain ⟨h1, h2, p⟩ := p1
      cases is1 with
      | cons i0 t0 =>
        cases t0
        cases i0
        exact ⟨n, rfl, h1, h2, q _ _ Γ1 H1 k1 i1 (WalkE.of walk_rng) p⟩
    · exact p1.elim

/-! ### targets -/
def SGw (vs : List Nat) (g : TG) (u : AG) : Prop := ∀ (own : Own) (H : Hp) (v : V) (d : D) (σ : L2.St) (δ : DL.Env) (Q : L2.St → Hp → Prop), Is own H v d → EnvR own H σ δ → u d δ (fun δ' => ∀ σ', EnvR own H σ' δ' → wipe σ' vs = wipe σ vs → Q σ' H) → g v σ H Q
def SGws (vs : List Nat) (g : TGs) (u : List D → DL.Env → (DL.Env → Prop) → Prop) : Prop := ∀ (own : Own) (H : Hp) (ws : List V) (ds : List D) (σ : L2.St) (δ : DL.Env) (Q : L2.St → Hp → Prop), IsAll own H ws ds → EnvR own H σ δ → u ds δ (fun δ' => ∀ σ', EnvR own H σ' δ' → wipe σ' vs = wipe σ vs → Q σ' H) → g ws σ H Q
def agN (i : Nat) : AG := fun d δ Q => Q (δ.set i (some d))
def agNil : List D → DL.Env → (DL.Env → Prop) → Prop := fun ds δ Q => ds = [] ∧ Q δ
def agCons (a : AG) (r : List D → DL.Env → (DL.Env → Prop) → Prop) : List D → DL.Env → (DL.Env → Prop) → Prop := fun ds δ Q => match ds with
  | x :: xs => a x δ fun δ' => r xs δ' Q
  | [] => False
def agT (n : Nat) (r : List D → DL.Env → (DL.Env → Prop) → Prop) : AG := fun d δ Q => match d with
  | .tup ds => ds.length = n ∧ r ds δ Q
  | _ => False
theorem wipe_setV {σ : L2.St} {vs : List Nat} {j : Nat} {x : Option V} (hj : j ∈ vs) : wipe (σ.set j x) vs = wipe σ vs := by
  apply List.ext_getElem?
  intro i
  rw [wipe_at, wipe_at, List.length_set]
  by_cases hi : i ∈ vs
  · rw [if_pos hi, if_pos hi]
  · rw [if_neg hi, if_neg hi, List.getElem?_set_ne (fun (e : j = i) => hi (e ▸ hj))]
theorem sg_name {vs : List Nat} {i : Nat} (h : i ∈ vs) : SGw vs (gName i) (agN i) := fun own H v d σ δ Q is E u => u _ (E.set i is) (wipe_setV h)
theorem sg_nil {vs : List Nat} : SGws vs gNil agNil := fun own H ws ds σ δ Q is E ⟨e, u⟩ => by
  subst e
  cases is
  exact ⟨rfl, u σ E rfl⟩
theorem sg_cons {vs : List Nat} {g : TG} {gs : TGs} {u : AG} {us : List D → DL.Env → (DL.Env → Prop) → Prop} (hm : ∀ d δ (P Q : DL.Env → Prop), (∀ δ', P δ' → Q δ') → u d δ P → u d δ Q) (hms : ∀ d δ (P Q : DL.Env → Prop), (∀ δ', P δ' → Q δ') → us d δ P → us d δ Q)
    (h1 : SGw vs g u) (h2 : SGws vs gs us) : SGws vs (gCons g gs) (agCons u us) := fun own H ws ds σ δ Q is E hu => by
  cases is with
  | nil => exact hu.elim
  | cons i0 t0 =>
    refine ⟨_, _, rfl, h1 own H _ _ σ δ _ i0 E (hm _ _ _ _ (fun δ' hp σ' E' e' => ?_) hu)⟩
    exact h2 own H _ _ σ' δ' Q t0 E' (hms _ _ _ _ (fun δ2 hq σ2 E2 e2 => hq σ2 E2 (e2.trans e')) hp)
theorem sg_tup {K : PySem.W.Frag} {vs : List Nat} {n : Nat} {gs : TGs} {us : List D → DL.Env → (DL.Env → Prop) → Prop} (h : SGws vs gs us) : SGw vs (gTup K n gs) (agT n us) := fun own H v d σ δ Q is E hu => by
  cases d with
  | tup ds =>
    cases is with
    | tup h1 n1 a1 => exact ⟨_, _, rfl, SqT.of h1, by rw [a1.length]; exact hu.1, h own H _ _ σ δ Q a1 E hu.2⟩
  | _ => exact hu.elim
theorem ag_mono {i : Nat} : ∀ d δ (P Q : DL.Env → Prop), (∀ δ', P δ' → Q δ') → agN i d δ P → agN i d δ Q := fun _ _ _ _ k h => k _ h
theorem agNil_mono : ∀ d δ (P Q : DL.Env → Prop), (∀ δ', P δ' → Q δ') → agNil d δ P → agNil d δ Q := fun _ _ _ _ k h => ⟨h.1, k _ h.2⟩
theorem agCons_mono {u : AG} {us : List D → DL.Env → (DL.Env → Prop) → Prop} (hm : ∀ d δ (P Q : DL.Env → Prop), (∀ δ', P δ' → Q δ') → u d δ P → u d δ Q) (hms : ∀ d δ (P Q : DL.Env → Prop), (∀ δ', P δ' → Q δ') → us d δ P → us d δ Q) :
    ∀ d δ (P Q : DL.Env → Prop), (∀ δ', P δ' → Q δ') → agCons u us d δ P → agCons u us d δ Q := fun d δ P Q k h => by
  cases d with
  | nil => exact h
  | cons x xs => exact hm _ _ _ _ (fun δ' z => hms _ _ _ _ k z) h
theorem agT_mono {n : Nat} {us : List D → DL.Env → (DL.Env → Prop) → Prop} (hms : ∀ d δ (P Q : DL.Env → Prop), (∀ δ', P δ' → Q δ') → us d δ P → us d δ Q) : ∀ d δ (P Q : DL.Env → Prop), (∀ δ', P δ' → Q δ') → agT n us d δ P → agT n us d δ Q := fun d δ P Q k h => by
  cases d with
  | tup ds => exact ⟨h.1, hms _ _ _ _ k h.2⟩
  | _ => exact h.elim

/-! ### comprehensions -/
/-- no exception leaves a comprehension -/
abbrev W0 : WX := fun _ _ _ _ => False
abbrev X0 : QX := fun _ _ _ => False
def aLcL (g : AG) (t : AT) (e : AE) (δ : DL.Env) : List D → List D → Sto → (List D → Sto → Prop) → Prop
  | [], acc, Γ, P => P acc Γ
  | x :: xs, acc, Γ, P => g x δ fun δ' => t δ' Γ (fun b Γ1 => by2 b (e δ' Γ1 (fun d Γ2 => aLcL g t e δ xs (acc ++ [d]) Γ2 P) X0) (aLcL g t e δ xs acc Γ1 P)) X0
def aLc (i : AI) (g : AG) (t : AT) (e : AE) (vs : List Nat) : AE := fun δ Γ P X => i δ Γ (fun xs Γ1 => xs.length < sizeLine ∧ aLcL g t e (wipeD δ vs) xs [] Γ1 fun ds Γ2 => P (.lst ds) Γ2) X
theorem get_drop {α : Type} {xs : List α} {i : Nat} {x : α} (h : xs[i]? = some x) : xs.drop i = x :: xs.drop (i + 1) := by
  obtain ⟨hi, e⟩ := List.getElem?_eq_some_iff.mp h
  rw [List.drop_eq_getElem_cons hi, e]
theorem plus_shrink {fr : Own} {H0 H1 H : Hp} {Γ : Sto} {Dl : Addr} (i : InvG (fun a => fr a ∨ a = Dl) H0 Γ H) (f : ∀ a, fr a → ∃ o, H1 a = some o ∧ H a = some o) : InvG fr H1 Γ H :=
  i.mv (fun a o ha na => ⟨ha, fun z => na (by
    rcases z with z | z
    · exact .inl (.inl z)
    · exact .inr z)⟩) (fun a _ => rfl) fun a ha => ⟨(i.frame a (.inl ha)).1, f a ha⟩
theorem se_lc {ti : WX → TI} {ui : AI} {g : TG} {ug : AG} {tt : WX → TT} {ut : AT} {te : WX → TE} {ue : AE} {vs : List Nat} (si : SI ti ui) (hm : ∀ d δ (P Q : DL.Env → Prop), (∀ δ', P δ' → Q δ') → ug d δ P → ug d δ Q) (sg : SGw vs g ug) (st : ST tt ut) (se : SE te ue) :
    SE (fun W => tLc (ti W) g (tt W0) (te W0) vs) (aLc ui ug ut ue vs) := fun fr H0 W δ Γ P X h σ H E i Q q =>
  si fr H0 W δ Γ _ X h σ H E i _ fun I xs Γ1 H1 k1 i1 w ⟨hz, p1⟩ => fun Dl hD => by
    have nf : ¬ fr Dl := fun z => by
      obtain ⟨_, o, _, h2⟩ := i1.1.frame Dl z
      rw [hD] at h2; cases h2
    have nD : Γ1 Dl = none := by
      cases hc : Γ1 Dl with
      | none => rfl
      | some c =>
        obtain ⟨o, ho⟩ := (i1.1.cell Dl c hc).some
        rw [hD] at ho; cases ho
    have kD : Kp (ownG fr Γ1) H1 (ownG (fun a => fr a ∨ a = Dl) Γ1) (upd H1 Dl (.lst [])) := fun a o ha na => ⟨same_new hD a o ha, fun z => by
      rcases z with (z | z) | z
      · exact na (.inl z)
      · subst z; rw [hD] at ha; cases ha
      · exact na (.inr z)⟩
    refine lc_it w (fun j H' => ∃ Γ' acc ds, Kp (ownG fr Γ1) H1 (ownG (fun a => fr a ∨ a = Dl) Γ') H' ∧ (∀ a, fr a → ∃ o, H1 a = some o ∧ H' a = some o) ∧ InvG (fun a => fr a ∨ a = Dl) H' Γ' H' ∧ H' Dl = some (.lst acc) ∧ IsAll (ownG (fun a => fr a ∨ a = Dl) Γ') H' acc ds ∧ ds.length ≤ j ∧ aLcL ug ut ue (wipeD δ vs) (xs.drop j) ds Γ' fun ds Γ2 => P (.lst ds) Γ2)
      ⟨Γ1, [], [], kD, fun a ha => ?_, i1.1.mv kD (fun a ha => upd_ne fun z => ha (z ▸ nD)) fun a ha => ?_, upd_same, .nil, Nat.zero_le _, p1⟩ (fun j H' _ ⟨Γ', acc, ds, k, _⟩ a o ha na => (k a o ha na).1) (fun j x H' H'' hj ⟨Γ', acc, ds, k, iv, iv', hl, ia, hn, pv⟩ y => ?_) (fun H' ⟨Γ', acc, ds, k, iv, iv', hl, ia, hn, pv⟩ => ?_)
    · obtain ⟨n, o, _, h2⟩ := i1.1.frame a ha
      exact ⟨o, h2, same_new hD a o h2⟩
    · rcases ha with ha | ha
      · obtain ⟨n, o, _, h2⟩ := i1.1.frame a ha
        exact ⟨n, o, same_new hD a o h2, same_new hD a o h2⟩
      · subst ha
        exact ⟨nD, _, upd_same, upd_same⟩
    · obtain ⟨sm, d, hd', isy⟩ := y
      have is := isy _ ((JG _ _).ok Γ' H' iv') k
      have k := k.trans (Kp.same sm)
      have iv : ∀ a, fr a → ∃ o, H1 a = some o ∧ H'' a = some o := fun a ha => by
        obtain ⟨o, h1, h2⟩ := iv a ha
        exact ⟨o, h1, sm a o h2⟩
      have iv' : InvG (fun a => fr a ∨ a = Dl) H'' Γ' H'' := ((JG (fun a => fr a ∨ a = Dl) H').stab Γ' H' H'' iv' sm).now
      have hl := sm _ _ hl
      have ia := ia.kp (Kp.same (own := ownG (fun a => fr a ∨ a = Dl) Γ') sm)
      rw [get_drop hd'] at pv
      have E' : EnvR (ownG (fun a => fr a ∨ a = Dl) Γ') H'' (wipe σ vs) (wipeD δ vs) := ((E.kp k1).kp k).wipe vs
      refine sg (ownG (fun a => fr a ∨ a = Dl) Γ') H'' x d (wipe σ vs) (wipeD δ vs) _ is E' (hm _ _ _ _ (fun δ2 hq σ2 E2 e2 => ?_) pv)
      refine ⟨e2.trans (by
        apply List.ext_getElem?
        intro n
        rw [wipe_at, wipe_at, wipe_length]
        by_cases hn : n ∈ vs
        · rw [if_pos hn, if_pos hn]
        · rw [if_neg hn, if_neg hn]), ?_⟩
      have ix : (JX (fun a => fr a ∨ a = Dl) H'' W0 X0).inv Γ' H'' := ⟨iv', fun _ _ _ _ _ _ _ _ _ _ _ z => z.elim⟩
      refine st _ H'' W0 δ2 Γ' _ X0 hq σ2 H'' E2 ix _ fun b Γ2 H2 k2 i2 p2 => ?_
      have fr2 : ∀ {Γ3 : Sto} {H3 : Hp}, InvG (fun a => fr a ∨ a = Dl) H'' Γ3 H3 → ∀ a, fr a → ∃ o, H1 a = some o ∧ H3 a = some o := fun {Γ3 H3} j3 a ha => by
        obtain ⟨o, h1, h2⟩ := iv a ha
        obtain ⟨n, o', h3, h4⟩ := j3.frame a (.inl ha)
        rw [h2] at h3
        cases h3
        exact ⟨o, h1, h4⟩
      cases b with
      | false =>
        obtain ⟨_, o, ho, ho'⟩ := i2.1.frame Dl (.inr rfl)
        rw [hl] at ho
        cases ho
        exact ⟨Γ2, acc, ds, k.trans k2, fr2 i2.1, i2.1.now, ho', ia.kp k2, by omega, p2.2 rfl⟩
      | true =>
        show te W0 σ2 H2 _
        refine se _ H'' W0 δ2 Γ2 _ X0 (p2.1 rfl) σ2 H2 (E2.kp k2) i2 _ fun v d2 Γ4 H4 k4 i4 is4 p4 => ?_
        obtain ⟨nD4, o, ho, ho'⟩ := i4.1.frame Dl (.inr rfl)
        rw [hl] at ho
        cases ho
        have ia4 : IsAll (ownG (fun a => fr a ∨ a = Dl) Γ4) H4 acc ds := (ia.kp k2).kp k4
        have hlen := ia4.length
        have kk : Kp (ownG (fun a => fr a ∨ a = Dl) Γ4) H4 (ownG (fun a => fr a ∨ a = Dl) Γ4) (upd H4 Dl (.lst (acc ++ [v]))) := fun a o ha na => ⟨by rw [upd_ne (fun z => na (.inl (.inr z)))]; exact ha, na⟩
        refine ⟨acc, ho', by rw [hlen]; omega, Γ4, acc ++ [v], ds ++ [d2], ((k.trans k2).trans k4).trans kk, fun a ha => ?_, i4.1.mv kk (fun a ha => upd_ne fun z => ha (z ▸ nD4)) fun a ha => ?_, upd_same, (ia4.kp kk).append (IsAll.one (is4.kp kk)), by rw [List.length_append, List.length_singleton]; omega, p4⟩
        · obtain ⟨o, h1, h2⟩ := fr2 i4.1 a ha
          have ne : a ≠ Dl := fun z => nf (z ▸ ha)
          exact ⟨o, h1, by rw [upd_ne ne]; exact h2⟩
        · obtain ⟨n, o, h1, h2⟩ := i4.1.frame a ha
          by_cases ea : a = Dl
          · subst ea
            exact ⟨n, _, upd_same, upd_same⟩
          · exact ⟨n, o, by rw [upd_ne ea]; exact h2, by rw [upd_ne ea]; exact h2⟩
    · have kk : Kp (ownG (fun a => fr a ∨ a = Dl) Γ') H' (ownG fr Γ') H' := fun a o ha na => ⟨ha, fun z => na (by
        rcases z with z | z
        · exact .inl (.inl z)
        · exact .inr z)⟩
      rw [List.drop_length] at pv
      have nD' := (iv'.frame Dl (.inr rfl)).1
      have kq := (k1.trans k).trans kk
      refine q (.ref Dl) (.lst ds) Γ' H' kq (ex_inv i kq (i1.1.then (plus_shrink iv' iv))) (.lst hl (fun z => ?_) (ia.kp kk)) pv
      rcases z with z | z
      · exact nf z
      · exact z nD'
end AL

set_option Elab.async false
set_option linter.all false
set_option maxRecDepth 100000
set_option maxHeartbeats 4000000
/-! The abstract layer: statements, defs. -/
namespace AL
open PySem L2 DL
variable [Wd]

def aNext : AS := fun Po δ Γ => Po.nx δ Γ
def aSeq (a b : AS) : AS := fun Po δ Γ => a { Po with nx := b Po } δ Γ
def aRet (a : AE) : AS := fun Po δ Γ => a δ Γ Po.rt Po.ex
def aRetN : AS := fun Po _ Γ => Po.rt .non Γ
def aDrop (a : AE) : AS := fun Po δ Γ => a δ Γ (fun _ Γ1 => Po.nx δ Γ1) Po.ex
def aAsg (a : AE) (g : AG) : AS := fun Po δ Γ => a δ Γ (fun d Γ1 => g d δ fun δ' => Po.nx δ' Γ1) Po.ex
def aIfS (t : AT) (a b : AS) : AS := fun Po δ Γ => t δ Γ (fun k Γ1 => by2 k (a Po δ Γ1) (b Po δ Γ1)) Po.ex
def aBreak : AS := fun Po δ Γ => Po.bk δ Γ
def aCont : AS := fun Po δ Γ => Po.ct δ Γ
def aLoop (g : AG) (b : AS) (Po : AEnds) : List D → DL.Env → Sto → Prop
  | [], δ, Γ => Po.nx δ Γ
  | x :: xs, δ, Γ => g x δ fun δ' => b { Po with nx := aLoop g b Po xs, ct := aLoop g b Po xs, bk := Po.nx } δ' Γ
def aFor (i : AI) (g : AG) (b : AS) : AS := fun Po δ Γ => i δ Γ (fun xs Γ1 => aLoop g b Po xs δ Γ1) Po.ex
def aWh (t : AT) (b : AS) (Po : AEnds) : Nat → DL.Env → Sto → Prop
  | 0, _, _ => False
  | n + 1, δ, Γ => t δ Γ (fun k Γ1 => by2 k (b { Po with nx := aWh t b Po n, ct := aWh t b Po n, bk := Po.nx } δ Γ1) (Po.nx δ Γ1)) Po.ex
def aWhile (t : AT) (b : AS) : AS := fun Po δ Γ => ∃ n, aWh t b Po n δ Γ
def aPar (i j : Nat) (a : AA) : AS := fun Po δ Γ => a δ Γ (fun ds Γ1 => match ds with
  | [x, y] => Po.nx ((δ.set i (some x)).set j (some y)) Γ1
  | _ => False) Po.ex
/-- head, *parts = .. -/
def aStar (i j : Nat) (a : AE) : AS := fun Po δ Γ => a δ Γ (fun d Γ1 => match d with
  | .tup (x :: xs) => Po.nx ((δ.set i (some x)).set j (some (.lst xs))) Γ1
  | _ => False) Po.ex
def aRaise0 (c : Addr) : AS := fun Po δ Γ => Po.ex (.exc0 c) δ Γ
def aRaise1 (c : Addr) (f : Str) (a : AE) : AS := fun Po δ Γ => a δ Γ (fun d Γ1 => Po.ex (.exc1 c f d) δ Γ1) Po.ex
/-- try: b; except C as slot i: s (M: the classes that are caught) -/
def aTryAs (M : Addr → Option Bool) (i : Nat) (b s : AS) : AS := fun Po δ Γ => b { Po with ex := fun x δ' Γ' => match M (clsD x) with
  | some true => s { Po with nx := fun δ2 Γ2 => Po.nx (δ2.set i none) Γ2, bk := fun δ2 Γ2 => Po.bk (δ2.set i none) Γ2, ct := fun δ2 Γ2 => Po.ct (δ2.set i none) Γ2, ex := X0 } (δ'.set i (some x)) Γ'
  | some false => Po.ex x δ' Γ'
  | none => False } δ Γ
def aTry (M : Addr → Option Bool) (b s : AS) : AS := fun Po δ Γ => b { Po with ex := fun x δ' Γ' => match M (clsD x) with
  | some true => s { Po with ex := X0 } δ' Γ'
  | some false => Po.ex x δ' Γ'
  | none => False } δ Γ
section
variable {ta tb : WX → TE} {ua ub : AE} {tt : WX → TT} {ut : AT} {tA : WX → TA} {uA : AA} {ts tu : WX → TS} {us uu : AS} {ti : WX → TI} {ui : AI}
theorem ss_next : SS (fun _ => tNext) aNext := fun fr H0 W δ Γ Po h => rn_next h
theorem ss_seq (h1 : SS ts us) (h2 : SS tu uu) : SS (fun W => tSeq (ts W) (tu W)) (aSeq us uu) := fun fr H0 W δ Γ Po h => rn_seq (M := uu Po) (h1 fr H0 W δ Γ { Po with nx := uu Po } h) fun δ' Γ' m => h2 fr H0 W δ' Γ' Po m
theorem ss_ret (sa : SE ta ua) : SS (fun W => tRet (ta W)) (aRet ua) := fun fr H0 W δ Γ Po h => rn_ret (sa fr H0 W δ Γ _ _ h)
theorem ss_retN : SS (fun _ => tRetN) aRetN := fun fr H0 W δ Γ Po h En σ H E i q1 q2 q3 q4 => q2 _ _ Γ H Kp.refl i .non h
theorem ss_drop (sa : SE ta ua) : SS (fun W => tDrop (ta W)) (aDrop ua) := fun fr H0 W δ Γ Po h => rn_drop (sa fr H0 W δ Γ _ _ h) fun d Γ1 p => p
theorem ss_ifS (st : ST tt ut) (h1 : SS ts us) (h2 : SS tu uu) : SS (fun W => tIfS (tt W) (ts W) (tu W)) (aIfS ut us uu) := fun fr H0 W δ Γ Po h => rn_if (st fr H0 W δ Γ _ _ h) (fun Γ1 z => h1 fr H0 W δ Γ1 Po (z.1 rfl)) (fun Γ1 z => h2 fr H0 W δ Γ1 Po (z.2 rfl))
theorem ss_break : SS (fun _ => tBreak) aBreak := fun fr H0 W δ Γ Po h En σ H E i q1 q2 q3 q4 => q3 σ δ Γ H Kp.refl i E h
theorem ss_cont : SS (fun _ => tCont) aCont := fun fr H0 W δ Γ Po h En σ H E i q1 q2 q3 q4 => q4 σ δ Γ H Kp.refl i E h
theorem ss_asg {vs : List Nat} {g : TG} {ug : AG} (sa : SE ta ua) (hm : ∀ d δ (P Q : DL.Env → Prop), (∀ δ', P δ' → Q δ') → ug d δ P → ug d δ Q) (sg : SGw vs g ug) : SS (fun W => tAsg (ta W) g) (aAsg ua ug) := fun fr H0 W δ Γ Po h En σ H E i q1 q2 q3 q4 =>
  sa fr H0 W δ Γ _ _ h σ H E i _ fun v d Γ1 H1 k1 i1 is1 p1 => sg (ownG fr Γ1) H1 v d σ δ _ is1 (E.kp k1) (hm _ _ _ _ (fun δ' hp σ' E' _ => q1 σ' δ' Γ1 H1 k1 i1 E' hp) p1)
theorem ss_par {i j : Nat} (sa : SA tA uA) : SS (fun W => tPar i j (tA W)) (aPar i j uA) := fun fr H0 W δ Γ Po h => rn_par (sa fr H0 W δ Γ _ _ h) fun ds Γ1 p => by
  split at p
  · exact ⟨_, _, rfl, p⟩
  · exact p.elim
theorem ss_star {K : PySem.W.Frag} {i j : Nat} (sa : SE ta ua) : SS (fun W => tAsg (ta W) (gStarT K 2 1 (gCons (gName i) (gCons (gName j) gNil)))) (aStar i j ua) := fun fr H0 W δ Γ Po h => rn_star2 (sa fr H0 W δ Γ _ _ h) fun d Γ1 p => by
  split at p
  · exact ⟨_, _, rfl, p⟩
  · exact p.elim
/-- for, any target -/
theorem rn_forG {τ : Type} {J : Ifc τ} {t : TS} {δ : DL.Env} {s : τ} {Po : Post τ} {wi : TI} {g : TG} {u : AG} {vs : List Nat} (hm : ∀ d δ (P Q : DL.Env → Prop), (∀ δ', P δ' → Q δ') → u d δ P → u d δ Q) (sg : SGw vs g u) {A : List D → τ → Prop} (hi : IoE J wi δ s A) (Pv : List D → Nat → DL.Env → τ → Prop) (h0 : ∀ xs s', A xs s' → Pv xs 0 δ s')
    (hs : ∀ (xs : List D) (i : Nat) (x : D) (δ' : DL.Env) (s' : τ), xs[i]? = some x → Pv xs i δ' s' → u x δ' fun δ2 => Rn J t δ2 s' { Po with nx := Pv xs (i + 1), ct := Pv xs (i + 1), bk := Po.nx }) (hd : ∀ xs δ' s', Pv xs xs.length δ' s' → Po.nx δ' s') : Rn J (tFor wi g t) δ s Po := fun En σ H E inv q1 q2 q3 q4 =>
  hi σ H E inv _ fun I xs s1 H1 k1 i1 w p1 => by
    refine for_it w (fun i σ' H' => ∃ δ' s', Kp (J.own s1) H1 (J.own s') H' ∧ J.inv s' H' ∧ EnvR (J.own s') H' σ' δ' ∧ Pv xs i δ' s') ⟨δ, s1, Kp.refl, i1, E.kp k1, h0 xs s1 p1⟩ (fun i σ' H' _ ⟨δ', s', k, _⟩ a o ha na => (k a o ha na).1) (fun i x σ' H' H'' hi ⟨δ', s', k, iv, E', pv⟩ y => ?_) (fun σ' H' ⟨δ', s', k, iv, E', pv⟩ => q1 σ' δ' s' H' (k1.trans k) iv E' (hd xs δ' s' pv))
    obtain ⟨sm, d, hd', isy⟩ := y
    have is := isy _ (J.ok s' H' iv) k
    have k := k.trans (Kp.same sm)
    have iv := J.stab _ _ _ iv sm
    have E' := E'.kp (Kp.same sm)
    refine sg (J.own s') H'' x d σ' δ' _ is E' (hm _ _ _ _ (fun δ2 hr σ2 E2 _ => ?_) (hs xs i d δ' s' hd' pv))
    exact hr _ σ2 H'' E2 iv (fun σ2 δ2 s2 H2 a b c p => ⟨δ2, s2, k.trans a, b, c, p⟩) (fun v d s2 H2 a b c p => q2 v d s2 H2 ((k1.trans k).trans a) b c p) (fun σ2 δ2 s2 H2 a b c p => q1 σ2 δ2 s2 H2 ((k1.trans k).trans a) b c p) (fun σ2 δ2 s2 H2 a b c p => ⟨δ2, s2, k.trans a, b, c, p⟩)
theorem ss_for {vs : List Nat} {g : TG} {ug : AG} (si : SI ti ui) (hm : ∀ d δ (P Q : DL.Env → Prop), (∀ δ', P δ' → Q δ') → ug d δ P → ug d δ Q) (sg : SGw vs g ug) (h1 : SS ts us) : SS (fun W => tFor (ti W) g (ts W)) (aFor ui ug us) := fun fr H0 W δ Γ Po h =>
  rn_forG hm sg (si fr H0 W δ Γ _ _ h) (fun xs i δ' Γ' => aLoop ug us Po (xs.drop i) δ' Γ') (fun xs Γ' p => p) (fun xs i x δ' Γ' hx p => by
    rw [get_drop hx] at p
    exact hm _ _ _ _ (fun δ2 hq => h1 fr H0 W δ2 Γ' { Po with nx := aLoop ug us Po (xs.drop (i + 1)), ct := aLoop ug us Po (xs.drop (i + 1)), bk := Po.nx } hq) p) fun xs δ' Γ' p => by
    rw [List.drop_length] at p
    exact p
theorem ss_while (st : ST tt ut) (h1 : SS ts us) : SS (fun W => tWhile (tt W) (ts W)) (aWhile ut us) := fun fr H0 W δ Γ Po ⟨n, h⟩ =>
  rn_while (fun m δ' Γ' => aWh ut us Po m δ' Γ') n h (fun m δ' k Γ1 => ∃ m', m = m' + 1 ∧ by2 k (us { Po with nx := aWh ut us Po m', ct := aWh ut us Po m', bk := Po.nx } δ' Γ1) (Po.nx δ' Γ1)) (fun m δ' Γ' p => by
    cases m with
    | zero => exact p.elim
    | succ m => exact fun σ H E i Q q => st fr H0 W δ' Γ' _ _ p σ H E i Q fun b Γ1 H1 k1 i1 p1 => q b Γ1 H1 k1 i1 ⟨m, rfl, p1⟩) (fun m δ' Γ1 ⟨m', e, p⟩ => by
    subst e
    exact (h1 fr H0 W δ' Γ1 _ (p.1 rfl)).imp (fun _ _ z => ⟨m', by omega, z⟩) (fun _ _ z => z) (fun _ _ z => z) (fun _ _ z => ⟨m', by omega, z⟩)) fun m δ' Γ1 ⟨m', e, p⟩ => p.2 rfl

/-! ### raise, try -/
def tRaise0 (W : WX) (c : Addr) : TS := fun _ σ H => W (.ref c) none σ H
theorem ss_raise0 {c : Addr} : SS (fun W => tRaise0 W c) (aRaise0 c) := fun fr H0 W δ Γ Po h En σ H E i q1 q2 q3 q4 => i.2 _ _ _ σ δ Γ H Kp.refl i.1 E .zero h
/-- the promise of __init__(self, y): self.f = y -/
def spInit (K : PySem.W.Frag) (f : Str) : Sp := fun vs H Q _ => ∃ (a c : Addr) (y : V), vs = [.ref a, y] ∧ OexC K c ∧ PySem.W.findIn K (.ref c) f = some none ∧ H a = some (exo a c none) ∧ ∀ dx, H dx = none → dx ≠ a → Q .non (upd (upd H dx (exd dx [(f, y)])) a (exo a c (some dx)))
def tRaise1 (K : PySem.W.Frag) (W : WX) (c : Addr) (f : Str) (te : TE) : TS := fun _ σ H => tMkO c (spInit K f) [] (tCons te tNil) σ H fun cls d H' => W cls d σ H'
theorem ss_raise1 {K : PySem.W.Frag} {c : Addr} {f : Str} (hc : OexC K c) (hf : PySem.W.findIn K (.ref c) f = some none) (sa : SE ta ua) : SS (fun W => tRaise1 K W c f (ta W)) (aRaise1 c f ua) := fun fr H0 W δ Γ Po h En σ H E i q1 q2 q3 q4 =>
  sa fr H0 W δ Γ _ _ h σ H E i _ fun v d Γ1 H1 k1 i1 is1 p1 => by
    refine ⟨by show ([v] : List V).length ≤ 1000; simp, fun a ha => ⟨a, c, v, rfl, hc, hf, upd_same, fun dx hx ne => ⟨rfl, dx, [(f, v)], upd_same, ?_, ?_, ?_⟩⟩⟩
    · rw [upd_ne ne, upd_same]
    · rw [upd_ne ne] at hx
      exact hx
    · have hdx : H1 dx = none := by rw [upd_ne ne] at hx; exact hx
      have sm : Same H1 (upd (L2.del (upd (upd (upd H1 a (exo a c none)) dx (exd dx [(f, v)])) a (exo a c (some dx))) a) dx (.xd [(f, v)])) := fun b o hb => by
        have nb : b ≠ dx := ne_of_none hb hdx
        have nb2 : b ≠ a := ne_of_none hb ha
        rw [upd_ne nb]
        show (if b = a then none else _) = _
        rw [if_neg nb2, upd_ne nb2, upd_ne nb, upd_ne nb2]
        exact hb
      exact i1.2 _ _ _ σ δ Γ1 _ (Kp.same sm) ((JG fr H0).stab _ _ _ i1.1 sm) ((E.kp k1).same sm) (.one upd_same ((inv_ok i1).new hdx) (is1.same sm)) p1
theorem ss_tryAs {K : PySem.W.Frag} {c : Value} {i : Nat} {M : Addr → Option Bool} (hM : ∀ a b, M a = some b → PySem.W.exmOne K (.ref a) c = some b) (h1 : SS ts us) (h2 : SS tu uu) : SS (fun W => tTryAs K c i ts (tu W0) W) (aTryAs M i us uu) := fun fr H0 W δ Γ Po h En σ H E iv q1 q2 q3 q4 => by
  refine h1 fr H0 (wCatAs K c i (tu W0) W En) δ Γ _ h En σ H E ⟨iv.1, fun x cls d σ' δ' Γ' H' k i' E' isx hx => ?_⟩ (fun σ' δ' Γ' H' k i' E' p => q1 σ' δ' Γ' H' k (ex_inv iv k i'.1) E' p) (fun v d Γ' H' k i' is p => q2 v d Γ' H' k (ex_inv iv k i'.1) is p) (fun σ' δ' Γ' H' k i' E' p => q3 σ' δ' Γ' H' k (ex_inv iv k i'.1) E' p) (fun σ' δ' Γ' H' k i' E' p => q4 σ' δ' Γ' H' k (ex_inv iv k i'.1) E' p)
  have ec := isx.cls
  have i1 := ex_inv iv k i'
  simp only at hx
  split at hx
  · rename_i hm
    refine ⟨true, by rw [ec]; exact hM _ _ hm, fun _ a na => ?_, fun z => nomatch z⟩
    have sm : Same H' (upd H' a (Caught cls d a)) := same_new na
    have ks := k.trans (Kp.same sm)
    refine h2 fr H0 W0 _ Γ' _ hx _ _ _ ((E'.same sm).set i (isx.caught (inv_ok i1) na)) ⟨(JG fr H0).stab _ _ _ i' sm, fun _ _ _ _ _ _ _ _ _ _ _ z => z.elim⟩ (fun σ2 δ2 Γ2 H2 k2 i2 E2 p => q1 _ _ Γ2 H2 (ks.trans k2) (ex_inv iv (ks.trans k2) i2.1) (E2.drop i) p) (fun v d2 Γ2 H2 k2 i2 is p => q2 v d2 Γ2 H2 (ks.trans k2) (ex_inv iv (ks.trans k2) i2.1) is p) (fun σ2 δ2 Γ2 H2 k2 i2 E2 p => q3 _ _ Γ2 H2 (ks.trans k2) (ex_inv iv (ks.trans k2) i2.1) (E2.drop i) p) (fun σ2 δ2 Γ2 H2 k2 i2 E2 p => q4 _ _ Γ2 H2 (ks.trans k2) (ex_inv iv (ks.trans k2) i2.1) (E2.drop i) p)
  · rename_i hm
    exact ⟨false, by rw [ec]; exact hM _ _ hm, fun z => (nomatch z), fun _ => i1.2 x cls d σ' δ' Γ' H' Kp.refl i' E' isx hx⟩
  · exact hx.elim
theorem ss_try {K : PySem.W.Frag} {c : Value} {M : Addr → Option Bool} (hM : ∀ a b, M a = some b → PySem.W.exmOne K (.ref a) c = some b) (h1 : SS ts us) (h2 : SS tu uu) : SS (fun W => tTry K c ts (tu W0) W) (aTry M us uu) := fun fr H0 W δ Γ Po h En σ H E iv q1 q2 q3 q4 => by
  refine h1 fr H0 (wCat K c (tu W0) W En) δ Γ _ h En σ H E ⟨iv.1, fun x cls d σ' δ' Γ' H' k i' E' isx hx => ?_⟩ (fun σ' δ' Γ' H' k i' E' p => q1 σ' δ' Γ' H' k (ex_inv iv k i'.1) E' p) (fun v d Γ' H' k i' is p => q2 v d Γ' H' k (ex_inv iv k i'.1) is p) (fun σ' δ' Γ' H' k i' E' p => q3 σ' δ' Γ' H' k (ex_inv iv k i'.1) E' p) (fun σ' δ' Γ' H' k i' E' p => q4 σ' δ' Γ' H' k (ex_inv iv k i'.1) E' p)
  have ec := isx.cls
  have i1 := ex_inv iv k i'
  simp only at hx
  split at hx
  · rename_i hm
    refine ⟨true, by rw [ec]; exact hM _ _ hm, fun _ a na => ?_, fun z => nomatch z⟩
    have sm : Same H' (upd H' a (Caught cls d a)) := same_new na
    have ks := k.trans (Kp.same sm)
    refine h2 fr H0 W0 _ Γ' _ hx _ _ _ (E'.same sm) ⟨(JG fr H0).stab _ _ _ i' sm, fun _ _ _ _ _ _ _ _ _ _ _ z => z.elim⟩ (fun σ2 δ2 Γ2 H2 k2 i2 E2 p => q1 _ _ Γ2 H2 (ks.trans k2) (ex_inv iv (ks.trans k2) i2.1) E2 p) (fun v d2 Γ2 H2 k2 i2 is p => q2 v d2 Γ2 H2 (ks.trans k2) (ex_inv iv (ks.trans k2) i2.1) is p) (fun σ2 δ2 Γ2 H2 k2 i2 E2 p => q3 _ _ Γ2 H2 (ks.trans k2) (ex_inv iv (ks.trans k2) i2.1) E2 p) (fun σ2 δ2 Γ2 H2 k2 i2 E2 p => q4 _ _ Γ2 H2 (ks.trans k2) (ex_inv iv (ks.trans k2) i2.1) E2 p)
  · rename_i hm
    exact ⟨false, by rw [ec]; exact hM _ _ hm, fun z => (nomatch z), fun _ => i1.2 x cls d σ' δ' Γ' H' Kp.refl i' E' isx hx⟩
  · exact hx.elim
end
/-! ### a def keeps its abstract body -/
/-- the abstract def of an abstract body -/
def afn (N ps : List Str) (u : AS) : AF := fun ds Γ P X => ds.length = ps.length ∧ u { nx := fun _ Γ' => P .non Γ', rt := P, bk := fun _ _ => False, ct := fun _ _ => False, ex := fun x _ Γ' => X x Γ' } (startD N ds) Γ
section
variable {P : Program} {w : World} {K : PySem.W.Frag} {mg : Str → Option Value} {base : Heap}
theorem okA {x qual : Str} {st : Stmt} {f : Addr} {fd : FuncData} {N ps : List Str} {k : Nat} {t : WX → TS} {u : AS} (F : Fun K x qual st f fd) (S : FnScope N ps (defScope st)) (hu : SS t u)
    (hbody : ∀ (cdv : Value) (A : Around) (outer : List PySem.Env) (s : Shared) (H : Hp) (E : XK), Room k (A.deeper (PyProof.Rows.envOfC qual (defScope st) s.heap.objs.size f cdv)) →
      PSs (cxOf (L2.CX P w) P w K mg base N qual (defScope st) f cdv A outer s H E) (defBody st) (t fun cls d _ H' => E cls d H')) : FnOk P w K mg base (L2.CX P w) (k + 1) f fd ps (spA (afn N ps u)) := by
  refine F.okX S (fun vs H Q E h => ?_) (fun cdv A outer s H vs Q E hr h => ?_)
  · obtain ⟨fr, Γ, ds, P', X, _, ia, hF, _⟩ := h
    rw [ia.length]
    exact hF.1
  · obtain ⟨fr, Γ, ds, P', X, i, ia, hF, q, qx⟩ := h
    refine ⟨_, hbody cdv A outer s H E hr, ?_⟩
    refine hu fr H _ (startD N ds) Γ _ hF.2 _ _ H ?_ ⟨i, fun x cls dd σ' δ' Γ' H' k i' E' isx hx => qx x cls dd Γ' H' k i' isx hx⟩ (fun σ' δ' Γ' H' k i' E' p => q .non .non Γ' H' k i'.1 .non p) (fun v d Γ' H' k i' is p => q v d Γ' H' k i'.1 is p) (fun _ _ _ _ _ _ _ z => z.elim) (fun _ _ _ _ _ _ _ z => z.elim)
    unfold L2.start startD
    rw [ia.length]
    exact EnvR.start ia _
end
end AL

set_option Elab.async false
set_option linter.all false
set_option maxRecDepth 100000
set_option maxHeartbeats 4000000
/-! The abstract layer: operators, built-in calls. -/
namespace AL
open PySem L2 DL
variable [Wd]
section
variable {K : PySem.W.Frag}
def oAdd : A2 := fun d e Q => match d, e with
  | .int i, .int j => Q (.int (i + j))
  | .str x, .str y => x.length + y.length ≤ sizeLine ∧ Q (.str (x ++ y))
  | .lst xs, .lst ys => xs.length + ys.length ≤ sizeLine ∧ Q (.lst (xs ++ ys))
  | .tup xs, .tup ys => xs.length + ys.length ≤ sizeLine ∧ Q (.tup (xs ++ ys))
  | _, _ => False
theorem so_add : SOp (rAddA K) oAdd := fun d e Q h => by
  unfold oAdd at h
  split at h
  · exact ⟨_, add_int, h⟩
  · exact ⟨_, add_str h.1, h.2⟩
  · exact ⟨_, add_lst h.1, h.2⟩
  · exact ⟨_, add_tup h.1, h.2⟩
  · exact h.elim
def oInt (g : Int → Int → Int) : A2 := fun d e Q => match d, e with
  | .int i, .int j => Q (.int (g i j))
  | _, _ => False
theorem so_int {g : Int → Int → Int} : SOp (rI0 fun i j => .int (g i j)) (oInt g) := fun d e Q h => by
  unfold oInt at h
  split at h
  · exact ⟨_, rv_int, h⟩
  · exact h.elim
def oCmp (g : Int → Int → Bool) : A2 := fun d e Q => match d, e with
  | .int i, .int j => Q (.bl (g i j))
  | _, _ => False
theorem so_cmp {g : Int → Int → Bool} : SOp (rI0 fun i j => .bl (g i j)) (oCmp g) := fun d e Q h => by
  unfold oCmp at h
  split at h
  · exact ⟨_, rv_intB, h⟩
  · exact h.elim
def oIntC (C : Int → Int → Prop) (g : Int → Int → Int) : A2 := fun d e Q => match d, e with
  | .int i, .int j => C i j ∧ Q (.int (g i j))
  | _, _ => False
theorem so_intC {C : Int → Int → Prop} {g : Int → Int → Int} : SOp (rI C fun i j => .int (g i j)) (oIntC C g) := fun d e Q h => by
  unfold oIntC at h
  split at h
  · exact ⟨_, rv_intC h.1, h.2⟩
  · exact h.elim
/-- a text several times -/
def repS (x : Str) (n : Nat) : Str := ⟨(List.replicate n x.cps.toList).flatten.toArray⟩
def oMul : A2 := fun d e Q => match d, e with
  | .int i, .int j => CMul i j ∧ Q (.int (i * j))
  | .lst xs, .int k => -(2 ^ 63) ≤ k ∧ k < 2 ^ 63 ∧ xs.length * k.toNat ≤ sizeLine ∧ Q (.lst (List.replicate k.toNat xs).flatten)
  | .tup xs, .int k => xs ≠ [] ∧ 1 ≤ k ∧ k ≤ 1000 ∧ xs.length ≤ 1000 ∧ Q (.tup (List.replicate k.toNat xs).flatten)
  | _, _ => False
theorem so_mul : SOp (rMulA K) oMul := fun d e Q h => by
  unfold oMul at h
  split at h
  · exact ⟨_, mul_int h.1, h.2⟩
  · exact ⟨_, rep_lst h.1 h.2.1 h.2.2.1, h.2.2.2⟩
  · exact ⟨_, rep_tup h.1 h.2.1 h.2.2.1 h.2.2.2.1, h.2.2.2.2⟩
  · exact h.elim
def oEq : A2 := fun d e Q => match d, e with
  | .int i, .int j => Q (.bl (decide (i = j)))
  | .str i, .str j => Q (.bl (decide (i = j)))
  | d, e => cmpOk d ∧ cmpOk e ∧ Q (.bl (eqD d e))
theorem so_eq : SOp (rEqA K) oEq := fun d e Q h => by
  unfold oEq at h
  split at h
  · exact ⟨_, eq_int, h⟩
  · exact ⟨_, eq_str, h⟩
  · exact ⟨_, eq_deep h.1 h.2.1, h.2.2⟩
def oNe : A2 := fun d e Q => match d, e with
  | .int i, .int j => Q (.bl (!decide (i = j)))
  | .str i, .str j => Q (.bl (!decide (i = j)))
  | d, e => cmpOk d ∧ cmpOk e ∧ Q (.bl (!eqD d e))
theorem so_ne : SOp (rNeA K) oNe := fun d e Q h => by
  unfold oNe at h
  split at h
  · exact ⟨_, ne_int, h⟩
  · exact ⟨_, ne_str, h⟩
  · exact ⟨_, ne_deep h.1 h.2.1, h.2.2⟩
/-- flat data, compared -/
def flatD : D → Option V
  | .non => some .non
  | .bl b => some (.bl b)
  | .int i => some (.int i)
  | .str x => some (.str x)
  | _ => none
def flatDs : List D → Option (List V)
  | [] => some []
  | d :: ds => match flatD d, flatDs ds with
    | some v, some vs => some (v :: vs)
    | _, _ => none
theorem flatD_is {own : Own} {H : Hp} {d : D} {u v : V} (h : Is own H v d) (e : flatD d = some u) : v = u ∧ flatV u = true := by
  cases h <;> simp [flatD] at e <;> subst e <;> exact ⟨rfl, rfl⟩
theorem flatDs_is {own : Own} {H : Hp} : ∀ {ds : List D} {us vs : List V}, IsAll own H vs ds → flatDs ds = some us → vs = us ∧ us.all flatV = true
  | [], us, _, h, e => by
    cases h
    cases e
    exact ⟨rfl, rfl⟩
  | d :: ds, us, _, h, e => by
    cases h with
    | cons h1 h2 =>
      unfold flatDs at e
      split at e
      · rename_i u us' e1 e2
        cases e
        obtain ⟨rfl, f1⟩ := flatD_is h1 e1
        obtain ⟨rfl, f2⟩ := flatDs_is h2 e2
        exact ⟨rfl, by rw [List.all_cons, f1, f2]; rfl⟩
      · cases e
theorem flatT {own : Own} {H : Hp} {d : D} {u v : V} (h : IsT own H v d) (e : flatD d = some u) : v = u ∧ flatV u = true := by
  cases h <;> simp [flatD] at e <;> subst e <;> exact ⟨rfl, rfl⟩
def onSeq (e : D) (f : List D → Prop) : Prop := match e with
  | .lst xs => f xs
  | .tup xs => f xs
  | _ => False
def oInN (neg : Bool) : A2 := fun d e Q => match d, e with
  | .str x, .str z => ∃ c, x = ⟨#[c]⟩ ∧ Q (.bl (xor neg (decide (c ∈ z.cps.toList))))
  | d, e => onSeq e fun xs => ∃ v vs, flatD d = some v ∧ flatDs xs = some vs ∧ Q (.bl (xor neg (inV v vs)))
abbrev oIn := oInN false
abbrev oNotIn := oInN true
theorem rIn_ok {neg : Bool} {d e : D} {v : V} {xs : List D} {vs : List V} (hs : e = .lst xs ∨ e = .tup xs) (hd : flatD d = some v) (hx : flatDs xs = some vs) : RvP (rIn K neg) d e (.bl (xor neg (inV v vs))) := fun own H x y o hx' hy Q q => by
  obtain ⟨rfl, fv⟩ := flatT hx' hd
  have e1 : (if neg then !inV x vs else inV x vs) = xor neg (inV x vs) := by cases neg <;> simp
  rcases hs with rfl | rfl
  · cases hy with
    | lst h1 n1 a1 =>
      obtain ⟨rfl, fs⟩ := flatDs_is a1 hx
      exact ⟨_, _, rfl, .inl (SqL.of h1), fv, fs, by rw [e1]; exact q _ H (Same.refl H) (.bl _)⟩
  · cases hy with
    | tup h1 n1 a1 =>
      obtain ⟨rfl, fs⟩ := flatDs_is a1 hx
      exact ⟨_, _, rfl, .inr (SqT.of h1), fv, fs, by rw [e1]; exact q _ H (Same.refl H) (.bl _)⟩
theorem onSeq_iff {e : D} {f : List D → Prop} (h : onSeq e f) : ∃ xs, (e = .lst xs ∨ e = .tup xs) ∧ f xs := by
  cases e with
  | lst xs => exact ⟨xs, .inl rfl, h⟩
  | tup xs => exact ⟨xs, .inr rfl, h⟩
  | _ => exact h.elim
theorem so_in : SOp (rInA K) oIn := fun d e Q h => by
  unfold oIn oInN at h
  split at h
  · obtain ⟨c, rfl, q⟩ := h
    exact ⟨_, in_sign, by simpa using q⟩
  · obtain ⟨xs, hs, v, vs, h1, h2, q⟩ := onSeq_iff h
    exact ⟨_, rv_inr (rIn_ok hs h1 h2), q⟩
theorem so_notIn : SOp (rNotInA K) oNotIn := fun d e Q h => by
  unfold oNotIn oInN at h
  split at h
  · obtain ⟨c, rfl, q⟩ := h
    exact ⟨_, notIn_sign, by simpa using q⟩
  · obtain ⟨xs, hs, v, vs, h1, h2, q⟩ := onSeq_iff h
    exact ⟨_, rv_inr (rIn_ok hs h1 h2), q⟩
def isNon : D → Bool
  | .non => true
  | _ => false
theorem isNon_ok {own : Own} {H : Hp} {v : V} {d : D} (h : IsT own H v d) : decide (v = .non) = isNon d := by
  cases h <;> simp [isNon]
def oIsN : A2 := fun d e Q => match e with
  | .non => Q (.bl (isNon d))
  | _ => False
def oNotN : A2 := fun d e Q => match e with
  | .non => Q (.bl (!isNon d))
  | _ => False
theorem so_isN : SOp rIsN oIsN := fun d e Q h => by
  unfold oIsN at h
  split at h
  · exact ⟨_, fun own H x y o hx hy Q q => by cases hy; exact ⟨rfl, by rw [isNon_ok hx]; exact q _ H (Same.refl H) (.bl _)⟩, h⟩
  · exact h.elim
theorem so_notN : SOp rNotN oNotN := fun d e Q h => by
  unfold oNotN at h
  split at h
  · exact ⟨_, fun own H x y o hx hy Q q => by cases hy; exact ⟨rfl, by rw [isNon_ok hx]; exact q _ H (Same.refl H) (.bl _)⟩, h⟩
  · exact h.elim
def oIx : A2 := fun d e Q => match d, e with
  | .tup xs, .int i => ∃ z, atI xs i = some z ∧ Q z
  | .lst xs, .int i => ∃ z, atI xs i = some z ∧ Q z
  | .str x, .int i => x.length ≤ sizeLine ∧ ∃ c, atI x.cps.toList i = some c ∧ Q (.str ⟨#[c]⟩)
  | _, _ => False
theorem so_ix : SOp (rIx K) oIx := fun d e Q h => by
  unfold oIx at h
  split at h
  · obtain ⟨z, h1, h2⟩ := h; exact ⟨z, at_tup h1, h2⟩
  · obtain ⟨z, h1, h2⟩ := h; exact ⟨z, at_lst h1, h2⟩
  · obtain ⟨hl, c, h1, h2⟩ := h; exact ⟨_, at_str hl h1, h2⟩
  · exact h.elim
def oSl : AL3 := fun d lo hi Q => match d with
  | .tup xs => Q (.tup (cutD xs lo hi))
  | .lst xs => Q (.lst (cutD xs lo hi))
  | .str x => x.length ≤ sizeLine ∧ Q (.str (cutS x lo hi))
  | _ => False
theorem so_sl : SSl (rSlX K) oSl := fun d lo hi Q h => by
  unfold oSl at h
  split at h
  · exact ⟨_, cut_tup, h⟩
  · exact ⟨_, cut_lst, h⟩
  · exact ⟨_, cut_str h.1, h.2⟩
  · exact h.elim
def oNeg : A1 := fun d Q => match d with
  | .int i => Q (.int (-i))
  | _ => False
theorem so_neg : SUn (rU fun i => .int (-i)) oNeg := fun d Q h => by
  unfold oNeg at h
  split at h
  · rename_i i
    exact ⟨_, fun own H x o hx Q q => by cases hx; exact ⟨i, rfl, q _ H (Same.refl H) (.int _)⟩, h⟩
  · exact h.elim

/-! ### calls of built-ins -/
def cLen : AC := fun ds Q => match ds with
  | [.tup xs] => Q (.int (xs.length : Int))
  | [.lst xs] => Q (.int (xs.length : Int))
  | [.str x] => x.length ≤ sizeLine ∧ Q (.int (x.length : Int))
  | _ => False
theorem so_len : SCb (rLenA K) cLen := fun ds Q h => by
  unfold cLen at h
  split at h
  · exact ⟨_, len_tup, h⟩
  · exact ⟨_, len_lst, h⟩
  · exact ⟨_, len_str h.1, h.2⟩
  · exact h.elim
/-- the ints of a list of ints -/
def intsD : List D → Option (List Int)
  | [] => some []
  | .int i :: ds => (intsD ds).map (i :: ·)
  | _ :: _ => none
theorem intsD_map : ∀ {ds : List D} {ns : List Int}, intsD ds = some ns → ds = ns.map D.int
  | [], ns, h => by cases h; rfl
  | .int i :: ds, ns, h => by
    unfold intsD at h
    cases e : intsD ds with
    | none => rw [e] at h; cases h
    | some ms =>
      rw [e] at h
      cases h
      rw [intsD_map e]
      rfl
  | .non :: _, _, h => by cases h
  | .bl _ :: _, _, h => by cases h
  | .str _ :: _, _, h => by cases h
  | .tup _ :: _, _, h => by cases h
  | .lst _ :: _, _, h => by cases h
  | .dct _ :: _, _, h => by cases h
  | .ref _ :: _, _, h => by cases h
  | .ty _ :: _, _, h => by cases h
  | .exc0 _ :: _, _, h => by cases h
  | .exc1 _ _ _ :: _, _, h => by cases h
theorem intsD_of : ∀ ns : List Int, intsD (ns.map D.int) = some ns
  | [] => rfl
  | n :: ns => by show (intsD (ns.map D.int)).map _ = _; rw [intsD_of ns]; rfl
def blsD : List D → Option (List Bool)
  | [] => some []
  | .bl i :: ds => (blsD ds).map (i :: ·)
  | _ :: _ => none
theorem blsD_map : ∀ {ds : List D} {ns : List Bool}, blsD ds = some ns → ds = ns.map D.bl
  | [], ns, h => by cases h; rfl
  | .bl i :: ds, ns, h => by
    unfold blsD at h
    cases e : blsD ds with
    | none => rw [e] at h; cases h
    | some ms =>
      rw [e] at h
      cases h
      rw [blsD_map e]
      rfl
  | .non :: _, _, h => by cases h
  | .int _ :: _, _, h => by cases h
  | .str _ :: _, _, h => by cases h
  | .tup _ :: _, _, h => by cases h
  | .lst _ :: _, _, h => by cases h
  | .dct _ :: _, _, h => by cases h
  | .ref _ :: _, _, h => by cases h
  | .ty _ :: _, _, h => by cases h
  | .exc0 _ :: _, _, h => by cases h
  | .exc1 _ _ _ :: _, _, h => by cases h
theorem blsD_of : ∀ ns : List Bool, blsD (ns.map D.bl) = some ns
  | [] => rfl
  | n :: ns => by show (blsD (ns.map D.bl)).map _ = _; rw [blsD_of ns]; rfl
def strsD : List D → Option (List Str)
  | [] => some []
  | .str i :: ds => (strsD ds).map (i :: ·)
  | _ :: _ => none
theorem strsD_map : ∀ {ds : List D} {ns : List Str}, strsD ds = some ns → ds = ns.map D.str
  | [], ns, h => by cases h; rfl
  | .str i :: ds, ns, h => by
    unfold strsD at h
    cases e : strsD ds with
    | none => rw [e] at h; cases h
    | some ms =>
      rw [e] at h
      cases h
      rw [strsD_map e]
      rfl
  | .non :: _, _, h => by cases h
  | .int _ :: _, _, h => by cases h
  | .bl _ :: _, _, h => by cases h
  | .tup _ :: _, _, h => by cases h
  | .lst _ :: _, _, h => by cases h
  | .dct _ :: _, _, h => by cases h
  | .ref _ :: _, _, h => by cases h
  | .ty _ :: _, _, h => by cases h
  | .exc0 _ :: _, _, h => by cases h
  | .exc1 _ _ _ :: _, _, h => by cases h
theorem strsD_of : ∀ ns : List Str, strsD (ns.map D.str) = some ns
  | [] => rfl
  | n :: ns => by show (strsD (ns.map D.str)).map _ = _; rw [strsD_of ns]; rfl
def cSum : AC := fun ds Q => match ds with
  | [.lst xs] => ∃ ns, intsD xs = some ns ∧ Q (.int ns.sum)
  | _ => False
theorem so_sum : SCb (rSum K) cSum := fun ds Q h => by
  unfold cSum at h
  split at h
  · obtain ⟨ns, e, q⟩ := h
    rw [intsD_map e]
    exact ⟨_, sum_ints, q⟩
  · exact h.elim
def cMax : AC := fun ds Q => match ds with
  | [.lst xs] => ∃ ns, intsD xs = some ns ∧ ns ≠ [] ∧ Q (.int (maxL ns))
  | _ => False
theorem so_max : SCb (rMax K) cMax := fun ds Q h => by
  unfold cMax at h
  split at h
  · obtain ⟨ns, e, hn, q⟩ := h
    rw [intsD_map e]
    exact ⟨_, max_ints hn, q⟩
  · exact h.elim
def cAll : AC := fun ds Q => match ds with
  | [.lst xs] => ∃ ns, blsD xs = some ns ∧ Q (.bl (ns.all id))
  | _ => False
theorem so_all : SCb (rAll K) cAll := fun ds Q h => by
  unfold cAll at h
  split at h
  · obtain ⟨ns, e, q⟩ := h
    rw [blsD_map e]
    exact ⟨_, all_bls, q⟩
  · exact h.elim
def cAny : AC := fun ds Q => match ds with
  | [.lst xs] => ∃ ns, blsD xs = some ns ∧ Q (.bl (ns.any id))
  | _ => False
theorem so_any : SCb (rAny K) cAny := fun ds Q h => by
  unfold cAny at h
  split at h
  · obtain ⟨ns, e, q⟩ := h
    rw [blsD_map e]
    exact ⟨_, any_bls, q⟩
  · exact h.elim
def cAbs : AC := fun ds Q => match ds with
  | [.int i] => Q (.int (if i < 0 then -i else i))
  | _ => False
theorem so_abs : SCb rAbs cAbs := fun ds Q h => by
  unfold cAbs at h
  split at h
  · exact ⟨_, abs_int, h⟩
  · exact h.elim
def cInt : AC := fun ds Q => match ds with
  | [.bl k] => Q (.int (if k then 1 else 0))
  | _ => False
theorem so_int1 : SCb rInt1 cInt := fun ds Q h => by
  unfold cInt at h
  split at h
  · exact ⟨_, int_bl, h⟩
  · exact h.elim
def cList : AC := fun ds Q => match ds with
  | [.tup xs] => Q (.lst xs)
  | [.lst xs] => Q (.lst xs)
  | _ => False
theorem so_list : SCb (rListA K) cList := fun ds Q h => by
  unfold cList at h
  split at h
  · exact ⟨_, list_tup, h⟩
  · exact ⟨_, list_lst, h⟩
  · exact h.elim
def oTup : A1 := fun d Q => match d with
  | .lst xs => Q (.tup xs)
  | .tup xs => Q (.tup xs)
  | _ => False
theorem so_tup : SUn (kTup K) oTup := fun d Q h => by
  unfold oTup at h
  split at h
  · exact ⟨_, tuple_lst, h⟩
  · exact ⟨_, tuple_tup, h⟩
  · exact h.elim
/-- isinstance: of data by a type's name; of an exception by a class -/
def isTyD (n : String) (d : D) : Option Bool := if tyOf d = "" then none else kitB (tyOf d) n
/-- a tuple of types -/
def tysD : List D → Option (List String)
  | [] => some []
  | .ty n :: ds => (tysD ds).map (n :: ·)
  | _ :: _ => none
def anyTy (t : String) : List String → Option Bool
  | [] => some false
  | n :: ns => match kitB t n with
    | some true => some true
    | some false => anyTy t ns
    | none => none
theorem kitAny_ty {t : String} : ∀ {ns : List String} {b : Bool}, anyTy t ns = some b → PySem.W.kitAny K (.type t) (ns.map Value.type) = some b
  | [], b, h => by cases h; rfl
  | n :: ns, b, h => by
    unfold anyTy at h
    rw [List.map_cons]
    cases e : kitB t n with
    | none => rw [e] at h; cases h
    | some c =>
      rw [e] at h
      cases c with
      | true => cases h; exact kitAny_cons (kit_ty e) (fun z => nomatch z) (fun _ => rfl)
      | false => exact kitAny_cons (kit_ty e) (fun _ => kitAny_ty h) (fun z => nomatch z)
theorem tysD_is {own : Own} {H : Hp} : ∀ {ds : List D} {ns : List String} {vs : List V}, IsAll own H vs ds → tysD ds = some ns → Paired ClsV vs (ns.map Value.type)
  | [], ns, _, h, e => by
    cases h
    cases e
    exact .nil
  | .ty n :: ds, ns, _, h, e => by
    unfold tysD at e
    cases e1 : tysD ds with
    | none => rw [e1] at e; cases e
    | some ms =>
      rw [e1] at e
      cases e
      cases h with
      | cons h1 h2 =>
        cases h1
        exact .cons (.ty n) (tysD_is h2 e1)
  | .non :: _, _, _, _, h => by cases h
  | .bl _ :: _, _, _, _, h => by cases h
  | .int _ :: _, _, _, _, h => by cases h
  | .str _ :: _, _, _, _, h => by cases h
  | .tup _ :: _, _, _, _, h => by cases h
  | .lst _ :: _, _, _, _, h => by cases h
  | .dct _ :: _, _, _, _, h => by cases h
  | .ref _ :: _, _, _, _, h => by cases h
  | .exc0 _ :: _, _, _, _, h => by cases h
  | .exc1 _ _ _ :: _, _, _, _, h => by cases h
def cIsi (K : PySem.W.Frag) : AC := fun ds Q => match ds with
  | [.exc0 c, .ref k] => ExcC K c ∧ ∃ b, PySem.W.kitOne K (.ref c) (.ref k) = some b ∧ Q (.bl b)
  | [.exc1 c _ _, .ref k] => ExcC K c ∧ ∃ b, PySem.W.kitOne K (.ref c) (.ref k) = some b ∧ Q (.bl b)
  | [.exc0 c, .ty n] => ExcC K c ∧ ∃ b, PySem.W.kitOne K (.ref c) (.type n) = some b ∧ Q (.bl b)
  | [.exc1 c _ _, .ty n] => ExcC K c ∧ ∃ b, PySem.W.kitOne K (.ref c) (.type n) = some b ∧ Q (.bl b)
  | [d, .ty n] => ∃ b, isTyD n d = some b ∧ Q (.bl b)
  | [d, .ref k] => tyOf d ≠ "" ∧ ∃ b, PySem.W.kitOne K (.type (tyOf d)) (.ref k) = some b ∧ Q (.bl b)
  | [d, .tup ts] => tyOf d ≠ "" ∧ ∃ ns b, tysD ts = some ns ∧ anyTy (tyOf d) ns = some b ∧ Q (.bl b)
  | _ => False
theorem isi_exc {d e : D} {c : Addr} {u : Value} {b : Bool} (hd : d = .exc0 c ∨ ∃ f y, d = .exc1 c f y) (he : (∃ k, e = .ref k ∧ u = .ref k) ∨ ∃ n, e = .ty n ∧ u = .type n) (hc : ExcC K c) (hk : PySem.W.kitOne K (.ref c) u = some b) : RcP (rIsiA K) [d, e] (.bl b) := fun own H vs o hx Q q => by
  have fin : ∀ {v w : V} {a : Addr} {dd : Option Addr}, vs = [v, w] → v = .ref a → H a = some (Caught (.ref c) dd a) → (∀ x, dd = some x → ∃ fs, H x = some (.xd fs)) → ClsV w u → rIsiA K vs H Q := fun {v w a dd} e1 e2 h1 h2 hw => by
    subst e1 e2
    exact .inr (.inl ⟨a, c, dd, w, u, b, rfl, h1, h2, hc, hw, hk, q _ H (Same.refl H) (.bl b)⟩)
  cases hx with
  | cons h1 t =>
    cases t with
    | cons h2 t2 =>
      cases t2
      have hw : ∀ {w : V}, IsT own H w e → ClsV w u := fun {w} hw => by
        rcases he with ⟨k, rfl, rfl⟩ | ⟨n, rfl, rfl⟩
        · cases hw; exact .own k
        · cases hw; exact .ty n
      rcases hd with rfl | ⟨f, y, rfl⟩
      · cases h1 with
        | exc0 ha n => exact fin rfl rfl ha (fun x z => by cases z) (hw h2)
      · cases h1 with
        | exc1 ha n hx m i => exact fin rfl rfl ha (fun x z => by cases z; exact ⟨_, hx⟩) (hw h2)
theorem isi_plain {d e : D} {u : Value} {b : Bool} (hd : tyOf d ≠ "") (he : (∃ k, e = .ref k ∧ u = .ref k) ∨ ∃ n, e = .ty n ∧ u = .type n) (hk : PySem.W.kitOne K (.type (tyOf d)) u = some b) : RcP (rIsiA K) [d, e] (.bl b) := fun own H vs o hx Q q => by
  cases hx with
  | cons h1 t =>
    cases t with
    | cons h2 t2 =>
      cases t2
      have hw : ∀ {w : V}, IsT own H w e → ClsV w u := fun {w} hw => by
        rcases he with ⟨k, rfl, rfl⟩ | ⟨n, rfl, rfl⟩
        · cases hw; exact .own k
        · cases hw; exact .ty n
      exact .inl ⟨_, _, _, _, b, rfl, hw h2, h1.tyx hd, hk, q _ H (Same.refl H) (.bl _)⟩
theorem so_isi : SCb (rIsiA K) (cIsi K) := fun ds Q h => by
  unfold cIsi at h
  split at h
  · obtain ⟨hc, b, hk, q⟩ := h; exact ⟨_, isi_exc (.inl rfl) (.inl ⟨_, rfl, rfl⟩) hc hk, q⟩
  · obtain ⟨hc, b, hk, q⟩ := h; exact ⟨_, isi_exc (.inr ⟨_, _, rfl⟩) (.inl ⟨_, rfl, rfl⟩) hc hk, q⟩
  · obtain ⟨hc, b, hk, q⟩ := h; exact ⟨_, isi_exc (.inl rfl) (.inr ⟨_, rfl, rfl⟩) hc hk, q⟩
  · obtain ⟨hc, b, hk, q⟩ := h; exact ⟨_, isi_exc (.inr ⟨_, _, rfl⟩) (.inr ⟨_, rfl, rfl⟩) hc hk, q⟩
  · obtain ⟨b, hk, q⟩ := h
    unfold isTyD at hk
    split at hk
    · cases hk
    · rename_i hd
      exact ⟨_, isi_ty hd hk, q⟩
  · obtain ⟨hd, b, hk, q⟩ := h; exact ⟨_, isi_plain hd (.inl ⟨_, rfl, rfl⟩) hk, q⟩
  · obtain ⟨hd, ns, b, e1, e2, q⟩ := h
    refine ⟨_, fun own H vs o hx Q' q' => ?_, q⟩
    cases hx with
    | cons h1 t =>
      cases t with
      | cons h2 t2 =>
        cases t2
        cases h2 with
        | tup g1 n1 a1 => exact .inr (.inr ⟨_, _, _, _, _, b, rfl, g1, tysD_is a1 e1, h1.tyx hd, kitAny_ty e2, q' _ H (Same.refl H) (.bl _)⟩)
  · exact h.elim
/-- isinstance(a, b): the class is looked at as it is -/
def aIsi (K : PySem.W.Frag) (a b : AE) : AE := fun δ Γ P X => a δ Γ (fun d Γ1 => b δ Γ1 (fun e Γ2 => cIsi K [rs Γ2 d, e] (fun z => P z Γ2)) X) X
theorem se_isi {ta tb : WX → TE} {ua ub : AE} (sa : SE ta ua) (sb : SE tb ub) : SE (fun W => tCB (rIsiA K) (tCons (ta W) (tCons (tb W) tNil))) (aIsi K ua ub) := fun fr H0 W δ Γ P X h σ H E i Q q =>
  sa fr H0 W δ Γ _ X h σ H E i _ fun v d Γ1 H1 k1 i1 is1 p1 => sb fr H0 W δ Γ1 _ X p1 σ H1 (E.kp k1) i1 _ fun u e Γ2 H2 k2 i2 is2 p2 => by
    obtain ⟨z, rz, pz⟩ := so_isi _ _ p2
    exact rz (ownG fr Γ2) H2 [v, u] (inv_ok i2) (.cons (rs_ok i2.1 (is1.kp k2)) (.cons is2.toT .nil)) Q fun w H3 s3 is3 => q w z Γ2 H3 ((k1.trans k2).trans (Kp.same s3)) ((JX fr H0 W X).stab _ _ _ i2 s3) is3 pz
/-- the field of a caught exception -/
def aXc (K : PySem.W.Frag) (f : Str) (a : AE) : AE := fun δ Γ P X => a δ Γ (fun d Γ1 => match d with
  | .exc1 c g y => XfC K c ∧ PySem.W.findIn K (.ref c) f = some none ∧ g = f ∧ P y Γ1
  | _ => False) X
theorem se_xc {f : Str} {ta : WX → TE} {ua : AE} (sa : SE ta ua) : SE (fun W => tXc K f (ta W)) (aXc K f ua) := fun fr H0 W δ Γ P X h σ H E i Q q =>
  sa fr H0 W δ Γ _ X h σ H E i _ fun v d Γ1 H1 k1 i1 is1 p1 => by
    cases d with
    | exc1 c g y =>
      obtain ⟨hx, hf, rfl, p⟩ := p1
      cases is1 with
      | exc1 ha n hd m iv => exact ⟨_, _, _, _, _, rfl, ha, hx, hf, hd, by simp [List.lookup], q _ _ Γ1 H1 k1 i1 iv p⟩
    | _ => exact p1.elim
def aDNew : AE := fun _ Γ P _ => P (.dct []) Γ
theorem se_dnew : SE (fun _ => tFrz tDNewK) aDNew := se_p fun δ Γ P X h => ⟨_, fun own σ H o E Q q => fun p hp => ⟨p, _, rfl, upd_same, trivial, fun od => by
  rw [upd_upd]
  exact q _ _ (same_new hp) (.dct upd_same (o.new hp) .nil)⟩, h⟩
end
end AL

set_option Elab.async false
set_option linter.all false
set_option maxRecDepth 100000
set_option maxHeartbeats 4000000
/-! The abstract layer: calls of defs by name, raise, the draws, the law. -/
namespace AL
open PySem L2 DL PySem.Spec PyProof.Rows
variable [Wd]

/-- how arguments are bound, by the text alone -/
def BindsS (x qual : Str) (st : Stmt) (ps : List Str) : Prop := ∀ (kV doc pm : Value) (an : Option Addr) (cdv ct : Value) (us : List Value), us.length = ps.length → bindArgs (PySem.W.fnOf x qual (defArgs st) (defBody st) (defScope st) .none kV doc pm an cdv ct) ⟨us, []⟩ = pure (ps.zip us)
def BindsK (x qual : Str) (st : Stmt) (ps : List Str) (n : Nat) (ks : List Str) (perm : List Nat) : Prop := ∀ (kV doc pm : Value) (an : Option Addr) (cdv ct : Value) (us ws : List Value), us.length = n → ws.length = ks.length → bindArgs (PySem.W.fnOf x qual (defArgs st) (defBody st) (defScope st) .none kV doc pm an cdv ct) ⟨us, ks.zip ws⟩ = pure (ps.zip (pick perm (us ++ ws)))
/-- a def of the text, found by its name, keeps sp -/
structure ClA (P : Program) (w : World) (K : PySem.W.Frag) (mg : Str → Option Value) (base : Heap) (k : Nat) (x : Str) (st : Stmt) (ps : List Str) (sp : Sp) : Prop where
  ex : ∃ f fd, FnOk P w K mg base (L2.CX P w) k f fd ps sp ∧ Df K mg x st f fd
section
variable {X : Cx} {k : Nat} {x : Str} {st : Stmt} {ps ks : List Str} {sp : Sp} {p pos : Pos} {e : Expr} {es : List Expr} {kws : List Keyword} {t tk : TA} {n : Nat} {W : WX} {perm : List Nat}
theorem pe_clA (C : ClA X.prog X.w X.K X.mg X.base k x st ps sp) (hr : Room k X.A) (hg : Gl X x) (tk : Takes X W) (hb : BindsS x x st ps) (ha : PA X (e :: es) t) (hd : (x == ("__debug__" : Str)) = false := by decide)
    (he : starEach (e :: es) X.env = (false, eval e X.env) :: starEach es X.env := by rfl) (hpl : (backTo pos (starEach es X.env)).any (·.1) = false := by rfl) : PE X (.Call (.Name x p) (e :: es) [] pos) (tCallS sp (WE W) t) := by
  obtain ⟨f, fd, F, D⟩ := C.ex
  exact pe_callS F hr hg D.mg D.fn.kp (D.fn.binds hb) (fun σ => passAt tk σ) ha hd he hpl
theorem pe_clA0 (C : ClA X.prog X.w X.K X.mg X.base k x st ps sp) (hr : Room k X.A) (hg : Gl X x) (tk : Takes X W) (hb : BindsS x x st ps) (hdb : (x == ("__debug__" : Str)) = false := by decide) : PE X (.Call (.Name x p) [] [] pos) (tCallS sp (WE W) tNil) := by
  obtain ⟨f, fd, F, D⟩ := C.ex
  refine ⟨fun pins s σ H Q I h => wpAny_Call_Name_kw (ld_glob I hg D.mg ?_ hdb)⟩
  exact PySem.W.callWith_K0 I.kIn D.fn.kp (run_fnS (us := []) F hr (D.fn.binds hb) (passAt tk σ) I .nil h)
theorem kbn_of {K : PySem.W.Frag} {f : Addr} {fd : FuncData} (F : L2.Fun K x x st f fd) (hb : BindsK x x st ps n ks perm) : KBn K fd ps n ks (fun us ws => pick perm (us ++ ws)) (fun vs zs => pick perm (vs ++ zs)) := by
  obtain ⟨oc, od, kV, doc, pm, an, cdv, ct, osl, rfl, lk, hcd⟩ := F.ex
  exact ⟨fun s us ws X l1 l2 => .of_eq (hb kV doc pm an cdv ct us ws l1 l2), fun r1 r2 => vals_pick (r1.append r2) perm⟩
theorem run_fnK {pins : List (Addr × Obj)} {σ : L2.St} {H : Hp} {s : Shared} {Q : VK} {us ws : List Value} {vs zs : List V} {f : Addr} {fd : FuncData} (F : FnOk X.prog X.w X.K X.mg X.base (L2.CX X.prog X.w) k f fd ps sp) (hr : Room k X.A) (hb : KBn X.K fd ps n ks (fun us ws => pick perm (us ++ ws)) (fun vs zs => pick perm (vs ++ zs)))
    (tk : Takes X W) (I : Inv X pins σ H s) (r : Vals vs us) (rz : Vals zs ws) (l1 : vs.length = n) (l2 : zs.length = ks.length) (h : sp (pick perm (vs ++ zs)) H Q (WE W σ)) : wpAny (model X.prog X.w) X.A (call (.ref f) us (ks.zip ws)) (EP X pins σ Q) X.xe s := by
  refine wpAny_call (codeAny_mono (F.run X.A X.stack s H ⟨us, ks.zip ws⟩ _ _ Q (WE W σ) hr I.env0 (hb.to s us ws I.kIn (r.length.symm.trans l1) (rz.length.symm.trans l2)) (hb.rel r rz) h) fun rr s' hq => ?_)
  cases rr with
  | error e => exact passAt tk σ pins H s e s' I hq
  | ok fl =>
    cases fl with
    | ret u => exact I.after hq
    | next => exact False.elim hq
    | brk => exact False.elim hq
    | cont => exact False.elim hq
theorem pe_clK {tkw : TA} (C : ClA X.prog X.w X.K X.mg X.base k x st ps sp) (hr : Room k X.A) (hg : Gl X x) (tk : Takes X W) (hb : BindsK x x st ps n ks perm) (ha : PA X (e :: es) t) (hkw : PK X kws tkw) (hall : (backToKw pos (keywordEach kws X.env)).all (·.1.isSome) = true := by rfl) (hks : (backToKw pos (keywordEach kws X.env)).filterMap (·.1) = ks := by rfl)
    (hdb : (x == ("__debug__" : Str)) = false := by decide) (he : starEach (e :: es) X.env = (false, eval e X.env) :: starEach es X.env := by rfl)
    (hpl : ((backTo pos (starEach (e :: es) X.env)).any (·.1) || (backToKw pos (keywordEach kws X.env)).any (·.1.isNone)) = false := by rfl) :
    PE X (.Call (.Name x p) (e :: es) kws pos) (tCallK n ks.length sp perm (WE W) t tkw) := by
  obtain ⟨f, fd, F, D⟩ := C.ex
  refine ⟨fun pins s σ H Q I h => wpAny_Call_Name_kw (ld_glob I hg D.mg ?_ hdb)⟩
  refine PySem.W.callWith_KW (h₀ := X.base) I.ok.mod.kin D.fn.kp hall (thn (ha.run pos pins s σ H _ I h) fun us s1 ⟨vs, H1, I1, r, q⟩ => ?_) hpl he
  refine thn (hkw.run pos pins s1 σ H1 _ I1 q) fun ws s2 ⟨zs, H2, I2, rz, l1, l2, q2⟩ => ⟨I2.kIn, ?_⟩
  rw [hks]
  exact run_fnK F hr (kbn_of D.fn hb) tk I2 r rz l1 l2 q2
theorem pe_clK0 {tkw : TA} (C : ClA X.prog X.w X.K X.mg X.base k x st ps sp) (hr : Room k X.A) (hg : Gl X x) (tk : Takes X W) (hb : BindsK x x st ps 0 ks perm) (hkw : PK X kws tkw) (hall : (backToKw pos (keywordEach kws X.env)).all (·.1.isSome) = true := by rfl) (hks : (backToKw pos (keywordEach kws X.env)).filterMap (·.1) = ks := by rfl)
    (hdb : (x == ("__debug__" : Str)) = false := by decide)
    (hpl : ((backTo pos (starEach [] X.env)).any (·.1) || (backToKw pos (keywordEach kws X.env)).any (·.1.isNone)) = false := by rfl) :
    PE X (.Call (.Name x p) [] kws pos) (tCallK 0 ks.length sp perm (WE W) tNil tkw) := by
  obtain ⟨f, fd, F, D⟩ := C.ex
  refine ⟨fun pins s σ H Q I h => wpAny_Call_Name_kw (ld_glob I hg D.mg ?_ hdb)⟩
  refine PySem.W.callWith_KW0 (h₀ := X.base) I.ok.mod.kin D.fn.kp hall ?_ hpl
  refine thn (hkw.run pos pins s σ H _ I h) fun ws s2 ⟨zs, H2, I2, rz, l1, l2, q2⟩ => ⟨I2.kIn, ?_⟩
  rw [hks]
  exact run_fnK (us := []) (vs := []) F hr (kbn_of D.fn hb) tk I2 .nil rz l1 l2 q2
end

/-! ### raise -/
/-- an exception class of the text without own __init__ -/
structure Exc0 (K : PySem.W.Frag) (mg : Str → Option Value) (x : Str) (c : Addr) : Prop where
  q : PySem.W.excIn K c [.type "ValueError", .type "Exception", .type "BaseException", .type "object"] "ValueError.__new__" = true
  g : mg x = some (.ref c)
  k : PySem.W.keepIn K (.ref c) = true
  b : PySem.W.subIn K (.ref c) (.type "BaseException") = some true
  t : PySem.W.typeIn K (.ref c) = some (.type "type")
theorem ps_raise0 {X : Cx} {W : WX} {x m : Str} {c : Addr} {j : Nat} {p p2 p3 pos : Pos} (C : Exc0 X.K X.mg x c) (hc : X.calm = true) (tk : Takes X W) (hg : Gl X x) (hdb : (x == ("__debug__" : Str)) = false := by decide) :
    PS X (.Raise (some (.Call (.Name x p) [.Constant (.str m) j p2] [] p3)) none pos) (tRaise0 W c) := ps_raise hc tk (pmk_own PySem.F.excBase_ValueError C.q C.g C.k (raises_own C.b C.t) hg hdb)
/-- .. with an own __init__(self, y): self.f = y -/
structure Exc1 (P : Program) (w : World) (K : PySem.W.Frag) (mg : Str → Option Value) (base : Heap) (x : Str) (c : Addr) (f : Str) : Prop where
  o : OexC K c
  g : mg x = some (.ref c)
  n : PySem.W.findIn K (.ref c) f = some none
  i : ∃ fI fd ps, PySem.W.findIn K (.ref c) "__init__" = some (some (.ref fI)) ∧ PySem.W.typeIn K (.ref fI) = some (.type "function") ∧ FnOk P w K mg base CX0 1 fI fd ps (spInit K f) ∧ Binds K fd ps []
theorem ps_raise1 {X : Cx} {W : WX} {x f : Str} {c : Addr} {e : Expr} {te : TE} {k : Nat} {p p3 pos : Pos} (C : Exc1 X.prog X.w X.K X.mg X.base x c f) (hc : X.calm = true) (tk : Takes X W) (hr : Room k X.A) (hk : 2 ≤ k) (hg : Gl X x) (he : PE X e te) (hdb : (x == ("__debug__" : Str)) = false := by decide)
    (hs : starEach [e] X.env = (false, eval e X.env) :: starEach [] X.env := by rfl) : PS X (.Raise (some (.Call (.Name x p) [e] [] p3)) none pos) (tRaise1 X.K W c f te) := by
  obtain ⟨fI, fd, ps, h1, h2, F, B⟩ := C.i
  exact ps_raise hc tk (pmk_oex C.o h1 h2 F (hr.mono hk) B .nil pass0 hg C.g (L2.pa_cons he L2.pa_nil hs) hdb hs (by rfl))
theorem ok_init {P : Program} {w : World} {K : PySem.W.Frag} {mg : Str → Option Value} {base : Heap} {qual : Str} {st : Stmt} {f : Addr} {fd : FuncData} {N ps : List Str} {g : Str} (F : L2.Fun K "__init__" qual st f fd) (S : FnScope N ps (defScope st)) (hN : N.length = 2) (hp : ps.length = 2)
    (hbody : ∀ (cdv : Value) (A : Around) (outer : List PySem.Env) (s : Shared) (H : Hp) (E : XK), PSs (cxOf CX0 P w K mg base N qual (defScope st) f cdv A outer s H E).nox (defBody st) (tOst K g (tVar 0) (tVar 1))) : FnOk P w K mg base CX0 1 f fd ps (spInit K g) := by
  refine F.ok S (fun vs H Q E h => ?_) (fun cdv A outer s H vs Q E hr h => ⟨_, hbody cdv A outer s H E, ?_⟩)
  · obtain ⟨a, c, y, rfl, _⟩ := h
    exact hp.symm
  · obtain ⟨a, c, y, rfl, hc, hf, ha, q⟩ := h
    have e : L2.start N [.ref a, y] = [some (.ref a), some y] := by
      unfold L2.start
      rw [hN]
      rfl
    rw [e]
    exact ⟨y, rfl, .ref a, rfl, a, c, rfl, hc, hf, .inl ⟨ha, q⟩⟩

/-! ### the draws -/
theorem fn_toX {P : Program} {w : World} {K : PySem.W.Frag} {mg : Str → Option Value} {base : Heap} {k : Nat} {f : Addr} {fd : FuncData} {ps : List Str} {sp : Sp} (F : FnOk P w K mg base CX0 k f fd ps sp) : FnOk P w K mg base (L2.CX P w) k f fd ps sp :=
  ⟨F.len, fun A outer s H args us vs Q E hr e0 hb r h => codeAny_mono (F.run A outer s H args us vs Q E hr e0 hb r h) fun rr s' hq => by
    cases rr with
    | error e => exact hq.elim
    | ok fl => cases fl <;> exact hq⟩
def Ftake : AF := fun ds Γ P _ => match ds with
  | [.ref a, .int n] => (∃ c, Γ a = some (.draw c)) ∧ 0 < n ∧ n ≤ 1000000 ∧ ∀ i : Int, 0 ≤ i → i < n → P (.int i) Γ
  | _ => False
theorem take_hi {vs : List V} {H : Hp} {Q : VK} {E : XK} (h : spA Ftake vs H Q E) : spD Rtake vs H Q E := by
  obtain ⟨fr, Γ, ds, P, X, i, ia, hF, q, _⟩ := h
  unfold Ftake at hF
  split at hF
  · rename_i a n
    obtain ⟨⟨c, hc⟩, h0, h1, hP⟩ := hF
    have dr : Drw a c H := i.cell a _ hc
    have hs := i.sub a c hc
    have oa : ownG fr Γ a := .inr (by rw [hc]; exact fun z => nomatch z)
    have oc : ownG fr Γ c := .inr (by rw [hs]; exact fun z => nomatch z)
    refine ⟨ownG fr Γ, a, c, [.int n], _, (JG fr H).ok Γ H i, oa, oc, dr, ia, ⟨n, rfl, h0, by omega, rfl⟩, fun v d H' kd dr' is pd => ?_⟩
    obtain ⟨j, rfl, j0, j1⟩ := pd
    have k : Kp (ownG fr Γ) H (ownG fr Γ) H' := fun b o hb nb => ⟨kd b o (fun e => nb (e ▸ oa)) (fun e => nb (e ▸ oc)) hb, nb⟩
    refine q v _ Γ H' k ⟨fun b hb => ?_, fun b cl hb => ?_, i.sub⟩ is (hP j j0 j1)
    · obtain ⟨n, o, h1, h2⟩ := i.frame b hb
      exact ⟨n, o, h1, kd b o (fun e => by rw [e, hc] at n; cases n) (fun e => by rw [e, hs] at n; cases n) h2⟩
    · by_cases ea : b = a
      · subst ea
        rw [hc] at hb
        cases hb
        exact dr'
      · by_cases ec : b = c
        · subst ec
          rw [hs] at hb
          cases hb
          obtain ⟨ns, at', seed, _, h2, _⟩ := dr'
          exact ⟨_, h2⟩
        · have e1 : H' b = H b := by
            obtain ⟨o, ho⟩ := (i.cell b cl hb).some
            rw [ho, kd b o ea ec ho]
          refine (i.cell b cl hb).mv k e1 fun b' e' => ?_
          subst e'
          have hs' := i.sub b b' hb
          have dr2 : Drw b b' H := i.cell b _ hb
          obtain ⟨ns, at', seed, g1, g2, _⟩ := dr2
          by_cases e2 : b' = a
          · rw [e2, hc] at hs'; cases hs'
          · by_cases e3 : b' = c
            · subst e3
              rw [hs] at hs'
              cases hs'
              exact absurd rfl ea
            · rw [g2, kd b' _ e2 e3 g2]
  · exact hF.elim
theorem cl_take {P : Program} {w : World} {K : PySem.W.Frag} {mg : Str → Option Value} {base : Heap} {k : Nat} {x : Str} {st : Stmt} {f : Addr} {fd : FuncData} {ps : List Str} (d : Df K mg x st f fd) (F : FnOk P w K mg base CX0 k f fd ps (spD Rtake)) : ClA P w K mg base k x st ps (spA Ftake) := ⟨f, fd, (fn_toX F).imp fun vs H Q E h => take_hi h, d⟩
theorem ClA.mono {P : Program} {w : World} {K : PySem.W.Frag} {mg : Str → Option Value} {base : Heap} {j k : Nat} {x : Str} {st : Stmt} {ps : List Str} {sp : Sp} (C : ClA P w K mg base j x st ps sp) (h : j ≤ k) : ClA P w K mg base k x st ps sp := by
  obtain ⟨f, fd, F, d⟩ := C.ex
  exact ⟨f, fd, F.mono h, d⟩
theorem cl_never {P : Program} {w : World} {K : PySem.W.Frag} {mg : Str → Option Value} {base : Heap} {k : Nat} {x : Str} {st : Stmt} {f : Addr} {fd : FuncData} {ps : List Str} (d : Df K mg x st f fd) : ClA P w K mg base k x st ps (spA fun _ _ _ _ => False) :=
  ⟨f, fd, fn_never fun vs H Q E ⟨_, _, _, _, _, _, _, h, _⟩ => h, d⟩
theorem cl_of {P : Program} {w : World} {K : PySem.W.Frag} {mg : Str → Option Value} {base : Heap} {k : Nat} {x : Str} {st : Stmt} {f : Addr} {fd : FuncData} {ps : List Str} {sp : Sp} (d : Df K mg x st f fd) (F : FnOk P w K mg base (L2.CX P w) k f fd ps sp) : ClA P w K mg base k x st ps sp := ⟨f, fd, F, d⟩

/-! ### the law -/
/-- the store at the law's start: the draws -/
def sto0 (a c : Addr) : Sto := fun x => if x = a then some (.draw c) else if x = c then some (.sub a) else none
def endsL : AEnds := { nx := fun _ _ => False, rt := fun d _ => d = .bl true, bk := fun _ _ => False, ct := fun _ _ => False, ex := fun _ _ _ => False }
theorem ok_lawA {P : Program} {w : World} {K : PySem.W.Frag} {mg : Str → Option Value} {base : Heap} {x qual : Str} {st : Stmt} {f : Addr} {fd : FuncData} {N : List Str} {k n : Nat} {rest : WX → TS} {u : AS} (F : L2.Fun K x qual st f fd) (S : FnScope N ["_law_script"] (defScope st)) (hN : N.length = n + 2) (hu : SS rest u)
    (hbody : ∀ (cdv : Value) (A : Around) (outer : List PySem.Env) (s : Shared) (H : Hp) (E : XK), Room k (A.deeper (PyProof.Rows.envOfC qual (defScope st) s.heap.objs.size f cdv)) →
      PSs (cxOf (L2.CX P w) P w K mg base N qual (defScope st) f cdv A outer s H E) (defBody st) (tSeq (tAsg (tCallS (spBegin K) (WE fun cls d _ H' => E cls d H') (tCons (tVar 0) tNil)) (gName 1)) (rest fun cls d _ H' => E cls d H')))
    (hlaw : ∀ a c, a ≠ c → u endsL (none :: some (.ref a) :: List.replicate n none) (sto0 a c)) : FnOk P w K mg base (L2.CX P w) (k + 1) f fd ["_law_script"] (spLaw K) := by
  refine F.okX S (fun vs H Q E h => ?_) (fun cdv A outer s H vs Q E hr h => ?_)
  · obtain ⟨a, ns, rfl, _⟩ := h
    rfl
  · obtain ⟨a0, ns, rfl, hS, h63, q⟩ := h
    refine ⟨_, hbody cdv A outer s H E hr, ?_⟩
    have e : L2.start N [.ref a0] = some (.ref a0) :: none :: List.replicate n none := by
      unfold L2.start
      rw [hN]
      rfl
    rw [e]
    refine ⟨_, rfl, a0, ns, rfl, hS, h63, fun a c H1 s1 ha hc dr => ?_⟩
    show rest _ { nx := fun _ H' => Q .non H', rt := Q } (some (.ref a0) :: some (.ref a) :: List.replicate n none) H1
    have nac : a ≠ c := by
      obtain ⟨_, _, _, _, _, h, _⟩ := dr
      exact h
    have iG : InvG (fun _ => False) H1 (sto0 a c) H1 := by
      refine ⟨fun _ z => z.elim, fun b cl hb => ?_, fun b cl hb => ?_⟩
      · unfold sto0 at hb
        split at hb
        · rename_i e'
          cases hb
          subst e'
          exact dr
        · split at hb
          · rename_i e'
            cases hb
            subst e'
            obtain ⟨_, _, _, _, h2, _⟩ := dr
            exact ⟨_, h2⟩
          · cases hb
      · unfold sto0 at hb ⊢
        split at hb
        · rename_i e'
          cases hb
          subst e'
          rw [if_neg (fun z => nac z.symm), if_pos rfl]
        · split at hb <;> cases hb
    have nones : ∀ m : Nat, EnvR (ownG (fun _ => False) (sto0 a c)) H1 (List.replicate m none) (List.replicate m none) := fun m => by
      induction m with
      | zero => exact .nil
      | succ m ih => rw [List.replicate_succ, List.replicate_succ]; exact .skip ih
    exact hu (fun _ => False) H1 _ _ (sto0 a c) endsL (hlaw a c nac) _ _ H1 (.skip (.cons (.ref a) (nones n))) ⟨iG, fun _ _ _ _ _ _ _ _ _ _ _ z => z.elim⟩ (fun _ _ _ _ _ _ _ z => z.elim) (fun v d s' H' kp i is e => by
      have e' : d = .bl true := e
      subst e'
      cases is
      exact q H') (fun _ _ _ _ _ _ _ z => z.elim) (fun _ _ _ _ _ _ _ z => z.elim)
omit [Wd] in
/-- the end of a law's row -/
theorem walkA {l : PySem.W.OpenLaw} {k : Nat} {q : Program} {loose : List Str} {XP : (Str → Option Value) → Heap → Prop} {YP : World → Heap → Prop} {d : DefRec} {K : Params → PySem.W.Frag} (hn : l.most = some 63) (hdf : d.params.defaults = []) (hr : Room k callerA)
    (hY : ∀ (w : World) (h : Heap), YP w h → (K w.params).In h)
    (F : ∀ (w : World) (mg : Str → Option Value) (fa : Addr) (h : Heap), (K w.params).In h → h.Ns mainGlobals mg → mg d.name = some (.ref fa) →
      ∃ fd : FuncData, (∀ (s : Shared) (u : Value), BindsTo s fd ⟨[u], []⟩ [("_law_script", u)]) ∧ ∀ base : Heap, (K w.params).In base → base.Ns mainGlobals mg → FnOk l.prog w (K w.params) mg base (L2.CX l.prog w) k fa fd ["_law_script"] (spLaw (K w.params))) :
    PySem.W.WalkO q loose XP YP l.row.toRowW d [] (fun f vs => PySem.call f vs) :=
  L2.walk_of (n := 63) (k := k) (x := "_law_script") (CX := fun w => L2.CX l.prog w) (sp := fun w => spLaw (K w.params)) hn (by decide) hdf hr hY F (fun _ _ a ns hl _ hS => ⟨a, ns, rfl, hS, hl, fun _ => rfl⟩) fun _ _ _ _ _ z => by
    obtain ⟨_, _, _, _, _, _, _, _, _, _, _, _, z⟩ := z
    exact z.elim
end AL

set_option Elab.async false
set_option linter.all false
set_option maxRecDepth 100000
set_option maxHeartbeats 4000000
/-! The abstract layer: more operators; owned lists. -/
namespace AL
open PySem L2 DL PySem.Spec PyProof.Rows
variable [Wd]

/-! ### x < y -/
def rLtD (K : PySem.W.Frag) : R2 := fun x y H Q => ∃ d e, Dp K H x d ∧ Dp K H y e ∧ PySem.W.alike d e = true ∧ d ≠ .none ∧ d.depth ≤ 64 ∧ Q (.bl (PySem.W.dataLt d e)) H
theorem op_ltD {X : Cx} (hu : X.A.units + 64 < cLine) : OpR X (compareOp .Lt) (rLtD X.K) := by
  intro pins s σ H x y v u Q I rx ry h
  obtain ⟨d, e, hd, he, al, nn, dp, q⟩ := h
  obtain ⟨as, r1⟩ := Dp.reads I d x v hd rx
  obtain ⟨bs, r2⟩ := Dp.reads I e y u he ry
  exact PySem.W.rcLt_alike d e X.A s v u as bs r1 r2 al nn (by have := Nat.min_le_left d.depth e.depth; omega) X.prog X.w _ _ ⟨.bl _, H, I, rfl, q⟩
def rLtB (K : PySem.W.Frag) : R2 := fun x y H Q => (rI0 fun i j => .bl (decide (i < j))) x y H Q ∨ rLtD K x y H Q
theorem op_ltB {X : Cx} (hu : X.A.units + 64 < cLine) : OpR X (compareOp .Lt) (rLtB X.K) := op_lt.or (op_ltD hu)
def ltD (d e : D) : Bool := PySem.W.dataLt (toPy d) (toPy e)
def alikeD (d e : D) : Bool := PySem.W.alike (toPy d) (toPy e)
def oLtB : A2 := fun d e Q => match d, e with
  | .int i, .int j => Q (.bl (decide (i < j)))
  | .tup xs, .tup ys => cmpOk (.tup xs) ∧ cmpOk (.tup ys) ∧ alikeD (.tup xs) (.tup ys) = true ∧ Q (.bl (ltD (.tup xs) (.tup ys)))
  | _, _ => False
section
variable {K : PySem.W.Frag}
theorem so_ltB : SOp (rLtB K) oLtB := fun d e Q h => by
  unfold oLtB at h
  split at h
  · exact ⟨_, rv_inl rv_intB, h⟩
  · rename_i xs ys
    obtain ⟨h1, h2, h3, q⟩ := h
    exact ⟨_, rv_inr fun own H x y o hx hy Q q => ⟨_, _, hx.dp h1.1, hy.dp h2.1, h3, fun z => by simp [toPy] at z, by rw [depth_toPy]; exact h1.2, q _ H (Same.refl H) (.bl _)⟩, q⟩
  · exact h.elim
abbrev rEqB := rEqA
abbrev rNeB := rNeA
theorem op_eqB {X : Cx} (hu : X.A.units + 64 < cLine) : OpR X (compareOp .Eq) (rEqB X.K) := op_eqA hu
theorem op_neB {X : Cx} (hu : X.A.units + 64 < cLine) : OpR X (compareOp .NotEq) (rNeB X.K) := op_neA hu
abbrev oEqB := oEq
abbrev oNeB := oNe
theorem so_eqB : SOp (rEqB K) oEqB := so_eq
theorem so_neB : SOp (rNeB K) oNeB := so_ne
abbrev rInB := rInA
abbrev rNotInB := rNotInA
theorem op_inB {X : Cx} : OpR X (compareOp .In) (rInB X.K) := op_inA
theorem op_notInB {X : Cx} : OpR X (compareOp .NotIn) (rNotInB X.K) := op_notInA
abbrev oInB := oIn
abbrev oNotInB := oNotIn
theorem so_inB : SOp (rInB K) oInB := so_in
theorem so_notInB : SOp (rNotInB K) oNotInB := so_notIn
abbrev rIxB := rIx
theorem ix_B {X : Cx} : IxR X (rIxB X.K) := ix_seq
abbrev oIxB := oIx
theorem so_ixB : SOp (rIxB K) oIxB := so_ix

/-! ### a text several times -/
def rStrMul : R2 := fun x y H Q => ∃ (a : Str) (n : Int), x = .str a ∧ y = .int n ∧ 0 ≤ n ∧ n ≤ 1000 ∧ a.length ≤ 1000 ∧ Q (.str (repS a n.toNat)) H
theorem foldl_flat (x : Array Nat) : ∀ (n : Nat) (acc : Array Nat), ((List.replicate n x).foldl (· ++ ·) acc).toList = acc.toList ++ (List.replicate n x.toList).flatten
  | 0, acc => by simp
  | n + 1, acc => by
    rw [List.replicate_succ, List.foldl_cons, foldl_flat x n, List.replicate_succ, List.flatten_cons, Array.toList_append, List.append_assoc]
theorem repS_one (a : Str) : repS a 1 = a := by
  obtain ⟨x⟩ := a
  simp [repS]
theorem repS_empty {a : Str} (h : a.length = 0) (n : Nat) : repS a n = a := by
  obtain ⟨x⟩ := a
  have hx : x = #[] := Array.eq_empty_of_size_eq_zero h
  subst hx
  simp [repS]
theorem op_strMul {X : Cx} : OpR X (binaryOp .Mult) rStrMul := by
  intro pins s σ H x y v u Q I rx ry h
  obtain ⟨a, n, rfl, rfl, h0, h1, ha, q⟩ := h
  obtain ⟨t, rfl⟩ := (show ∃ t, v = Value.str a t from rx)
  obtain ⟨t', rfl⟩ := (show ∃ t, u = Value.int n t from ry)
  have e1 : decide (n < -(2 ^ 63 : Int)) = false := decide_eq_false (by omega)
  have e2 : decide (n ≥ 2 ^ 63) = false := decide_eq_false (by omega)
  have big : a.length * n.toNat ≤ 1000000 := by
    have h2 : n.toNat ≤ 1000 := by omega
    exact Nat.le_trans (Nat.mul_le_mul ha h2) (by decide)
  have long : a.length * n.toNat ≤ sizeLine := Nat.le_trans big (by rw [sizeLine_eq]; decide)
  refine P.mul_str (by rw [e1, e2]; rfl) (fun h2 h3 h4 => ?_) (fun h2 h3 => ?_) ?_
  · have h6 : (1000 : Int) ≤ (2 ^ 63 - 1) / n := by
      apply Int.le_ediv_of_mul_le (by omega)
      omega
    have h7 : (a.length : Int) ≤ 1000 := by exact_mod_cast ha
    omega
  · exact decide_eq_false (by omega)
  · by_cases c1 : n < 1
    · rw [if_pos c1]
      have : n = 0 := by omega
      subst this
      exact ⟨by decide, .str _, H, I.tok _, ⟨_, rfl⟩, q⟩
    · rw [if_neg c1]
      by_cases c2 : (n == 1 || a.length == 0) = true
      · rw [if_pos c2]
        have e : repS a n.toNat = a := by
          rcases Bool.or_eq_true_iff.mp c2 with z | z
          · have : n = 1 := by simpa using z
            subst this
            exact repS_one a
          · exact repS_empty (by simpa using z) _
        rw [e] at q
        exact ⟨.str _, H, I, ⟨_, rfl⟩, q⟩
      · rw [if_neg c2]
        have e : (⟨(List.replicate n.toNat a.cps).foldl (· ++ ·) #[]⟩ : Str) = repS a n.toNat := by
          unfold repS
          congr 1
          apply Array.toList_inj.mp
          rw [foldl_flat]
          simp
        rw [e]
        refine ⟨?_, .str _, H, I.tok _, ⟨_, rfl⟩, q⟩
        have e3 : (repS a n.toNat).length = a.length * n.toNat := by
          show (List.replicate n.toNat a.cps.toList).flatten.toArray.size = _
          rw [List.size_toArray, List.length_flatten, List.map_replicate, List.sum_replicate_nat, Nat.mul_comm]
          rfl
        rw [e3]
        exact long
def rMulB (K : PySem.W.Frag) : R2 := fun x y H Q => rMulA K x y H Q ∨ rStrMul x y H Q
theorem op_mulB {X : Cx} : OpR X (binaryOp .Mult) (rMulB X.K) := op_mulA.or op_strMul
def oMulB : A2 := fun d e Q => match d, e with
  | .str x, .int n => 0 ≤ n ∧ n ≤ 1000 ∧ x.length ≤ 1000 ∧ Q (.str (repS x n.toNat))
  | d, e => oMul d e Q
theorem so_mulB : SOp (rMulB K) oMulB := fun d e Q h => by
  unfold oMulB at h
  split at h
  · obtain ⟨h1, h2, h3, q⟩ := h
    exact ⟨_, rv_inr fun own H x y o hx hy Q q => by cases hx; cases hy; exact ⟨_, _, rfl, rfl, h1, h2, h3, q _ H (Same.refl H) (.str _)⟩, q⟩
  · obtain ⟨z, h1, h2⟩ := so_mul d e Q h
    exact ⟨z, rv_inl h1, h2⟩
/-! ### join -/
def rJoin (K : PySem.W.Frag) : V → List V → Hp → VK → Prop := fun x xs H Q => ∃ a p, ∃ ys : List Str, x = .str a ∧ xs = [.ref p] ∧ (SqL K H p (ys.map V.str) ∨ SqT K H p (ys.map V.str)) ∧ (ys.map (·.length)).sum + ys.length * a.length ≤ 16777216 ∧ Q (.str (Txt.join a ys)) H
def tJoin (K : PySem.W.Frag) (to te : TE) : TE := tM1 (rJoin K) to te
def aJoin (a b : AE) : AE := fun δ Γ P X => a δ Γ (fun d Γ1 => match d with
  | .str x => b δ Γ1 (fun e Γ2 => match rs Γ2 e with
    | .lst xs => ∃ ys, strsD xs = some ys ∧ (ys.map (·.length)).sum + ys.length * x.length ≤ 16777216 ∧ P (.str (Txt.join x ys)) Γ2
    | _ => False) X
  | _ => False) X
theorem se_join {ta tb : WX → TE} {ua ub : AE} (sa : SE ta ua) (sb : SE tb ub) : SE (fun W => tJoin K (ta W) (tb W)) (aJoin ua ub) := fun fr H0 W δ Γ P X h σ H E i Q q =>
  sa fr H0 W δ Γ _ X h σ H E i _ fun v d Γ1 H1 k1 i1 is1 p1 => by
    cases d with
    | str x =>
      cases is1
      refine ⟨⟨x, rfl⟩, sb fr H0 W δ Γ1 _ X p1 σ H1 (E.kp k1) i1 _ fun u e Γ2 H2 k2 i2 is2 p2 => ?_⟩
      have ir := rs_ok i2.1 is2
      split at p2
      · rename_i xs hx
        obtain ⟨ys, e1, e2, p⟩ := p2
        rw [hx] at ir
        cases ir with
        | lst h1 n1 a1 =>
          rw [strsD_map e1] at a1
          have e3 := a1.strs
          subst e3
          exact ⟨x, _, ys, rfl, rfl, .inl (SqL.of h1), e2, q _ _ Γ2 H2 (k1.trans k2) i2 (.str _) p⟩
      · exact p2.elim
    | _ => exact p1.elim
/-! ### max(.., default=0) -/
def maxI : List Int → Int
  | [] => 0
  | n :: ns => ns.foldl max n
def rMaxDf (K : PySem.W.Frag) : List V → List V → Hp → VK → Prop := fun xs zs H Q => ∃ (a : Addr) (ns : List Int), xs = [.ref a] ∧ zs = [.int 0] ∧ SqL K H a (ns.map V.int) ∧ Q (.int (maxI ns)) H
theorem dp_ints {H : Hp} : ∀ ns : List Int, DpAll K H (ns.map V.int) (ns.map PyData.int)
  | [] => .nil
  | n :: ns => .cons (.int n) (dp_ints ns)
theorem depth_pints : ∀ ns : List Int, PyData.depthAll (ns.map PyData.int) = 0
  | [] => by simp [PyData.depthAll]
  | n :: ns => by simp [PyData.depthAll, PyData.depth, depth_pints ns]
theorem call_maxDf {X : Cx} (hc : X.calm = true) (hu : X.A.units + 64 < cLine) : CallRK X (.builtin "max") ["default"] (rMaxDf X.K) := by
  intro pins s σ H xs zs us ws Q I r rz h
  obtain ⟨a, ns, rfl, rfl, hs, q⟩ := h
  obtain ⟨its, rv, hl, _⟩ := I.list hs
  rw [Vals.ref1 r]
  cases rz with
  | cons r1 r2 =>
    cases r2
    obtain ⟨t, rfl⟩ := r1
    obtain ⟨as, hr⟩ := Dp.readsAll I (ns.map PyData.int) (ns.map V.int) its (dp_ints ns) rv
    refine PySem.W.max_list_default (I.ok.hd hc) hl.isList (by simpa using hr) ⟨fun x hx y hy => ?_, fun x hx => ?_⟩ (by rw [depth_pints]; omega) (fun e h' tk hk => ?_) (fun y ys i v h' tk bs e hi hrd hk => ?_)
    · obtain ⟨_, _, rfl⟩ := List.mem_map.mp hx
      obtain ⟨_, _, rfl⟩ := List.mem_map.mp hy
      rfl
    · obtain ⟨_, _, rfl⟩ := List.mem_map.mp hx
      exact fun z => nomatch z
    · cases ns with
      | nil => exact ⟨.int 0, H, I.kept hk, ⟨_, rfl⟩, q⟩
      | cons n ns => cases e
    · cases ns with
      | nil => cases e
      | cons n ns =>
        cases e
        rw [PySem.W.maxD_ints] at hrd
        cases hrd
        exact ⟨.int (maxI (n :: ns)), H, I.kept hk, ⟨_, rfl⟩, q⟩
def tMaxD (K : PySem.W.Frag) (te : TE) : TE := tCKw (rMaxDf K) (tCons te tNil) (tCons (tC (.int 0)) tNil)
def aMaxD (a : AE) : AE := fun δ Γ P X => a δ Γ (fun d Γ1 => match rs Γ1 d with
  | .lst xs => ∃ ns, intsD xs = some ns ∧ P (.int (maxI ns)) Γ1
  | _ => False) X
theorem se_maxD {ta : WX → TE} {ua : AE} (sa : SE ta ua) : SE (fun W => tMaxD K (ta W)) (aMaxD ua) := fun fr H0 W δ Γ P X h σ H E i Q q =>
  sa fr H0 W δ Γ _ X h σ H E i _ fun v d Γ1 H1 k1 i1 is1 p1 => by
    have ir := rs_ok i1.1 is1
    split at p1
    · rename_i xs hx
      obtain ⟨ns, e1, p⟩ := p1
      rw [hx] at ir
      cases ir with
      | lst h1 n1 a1 =>
        rw [intsD_map e1] at a1
        have e3 := a1.ints
        subst e3
        exact ⟨_, ns, rfl, rfl, SqL.of h1, q _ _ Γ1 H1 k1 i1 (.int _) p⟩
    · exact p1.elim
end
/-! ### += -/
def aAug (i : Nat) (a : AE) : AS := fun Po δ Γ => match δ[i]? with
  | some (some (.int n)) => a δ Γ (fun d Γ1 => match d with
    | .int m => Po.nx (δ.set i (some (.int (n + m)))) Γ1
    | _ => False) Po.ex
  | _ => False
theorem ss_aug {i : Nat} {ta : WX → TE} {ua : AE} (sa : SE ta ua) : SS (fun W => tAug i (ta W) (ipI fun i j => i + j)) (aAug i ua) := fun fr H0 W δ Γ Po h En σ H E iv q1 q2 q3 q4 => by
  unfold aAug at h
  split at h
  · rename_i n hn
    obtain ⟨v, hv, is0⟩ := E.get hn
    cases is0
    refine ⟨_, hv, sa fr H0 W δ Γ _ _ h σ H E iv _ fun u d Γ1 H1 k1 i1 is1 p1 => ?_⟩
    cases d with
    | int m =>
      cases is1
      exact ⟨n, m, rfl, rfl, q1 _ _ Γ1 H1 k1 i1 ((E.kp k1).set i (.int _)) p1⟩
    | _ => exact p1.elim
  · exact h.elim
end AL

set_option Elab.async false
set_option linter.all false
set_option maxRecDepth 100000
set_option maxHeartbeats 4000000
/-! The abstract layer: owned lists. -/
namespace AL
open PySem L2 DL PySem.Spec PyProof.Rows
variable [Wd]
def upS (Γ : Sto) (p : Addr) (c : Cell) : Sto := fun a => if a = p then some c else Γ a
def era (Γ : Sto) (p : Addr) : Sto := fun a => if a = p then none else Γ a
theorem upS_same {Γ : Sto} {p : Addr} {c : Cell} : upS Γ p c p = some c := by unfold upS; rw [if_pos rfl]
theorem upS_ne {Γ : Sto} {p a : Addr} {c : Cell} (h : a ≠ p) : upS Γ p c a = Γ a := by unfold upS; rw [if_neg h]
theorem era_same {Γ : Sto} {p : Addr} : era Γ p p = none := by unfold era; rw [if_pos rfl]
theorem era_ne {Γ : Sto} {p a : Addr} (h : a ≠ p) : era Γ p a = Γ a := by unfold era; rw [if_neg h]
/-- a new cell -/
theorem new_ok {fr : Own} {H0 H : Hp} {Γ : Sto} {p : Addr} {o : HO} {c : Cell} (i : InvG fr H0 Γ H) (hp : H p = none) (hc : CellOk (ownG fr (upS Γ p c)) (upd H p o) p c) (hd : ∀ b, c ≠ .draw b) : Kp (ownG fr Γ) H (ownG fr (upS Γ p c)) (upd H p o) ∧ InvG fr H0 (upS Γ p c) (upd H p o) ∧ Γ p = none := by
  have nf : ¬ fr p := fun z => by
    obtain ⟨_, o, _, h2⟩ := i.frame p z
    rw [hp] at h2; cases h2
  have nG : Γ p = none := by
    cases e : Γ p with
    | none => rfl
    | some c' =>
      obtain ⟨o, ho⟩ := (i.cell p c' e).some
      rw [hp] at ho; cases ho
  have k : Kp (ownG fr Γ) H (ownG fr (upS Γ p c)) (upd H p o) := fun a o' ha na => ⟨same_new hp a o' ha, fun z => by
    rcases z with z | z
    · exact na (.inl z)
    · by_cases e : a = p
      · subst e; rw [hp] at ha; cases ha
      · rw [upS_ne e] at z; exact na (.inr z)⟩
  refine ⟨k, ⟨fun a ha => ?_, fun a cl ha => ?_, fun a b ha => ?_⟩, nG⟩
  · obtain ⟨n, o', h1, h2⟩ := i.frame a ha
    have ne : a ≠ p := fun z => nf (z ▸ ha)
    exact ⟨by rw [upS_ne ne]; exact n, o', h1, same_new hp a o' h2⟩
  · by_cases e : a = p
    · subst e
      rw [upS_same] at ha
      cases ha
      exact hc
    · rw [upS_ne e] at ha
      refine (i.cell a cl ha).mv k (upd_ne e) fun b hb => upd_ne fun z => ?_
      subst hb
      have := i.sub a b ha
      rw [z, nG] at this
      cases this
  · by_cases e : a = p
    · subst e
      rw [upS_same] at ha
      cases ha
      exact absurd rfl (hd b)
    · rw [upS_ne e] at ha
      have hs := i.sub a b ha
      have ne : b ≠ p := fun z => by rw [z, nG] at hs; cases hs
      rw [upS_ne ne]
      exact hs
/-- a cell changed -/
theorem chg_ok {fr : Own} {H0 H : Hp} {Γ : Sto} {p : Addr} {o : HO} {c c0 : Cell} (i : InvG fr H0 Γ H) (hp : Γ p = some c0) (h0 : ∀ b, c0 ≠ .draw b) (h0' : ∀ b, c0 ≠ .sub b) (hc : CellOk (ownG fr (upS Γ p c)) (upd H p o) p c) (hd : ∀ b, c ≠ .draw b) : Kp (ownG fr Γ) H (ownG fr (upS Γ p c)) (upd H p o) ∧ InvG fr H0 (upS Γ p c) (upd H p o) := by
  have k : Kp (ownG fr Γ) H (ownG fr (upS Γ p c)) (upd H p o) := fun a o' ha na => by
    have ne : a ≠ p := fun z => na (.inr (by rw [z, hp]; exact fun y => nomatch y))
    exact ⟨by rw [upd_ne ne]; exact ha, fun z => by
      rcases z with z | z
      · exact na (.inl z)
      · rw [upS_ne ne] at z; exact na (.inr z)⟩
  refine ⟨k, ⟨fun a ha => ?_, fun a cl ha => ?_, fun a b ha => ?_⟩⟩
  · obtain ⟨n, o', h1, h2⟩ := i.frame a ha
    have ne : a ≠ p := fun z => by rw [z, hp] at n; cases n
    exact ⟨by rw [upS_ne ne]; exact n, o', h1, by rw [upd_ne ne]; exact h2⟩
  · by_cases e : a = p
    · subst e
      rw [upS_same] at ha
      cases ha
      exact hc
    · rw [upS_ne e] at ha
      refine (i.cell a cl ha).mv k (upd_ne e) fun b hb => upd_ne fun z => ?_
      subst hb
      have := i.sub a b ha
      rw [z, hp] at this
      cases this
      exact h0' a rfl
  · by_cases e : a = p
    · subst e
      rw [upS_same] at ha
      cases ha
      exact absurd rfl (hd b)
    · rw [upS_ne e] at ha
      have hs := i.sub a b ha
      have ne : b ≠ p := fun z => by
        rw [z, hp] at hs
        cases hs
        exact h0' a rfl
      rw [upS_ne ne]
      exact hs
/-- a list display that is owned -/
def aLstO (a : AA) : AE := fun δ Γ P X => a δ Γ (fun ds Γ1 => ds.length ≤ sizeLine ∧ ∀ p, Γ1 p = none → P (.ref p) (upS Γ1 p (.lst ds))) X
theorem se_lstO {tA : WX → TA} {uA : AA} (sa : SA tA uA) : SE (fun W => tLst (tA W)) (aLstO uA) := fun fr H0 W δ Γ P X h σ H E i Q q =>
  sa fr H0 W δ Γ _ X h σ H E i _ fun vs ds Γ1 H1 k1 i1 is1 ⟨hl, p1⟩ => ⟨by rw [is1.length]; exact hl, fun p hp => by
    have kk : Kp (ownG fr Γ1) H1 (ownG fr (upS Γ1 p (.lst ds))) (upd H1 p (.lst vs)) := fun a o' ha na => ⟨same_new hp a o' ha, fun z => by
      rcases z with z | z
      · exact na (.inl z)
      · by_cases e : a = p
        · subst e; rw [hp] at ha; cases ha
        · rw [upS_ne e] at z; exact na (.inr z)⟩
    obtain ⟨k2, i2, n2⟩ := new_ok (c := .lst ds) (o := .lst vs) i1.1 hp ⟨vs, upd_same, is1.kp kk⟩ (fun b z => nomatch z)
    exact q (.ref p) _ _ _ (k1.trans k2) (ex_inv i1 k2 i2) (.ref p) (p1 p n2)⟩
/-- the slot's owned list becomes data -/
def aFree (i : Nat) (u : AS) : AS := fun Po δ Γ => match δ[i]? with
  | some (some (.ref p)) => (match Γ p with
    | some (.lst ds) => u Po (δ.set i (some (.lst ds))) (era Γ p)
    | _ => False)
  | _ => False
/-- the slot's owned dict becomes data -/
def aFreeD (i : Nat) (u : AS) : AS := fun Po δ Γ => match δ[i]? with
  | some (some (.ref p)) => (match Γ p with
    | some (.dct kvs) => u Po (δ.set i (some (.dct kvs))) (era Γ p)
    | _ => False)
  | _ => False
theorem era_mv {fr : Own} {H0 H H' : Hp} {Γ : Sto} {p : Addr} {c : Cell} (i : InvG fr H0 Γ H) (hp : Γ p = some c) (h0 : ∀ b, c ≠ .sub b) (h00 : ∀ b, c ≠ .draw b) (e : ∀ a, a ≠ p → H' a = H a) : Kp (ownG fr Γ) H (ownG fr (era Γ p)) H' ∧ InvG fr H0 (era Γ p) H' ∧ ¬ ownG fr (era Γ p) p := by
  have k : Kp (ownG fr Γ) H (ownG fr (era Γ p)) H' := fun a o ha na => by
    have ne : a ≠ p := fun z => na (.inr (by rw [z, hp]; exact fun y => nomatch y))
    exact ⟨by rw [e a ne]; exact ha, fun z => by
      rcases z with z | z
      · exact na (.inl z)
      · rw [era_ne ne] at z; exact na (.inr z)⟩
  refine ⟨k, ⟨fun a ha => ?_, fun a cl ha => ?_, fun a b ha => ?_⟩, fun z => ?_⟩
  · obtain ⟨n, o', h1, h2⟩ := i.frame a ha
    have ne : a ≠ p := fun z => by rw [z, hp] at n; cases n
    exact ⟨by rw [era_ne ne]; exact n, o', h1, by rw [e a ne]; exact h2⟩
  · have ne : a ≠ p := fun z => by rw [z, era_same] at ha; cases ha
    rw [era_ne ne] at ha
    refine (i.cell a cl ha).mv k (e a ne) fun b hb => e b fun z => ?_
    subst hb
    have hs := i.sub a b ha
    rw [z, hp] at hs
    cases hs
    exact h0 a rfl
  · have ne : a ≠ p := fun z => by rw [z, era_same] at ha; cases ha
    rw [era_ne ne] at ha
    have hs := i.sub a b ha
    have ne : b ≠ p := fun z => by
      rw [z, hp] at hs
      cases hs
      exact h0 a rfl
    rw [era_ne ne]
    exact hs
  · rcases z with z | z
    · obtain ⟨n, _⟩ := i.frame p z
      rw [hp] at n; cases n
    · exact z era_same
theorem era_ok {fr : Own} {H0 H : Hp} {Γ : Sto} {p : Addr} {c : Cell} (i : InvG fr H0 Γ H) (hp : Γ p = some c) (h0 : ∀ b, c ≠ .sub b) (h00 : ∀ b, c ≠ .draw b) : Kp (ownG fr Γ) H (ownG fr (era Γ p)) H ∧ InvG fr H0 (era Γ p) H ∧ ¬ ownG fr (era Γ p) p := era_mv i hp h0 h00 fun _ _ => rfl
theorem ss_free {i : Nat} {ts : WX → TS} {us : AS} (h1 : SS ts us) : SS ts (aFree i us) := fun fr H0 W δ Γ Po h En σ H E iv q1 q2 q3 q4 => by
  unfold aFree at h
  split at h
  · rename_i p hp
    obtain ⟨v, hv, is0⟩ := E.get hp
    cases is0
    have hi : i < σ.length := by
      rcases Nat.lt_or_ge i σ.length with z | z
      · exact z
      · rw [List.getElem?_eq_none z] at hv; cases hv
    have fin : ∀ {d : D} {c : Cell}, Γ p = some c → (∀ b, c ≠ .sub b) → (∀ b, c ≠ .draw b) → (∀ own', Kp (ownG fr Γ) H own' H → ¬ own' p → Is own' H (.ref p) d) → us Po (δ.set i (some d)) (era Γ p) → ts W En σ H := fun {d c} hc h0 h00 hd hu => by
      obtain ⟨k, i2, np⟩ := era_ok iv.1 hc h0 h00
      have E2 : EnvR (ownG fr (era Γ p)) H (σ.set i (some (.ref p))) (δ.set i (some d)) := (E.kp k).set i (hd _ k np)
      have es : σ.set i (some (.ref p)) = σ := List.ext_getElem? fun j => by
        by_cases e : j = i
        · subst e
          rw [List.getElem?_set_self hi, hv]
        · rw [List.getElem?_set_ne (Ne.symm e)]
      rw [es] at E2
      exact h1 fr H0 W _ _ Po hu En σ H E2 (ex_inv iv k i2) (fun σ' δ' Γ' H' a b c p => q1 σ' δ' Γ' H' (k.trans a) b c p) (fun v d Γ' H' a b c p => q2 v d Γ' H' (k.trans a) b c p) (fun σ' δ' Γ' H' a b c p => q3 σ' δ' Γ' H' (k.trans a) b c p) (fun σ' δ' Γ' H' a b c p => q4 σ' δ' Γ' H' (k.trans a) b c p)
    split at h
    · rename_i ds hc
      obtain ⟨vs, h2, h3⟩ := iv.1.cell p _ hc
      exact fin hc (fun b z => nomatch z) (fun b z => nomatch z) (fun own' k np => .lst h2 np (h3.kp k)) h
    · exact h.elim
  · exact h.elim
/-- an owned dict, frozen -/
theorem frz_ok {fr : Own} {H0 H : Hp} {Γ : Sto} {p : Addr} {kvs : List (D × D)} (i : InvG fr H0 Γ H) (hc : Γ p = some (.dct kvs)) : ∃ u, H p = some u ∧ Mut (some u) ∧ ∀ od, Kp (ownG fr Γ) H (ownG fr (era Γ p)) (upd H p (.frz od u)) ∧ InvG fr H0 (era Γ p) (upd H p (.frz od u)) ∧ Is (ownG fr (era Γ p)) (upd H p (.frz od u)) (.ref p) (.dct kvs) := by
  have e : ∀ u a, a ≠ p → upd H p u a = H a := fun u a ne => upd_ne ne
  rcases i.cell p _ hc with ⟨vs, h1, h2⟩ | ⟨vs, h1, h2, ne⟩
  · refine ⟨_, h1, trivial, fun od => ?_⟩
    obtain ⟨k, i2, np⟩ := era_mv i hc (fun b z => nomatch z) (fun b z => nomatch z) (e (.frz od (.dK vs)))
    exact ⟨k, i2, .dct upd_same np (IsKV.kp h2 k)⟩
  · refine ⟨_, h1, trivial, fun od => ?_⟩
    obtain ⟨k, i2, np⟩ := era_mv i hc (fun b z => nomatch z) (fun b z => nomatch z) (e (.frz od (DnO p vs)))
    exact ⟨k, i2, .dcn upd_same np (IsKN.kp h2 k) ne⟩
theorem ss_freeD {i : Nat} {ts : WX → TS} {us : AS} (h1 : SS ts us) : SS (fun W => tFrzS (ts W)) (aFreeD i us) := fun fr H0 W δ Γ Po h En σ H E iv q1 q2 q3 q4 => by
  unfold aFreeD at h
  split at h
  · rename_i p hp
    obtain ⟨v, hv, is0⟩ := E.get hp
    cases is0
    have hi : i < σ.length := by
      rcases Nat.lt_or_ge i σ.length with z | z
      · exact z
      · rw [List.getElem?_eq_none z] at hv; cases hv
    split at h
    · rename_i kvs hc
      obtain ⟨u, hu, mu, fin⟩ := frz_ok iv.1 hc
      refine ⟨p, u, hu, mu, fun od => ?_⟩
      obtain ⟨k, i2, hd⟩ := fin od
      have E2 : EnvR (ownG fr (era Γ p)) (upd H p (.frz od u)) (σ.set i (some (.ref p))) (δ.set i (some (.dct kvs))) := (E.kp k).set i hd
      have es : σ.set i (some (.ref p)) = σ := List.ext_getElem? fun j => by
        by_cases e : j = i
        · subst e
          rw [List.getElem?_set_self hi, hv]
        · rw [List.getElem?_set_ne (Ne.symm e)]
      rw [es] at E2
      exact h1 fr H0 W _ _ Po h En σ _ E2 (ex_inv iv k i2) (fun σ' δ' Γ' H' a b c p => q1 σ' δ' Γ' H' (k.trans a) b c p) (fun v d Γ' H' a b c p => q2 v d Γ' H' (k.trans a) b c p) (fun σ' δ' Γ' H' a b c p => q3 σ' δ' Γ' H' (k.trans a) b c p) (fun σ' δ' Γ' H' a b c p => q4 σ' δ' Γ' H' (k.trans a) b c p)
    · exact h.elim
  · exact h.elim
/-! ### methods that change an owned list -/
abbrev AM := List D → List D → (D → List D → Prop) → Prop
def SM (r : V → List V → Hp → VK → Prop) (m : AM) : Prop := ∀ (own : Own) (H : Hp) (p : Addr) (vs ws : List V) (xs ds : List D) (R : D → List D → Prop) (Q : VK), H p = some (.lst vs) → IsAll own H vs xs → IsAll own H ws ds → m xs ds R →
  (∀ v z vs' ys, R z ys → Is own H v z → IsAll own H vs' ys → Q v (upd H p (.lst vs'))) → r (.ref p) ws H Q
def onL (Γ : Sto) (d : D) (f : Addr → List D → Prop) : Prop := match d with
  | .ref p => (match Γ p with
    | some (.lst xs) => f p xs
    | _ => False)
  | _ => False
theorem onL_iff {Γ : Sto} {d : D} {f : Addr → List D → Prop} (h : onL Γ d f) : ∃ p xs, d = .ref p ∧ Γ p = some (.lst xs) ∧ f p xs := by
  unfold onL at h
  split at h
  · split at h
    · exact ⟨_, _, rfl, by assumption, h⟩
    · exact h.elim
  · exact h.elim
def aMu (m : AM) (o : AE) (a : AA) : AE := fun δ Γ P X => o δ Γ (fun d Γ1 => onL Γ1 d fun _ _ => a δ Γ1 (fun ds Γ2 => onL Γ2 d fun p xs => m xs ds fun z ys => P z (upS Γ2 p (.lst ys))) X) X
theorem se_mu {K : PySem.W.Frag} {r : V → List V → Hp → VK → Prop} {m : AM} {to : WX → TE} {uo : AE} {tA : WX → TA} {uA : AA} (sm : SM r m) (so : SE to uo) (sa : SA tA uA) : SE (fun W => tBM K "list" r (to W) (tA W)) (aMu m uo uA) := fun fr H0 W δ Γ P X h σ H E i Q q =>
  so fr H0 W δ Γ _ X h σ H E i _ fun v d Γ1 H1 k1 i1 is1 p1 => by
    obtain ⟨p, xs, rfl, hc, p1⟩ := onL_iff p1
    cases is1
    obtain ⟨vs, hv, _⟩ := i1.1.cell p _ hc
    refine ⟨.inl ⟨rfl, vs, SqL.of hv⟩, sa fr H0 W δ Γ1 _ X p1 σ H1 (E.kp k1) i1 _ fun ws ds Γ2 H2 k2 i2 is2 p2 => ?_⟩
    obtain ⟨p', xs', e, hc2, p2⟩ := onL_iff p2
    cases e
    obtain ⟨vs2, hv2, ia2⟩ := i2.1.cell p _ hc2
    refine sm (ownG fr Γ2) H2 p vs2 ws xs' ds _ Q hv2 ia2 is2 p2 fun v z vs' ys hR hz hys => ?_
    have kk : Kp (ownG fr Γ2) H2 (ownG fr (upS Γ2 p (.lst ys))) (upd H2 p (.lst vs')) := fun a o' ha na => by
      have ne : a ≠ p := fun z => na (.inr (by rw [z, hc2]; exact fun y => nomatch y))
      exact ⟨by rw [upd_ne ne]; exact ha, fun z => by
        rcases z with z | z
        · exact na (.inl z)
        · rw [upS_ne ne] at z; exact na (.inr z)⟩
    obtain ⟨k3, i3⟩ := chg_ok (c := .lst ys) (o := .lst vs') i2.1 hc2 (fun b z => nomatch z) (fun b z => nomatch z) ⟨vs', upd_same, hys.kp kk⟩ (fun b z => nomatch z)
    exact q v z _ _ ((k1.trans k2).trans k3) (ex_inv i2 k3 i3) (hz.kp kk) hR
theorem se_mu0 {K : PySem.W.Frag} {r : V → List V → Hp → VK → Prop} {m : AM} {to : WX → TE} {uo : AE} (sm : SM r m) (so : SE to uo) : SE (fun W => tBM0 K "list" r (to W)) (aMu m uo aNil) := fun fr H0 W δ Γ P X h σ H E i Q q =>
  so fr H0 W δ Γ _ X h σ H E i _ fun v d Γ1 H1 k1 i1 is1 p1 => by
    obtain ⟨p, xs, rfl, hc, p1⟩ := onL_iff p1
    cases is1
    obtain ⟨vs, hv, ia⟩ := i1.1.cell p _ hc
    obtain ⟨p', xs', e, hc2, p2⟩ := onL_iff (show onL Γ1 (.ref p) fun p xs => m xs [] fun z ys => P z (upS Γ1 p (Cell.lst ys)) from p1)
    cases e
    rw [hc] at hc2
    cases hc2
    refine ⟨.inl ⟨rfl, vs, SqL.of hv⟩, sm (ownG fr Γ1) H1 p vs [] xs [] _ Q hv ia .nil p2 fun v z vs' ys hR hz hys => ?_⟩
    have kk : Kp (ownG fr Γ1) H1 (ownG fr (upS Γ1 p (.lst ys))) (upd H1 p (.lst vs')) := fun a o' ha na => by
      have ne : a ≠ p := fun z => na (.inr (by rw [z, hc]; exact fun y => nomatch y))
      exact ⟨by rw [upd_ne ne]; exact ha, fun z => by
        rcases z with z | z
        · exact na (.inl z)
        · rw [upS_ne ne] at z; exact na (.inr z)⟩
    obtain ⟨k3, i3⟩ := chg_ok (c := .lst ys) (o := .lst vs') i1.1 hc (fun b z => nomatch z) (fun b z => nomatch z) ⟨vs', upd_same, hys.kp kk⟩ (fun b z => nomatch z)
    exact q v z _ _ (k1.trans k3) (ex_inv i1 k3 i3) (hz.kp kk) hR
def mAppend : AM := fun xs ds R => match ds with
  | [d] => xs.length < sizeLine ∧ R .non (xs ++ [d])
  | _ => False
theorem sm_append : SM rAppend mAppend := fun own H p vs ws xs ds R Q hp ia iw hm k => by
  unfold mAppend at hm
  split at hm
  · cases iw with
    | cons i1 t1 =>
      cases t1
      exact ⟨p, vs, _, rfl, rfl, hp, by rw [ia.length]; exact hm.1, k _ _ _ _ hm.2 .non (ia.append (IsAll.one i1))⟩
  · exact hm.elim
def mReverse : AM := fun xs ds R => ds = [] ∧ R .non xs.reverse
theorem all_reverse {own : Own} {H : Hp} : ∀ {vs : List V} {ds : List D}, IsAll own H vs ds → IsAll own H vs.reverse ds.reverse
  | _, _, .nil => .nil
  | _, _, .cons h t => by
    rw [List.reverse_cons, List.reverse_cons]
    exact (all_reverse t).append (IsAll.one h)
theorem sm_reverse : SM rReverse mReverse := fun own H p vs ws xs ds R Q hp ia iw ⟨e, hm⟩ k => by
  subst e
  cases iw
  exact ⟨p, vs, rfl, rfl, hp, k _ _ _ _ hm .non (all_reverse ia)⟩
def mPop : AM := fun xs ds R => ds = [] ∧ ∃ z, xs[xs.length - 1]? = some z ∧ R z xs.dropLast
theorem all_dropLast {own : Own} {H : Hp} {vs : List V} {ds : List D} (h : IsAll own H vs ds) : IsAll own H vs.dropLast ds.dropLast := by
  rw [List.dropLast_eq_take, List.dropLast_eq_take, h.length]
  exact h.take _
theorem sm_pop : SM rPop mPop := fun own H p vs ws xs ds R Q hp ia iw ⟨e, z, hz, hm⟩ k => by
  subst e
  cases iw
  obtain ⟨v, hv, iz⟩ := ia.get hz
  exact ⟨p, vs, v, rfl, rfl, hp, by rw [ia.length]; exact hv, k _ _ _ _ hm iz (all_dropLast ia)⟩
end AL

set_option Elab.async false
set_option linter.all false
set_option maxRecDepth 100000
set_option maxHeartbeats 4000000
/-! The abstract layer: comprehensions with two fors, of dicts; list(dict); results that are owned. -/
namespace AL
open PySem L2 DL PySem.Spec PyProof.Rows
variable [Wd]
theorem it_gen {J : It} {n : Nat} {G : Hp → Prop} {Y : Nat → Hp → V → Hp → Prop} (w : Walk J n G Y) {Body : (Hp → Prop) → V → Hp → Prop} {H0 : Hp} {Qd : Hp → Prop} (Pv : Nat → Hp → Prop) (h0 : Pv 0 H0) (hG : ∀ i H, i ≤ n → Pv i H → G H)
    (hs : ∀ i x H H', i < n → Pv i H → Y i H x H' → Body (Pv (i + 1)) x H') (hd : ∀ H, Pv n H → Qd H) :
    ∃ W : Nat → Nat → Hp → Prop, (∃ m, W 0 m H0) ∧ ∀ i m H, W i m H → (J.stop i H ∧ Qd H) ∨ (J.go i H ∧ ∃ Nx : Hp → Prop, (∀ H', Nx H' → ∃ m', m' < m ∧ W (i + 1) m' H') ∧ ∀ x H', J.yld i H x H' → Body Nx x H') := by
  refine ⟨fun i m H => m = n - i ∧ i ≤ n ∧ Pv i H, ⟨n, rfl, Nat.zero_le _, h0⟩, ?_⟩
  rintro i m H ⟨rfl, hi, p⟩
  have q := hG i H hi p
  rcases Nat.lt_or_ge i n with hlt | hge
  · exact .inr ⟨w.goes i H hlt q, Pv (i + 1), fun H' p' => ⟨n - (i + 1), by omega, rfl, hlt, p'⟩, fun x H' y => hs i x H H' hlt p (w.yields i H x H' hlt q y)⟩
  · have e : i = n := by omega
    subst e
    exact .inl ⟨w.stops H q, hd H p⟩
theorem wipe_twice (σ : L2.St) (vs : List Nat) : wipe (wipe σ vs) vs = wipe σ vs := by
  apply List.ext_getElem?
  intro n
  rw [wipe_at, wipe_at, wipe_length]
  by_cases hn : n ∈ vs
  · rw [if_pos hn, if_pos hn]
  · rw [if_neg hn, if_neg hn]
/-- frames with one more -/
abbrev frP (fr : Own) (Dl : Addr) : Own := fun a => fr a ∨ a = Dl
theorem put_kp {fr : Own} {Γ : Sto} {H : Hp} {Dl : Addr} {o : HO} : Kp (ownG (frP fr Dl) Γ) H (ownG (frP fr Dl) Γ) (upd H Dl o) := fun a o' ha na => ⟨by rw [upd_ne (fun z => na (.inl (.inr z)))]; exact ha, na⟩
theorem put_inv {fr : Own} {Γ : Sto} {H0 H : Hp} {Dl : Addr} {o : HO} (i : InvG (frP fr Dl) H0 Γ H) : InvG (frP fr Dl) (upd H Dl o) Γ (upd H Dl o) := by
  have nD := (i.frame Dl (.inr rfl)).1
  refine i.mv put_kp (fun a ha => upd_ne fun z => ha (z ▸ nD)) fun a ha => ?_
  obtain ⟨n, o', h1, h2⟩ := i.frame a ha
  by_cases ea : a = Dl
  · subst ea
    exact ⟨n, _, upd_same, upd_same⟩
  · exact ⟨n, o', by rw [upd_ne ea]; exact h2, by rw [upd_ne ea]; exact h2⟩
/-- the loop that appends to the list at Dl -/
theorem app_loop {fr : Own} {Dl : Addr} {J : It} {ys : List D} {g : TG} {ug : AG} {tt : WX → TT} {ut : AT} {te : WX → TE} {ue : AE} {vs : List Nat} {δ : DL.Env} {σ : L2.St} {Γ1 : Sto} {H1 : Hp} {acc : List V} {ds : List D} {P : List D → Sto → Prop} {Nx : Hp → Prop} (nf : ¬ fr Dl)
    (hm : ∀ d δ (P Q : DL.Env → Prop), (∀ δ', P δ' → Q δ') → ug d δ P → ug d δ Q) (sg : SGw vs g ug) (st : ST tt ut) (se : SE te ue) (w : WalkE (ownG (frP fr Dl) Γ1) H1 J ys) (E : EnvR (ownG (frP fr Dl) Γ1) H1 σ δ) (i1 : InvG (frP fr Dl) H1 Γ1 H1) (hl : H1 Dl = some (.lst acc)) (ia : IsAll (ownG (frP fr Dl) Γ1) H1 acc ds)
    (hz : ds.length + ys.length < sizeLine) (p1 : aLcL ug ut ue (wipeD δ vs) ys ds Γ1 P)
    (k : ∀ Γ' H' acc' ds', Kp (ownG (frP fr Dl) Γ1) H1 (ownG (frP fr Dl) Γ') H' → (∀ a, fr a → H' a = H1 a) → InvG (frP fr Dl) H' Γ' H' → H' Dl = some (.lst acc') → IsAll (ownG (frP fr Dl) Γ') H' acc' ds' → P ds' Γ' → Nx H') :
    ∃ W : Nat → Nat → Hp → Prop, (∃ m, W 0 m H1) ∧ ∀ j m H, W j m H → (J.stop j H ∧ Nx H) ∨ (J.go j H ∧ ∃ Nx1 : Hp → Prop, (∀ H', Nx1 H' → ∃ m', m' < m ∧ W (j + 1) m' H') ∧ ∀ x H', J.yld j H x H' → g x (wipe σ vs) H' fun σ3 H5 => wipe σ3 vs = wipe σ vs ∧ tt W0 σ3 H5 fun b H6 =>
      if b = true then te W0 σ3 H6 fun y H7 => ∃ acc, H7 Dl = some (.lst acc) ∧ acc.length < sizeLine ∧ Nx1 (upd H7 Dl (.lst (acc ++ [y]))) else Nx1 H6) := by
  refine it_gen w (Body := fun N x H' => g x (wipe σ vs) H' fun σ3 H5 => wipe σ3 vs = wipe σ vs ∧ tt W0 σ3 H5 fun b H6 => if b = true then te W0 σ3 H6 fun y H7 => ∃ acc, H7 Dl = some (.lst acc) ∧ acc.length < sizeLine ∧ N (upd H7 Dl (.lst (acc ++ [y]))) else N H6)
    (fun j H' => ∃ Γ' acc' ds', Kp (ownG (frP fr Dl) Γ1) H1 (ownG (frP fr Dl) Γ') H' ∧ (∀ a, fr a → H' a = H1 a) ∧ InvG (frP fr Dl) H' Γ' H' ∧ H' Dl = some (.lst acc') ∧ IsAll (ownG (frP fr Dl) Γ') H' acc' ds' ∧ ds'.length ≤ ds.length + j ∧ aLcL ug ut ue (wipeD δ vs) (ys.drop j) ds' Γ' P)
    ⟨Γ1, acc, ds, Kp.refl, fun _ _ => rfl, i1, hl, ia, Nat.le_refl _, p1⟩ (fun j H' _ ⟨Γ', acc', ds', k, _⟩ a o ha na => (k a o ha na).1) (fun j x H' H'' hj ⟨Γ', acc', ds', k', fr', iv, hl', ia', hn, pv⟩ y => ?_) (fun H' ⟨Γ', acc', ds', k', fr', iv, hl', ia', hn, pv⟩ => ?_)
  · obtain ⟨sm, d, hd', isy⟩ := y
    have is := isy _ ((JG _ _).ok Γ' H' iv) k'
    have fr' : ∀ a, fr a → H'' a = H1 a := fun a ha => by
      obtain ⟨_, o, h3, _⟩ := iv.frame a (.inl ha)
      rw [sm a o h3, ← h3]
      exact fr' a ha
    have k' := k'.trans (Kp.same sm)
    have iv : InvG (frP fr Dl) H'' Γ' H'' := ((JG (frP fr Dl) H').stab Γ' H' H'' iv sm).now
    have hl' := sm _ _ hl'
    have ia' := ia'.kp (Kp.same (own := ownG (frP fr Dl) Γ') sm)
    rw [get_drop hd'] at pv
    refine sg (ownG (frP fr Dl) Γ') H'' x d (wipe σ vs) (wipeD δ vs) _ is ((E.kp k').wipe vs) (hm _ _ _ _ (fun δ2 hq σ2 E2 e2 => ⟨e2.trans (wipe_twice σ vs), ?_⟩) pv)
    refine st _ H'' W0 δ2 Γ' _ X0 hq σ2 H'' E2 ⟨iv, fun _ _ _ _ _ _ _ _ _ _ _ z => z.elim⟩ _ fun b Γ2 H2 k2 i2 p2 => ?_
    have fr2 : ∀ {Γ3 : Sto} {H3 : Hp}, InvG (frP fr Dl) H'' Γ3 H3 → ∀ a, fr a → H3 a = H1 a := fun {Γ3 H3} j3 a ha => by
      obtain ⟨n, o', h3, h4⟩ := j3.frame a (.inl ha)
      rw [h4, ← h3, fr' a ha]
    cases b with
    | false =>
      obtain ⟨_, o, ho, ho'⟩ := i2.1.frame Dl (.inr rfl)
      rw [hl'] at ho
      cases ho
      exact ⟨Γ2, acc', ds', k'.trans k2, fr2 i2.1, i2.1.now, ho', ia'.kp k2, by omega, p2.2 rfl⟩
    | true =>
      show te W0 σ2 H2 _
      refine se _ H'' W0 δ2 Γ2 _ X0 (p2.1 rfl) σ2 H2 (E2.kp k2) i2 _ fun v d2 Γ4 H4 k4 i4 is4 p4 => ?_
      obtain ⟨nD4, o, ho, ho'⟩ := i4.1.frame Dl (.inr rfl)
      rw [hl'] at ho
      cases ho
      have ia4 : IsAll (ownG (frP fr Dl) Γ4) H4 acc' ds' := (ia'.kp k2).kp k4
      have hlen := ia4.length
      refine ⟨acc', ho', by rw [hlen]; omega, Γ4, acc' ++ [v], ds' ++ [d2], ((k'.trans k2).trans k4).trans put_kp, fun a ha => ?_, put_inv i4.1, upd_same, (ia4.kp put_kp).append (IsAll.one (is4.kp put_kp)), by rw [List.length_append, List.length_singleton]; omega, p4⟩
      have ne : a ≠ Dl := fun z => nf (z ▸ ha)
      rw [upd_ne ne]
      exact fr2 i4.1 a ha
  · rw [List.drop_length] at pv
    exact k Γ' H' acc' ds' k' fr' iv hl' ia' pv
/-! ### [e for x in .. for y in ..] -/
def aLc2L (g : AG) (t : AT) (i1 : AI) (g1 : AG) (t1 : AT) (e : AE) (vs1 : List Nat) (δ : DL.Env) : List D → List D → Sto → (List D → Sto → Prop) → Prop
  | [], acc, Γ, P => P acc Γ
  | x :: xs, acc, Γ, P => g x δ fun δ' => t δ' Γ (fun b Γ1 => by2 b (i1 δ' Γ1 (fun ys Γ2 => acc.length + ys.length < sizeLine ∧ aLcL g1 t1 e (wipeD δ' vs1) ys acc Γ2 fun acc' Γ3 => aLc2L g t i1 g1 t1 e vs1 δ xs acc' Γ3 P) X0) (aLc2L g t i1 g1 t1 e vs1 δ xs acc Γ1 P)) X0
def aLc2 (i : AI) (g : AG) (t : AT) (i1 : AI) (g1 : AG) (t1 : AT) (e : AE) (vs vs1 : List Nat) : AE := fun δ Γ P X => i δ Γ (fun xs Γ1 => aLc2L g t i1 g1 t1 e vs1 (wipeD δ vs) xs [] Γ1 fun ds Γ2 => P (.lst ds) Γ2) X
theorem se_lc2 {ti ti1 : WX → TI} {ui ui1 : AI} {g g1 : TG} {ug ug1 : AG} {tt tt1 : WX → TT} {ut ut1 : AT} {te : WX → TE} {ue : AE} {vs vs1 : List Nat} (si : SI ti ui) (hm : ∀ d δ (P Q : DL.Env → Prop), (∀ δ', P δ' → Q δ') → ug d δ P → ug d δ Q) (sg : SGw vs g ug) (st : ST tt ut)
    (si1 : SI ti1 ui1) (hm1 : ∀ d δ (P Q : DL.Env → Prop), (∀ δ', P δ' → Q δ') → ug1 d δ P → ug1 d δ Q) (sg1 : SGw vs1 g1 ug1) (st1 : ST tt1 ut1) (se : SE te ue) : SE (fun W => tLc2 (ti W) g (tt W0) (ti1 W0) g1 (tt1 W0) (te W0) vs vs1) (aLc2 ui ug ut ui1 ug1 ut1 ue vs vs1) := fun fr H0 W δ Γ P X h σ H E i Q q =>
  si fr H0 W δ Γ _ X h σ H E i _ fun I xs Γ1 H1 k1 i1 w p1 => fun Dl hD => by
    have nf : ¬ fr Dl := fun z => by
      obtain ⟨_, o, _, h2⟩ := i1.1.frame Dl z
      rw [hD] at h2; cases h2
    have nD : Γ1 Dl = none := by
      cases hc : Γ1 Dl with
      | none => rfl
      | some c =>
        obtain ⟨o, ho⟩ := (i1.1.cell Dl c hc).some
        rw [hD] at ho; cases ho
    have kD : Kp (ownG fr Γ1) H1 (ownG (frP fr Dl) Γ1) (upd H1 Dl (.lst [])) := fun a o ha na => ⟨same_new hD a o ha, fun z => by
      rcases z with (z | z) | z
      · exact na (.inl z)
      · subst z; rw [hD] at ha; cases ha
      · exact na (.inr z)⟩
    refine it_gen w (fun j H' => ∃ Γ' acc ds, Kp (ownG fr Γ1) H1 (ownG (frP fr Dl) Γ') H' ∧ (∀ a, fr a → H' a = H1 a) ∧ InvG (frP fr Dl) H' Γ' H' ∧ H' Dl = some (.lst acc) ∧ IsAll (ownG (frP fr Dl) Γ') H' acc ds ∧ aLc2L ug ut ui1 ug1 ut1 ue vs1 (wipeD δ vs) (xs.drop j) ds Γ' fun ds Γ2 => P (.lst ds) Γ2)
      ⟨Γ1, [], [], kD, fun a ha => upd_ne fun z => nf (z ▸ ha), i1.1.mv kD (fun a ha => upd_ne fun z => ha (z ▸ nD)) fun a ha => ?_, upd_same, .nil, p1⟩ (fun j H' _ ⟨Γ', acc, ds, k, _⟩ a o ha na => (k a o ha na).1) (fun j x H' H'' hj ⟨Γ', acc, ds, k, fr', iv, hl, ia, pv⟩ y => ?_) (fun H' ⟨Γ', acc, ds, k, fr', iv, hl, ia, pv⟩ => ?_)
    · rcases ha with ha | ha
      · obtain ⟨n, o, _, h2⟩ := i1.1.frame a ha
        exact ⟨n, o, same_new hD a o h2, same_new hD a o h2⟩
      · subst ha
        exact ⟨nD, _, upd_same, upd_same⟩
    · obtain ⟨sm, d, hd', isy⟩ := y
      have is := isy _ ((JG _ _).ok Γ' H' iv) k
      have fr' : ∀ a, fr a → H'' a = H1 a := fun a ha => by
        obtain ⟨_, o, h3, _⟩ := iv.frame a (.inl ha)
        rw [sm a o h3, ← h3]
        exact fr' a ha
      have k := k.trans (Kp.same sm)
      have iv : InvG (frP fr Dl) H'' Γ' H'' := ((JG (frP fr Dl) H').stab Γ' H' H'' iv sm).now
      have hl := sm _ _ hl
      have ia := ia.kp (Kp.same (own := ownG (frP fr Dl) Γ') sm)
      rw [get_drop hd'] at pv
      refine sg (ownG (frP fr Dl) Γ') H'' x d (wipe σ vs) (wipeD δ vs) _ is (((E.kp k1).kp k).wipe vs) (hm _ _ _ _ (fun δ2 hq σ2 E2 e2 => ⟨e2.trans (wipe_twice σ vs), ?_⟩) pv)
      refine st _ H'' W0 δ2 Γ' _ X0 hq σ2 H'' E2 ⟨iv, fun _ _ _ _ _ _ _ _ _ _ _ z => z.elim⟩ _ fun b Γ2 H2 k2 i2 p2 => ?_
      have fr2 : ∀ {Γ3 : Sto} {H3 : Hp}, InvG (frP fr Dl) H'' Γ3 H3 → ∀ a, fr a → H3 a = H1 a := fun {Γ3 H3} j3 a ha => by
        obtain ⟨n, o', h3, h4⟩ := j3.frame a (.inl ha)
        rw [h4, ← h3, fr' a ha]
      cases b with
      | false =>
        obtain ⟨_, o, ho, ho'⟩ := i2.1.frame Dl (.inr rfl)
        rw [hl] at ho
        cases ho
        exact ⟨Γ2, acc, ds, k.trans k2, fr2 i2.1, i2.1.now, ho', ia.kp k2, p2.2 rfl⟩
      | true =>
        show ti1 W0 σ2 H2 _
        refine si1 _ H'' W0 δ2 Γ2 _ X0 (p2.1 rfl) σ2 H2 (E2.kp k2) i2 _ fun I1 ys Γ4 H4 k4 i4 w1 ⟨hz, p4⟩ => ?_
        obtain ⟨nD4, o, ho, ho'⟩ := i4.1.frame Dl (.inr rfl)
        rw [hl] at ho
        cases ho
        refine app_loop nf hm1 sg1 st1 se w1 ((E2.kp k2).kp k4) i4.1.now ho' ((ia.kp k2).kp k4) hz p4 fun Γ5 H5 acc5 ds5 k5 f5 i5 h5 a5 p5 => ?_
        exact ⟨Γ5, acc5, ds5, ((k.trans k2).trans k4).trans k5, fun a ha => (f5 a ha).trans (fr2 i4.1 a ha), i5, h5, a5, p5⟩
    · have kk : Kp (ownG (frP fr Dl) Γ') H' (ownG fr Γ') H' := fun a o ha na => ⟨ha, fun z => na (by
        rcases z with z | z
        · exact .inl (.inl z)
        · exact .inr z)⟩
      rw [List.drop_length] at pv
      have nD' := (iv.frame Dl (.inr rfl)).1
      have kq := (k1.trans k).trans kk
      refine q (.ref Dl) (.lst ds) Γ' H' kq (ex_inv i kq (i1.1.then (plus_shrink iv fun a ha => ?_))) (.lst hl (fun z => ?_) (ia.kp kk)) pv
      · obtain ⟨_, o, _, h2⟩ := i1.1.frame a ha
        exact ⟨o, h2, (fr' a ha).trans h2⟩
      · rcases z with z | z
        · exact nf z
        · exact z nD'
end AL

set_option Elab.async false
set_option linter.all false
set_option maxRecDepth 100000
set_option maxHeartbeats 4000000
/-! The abstract layer: dict comprehensions; list(dict); owned results. -/
namespace AL
open PySem L2 DL PySem.Spec PyProof.Rows
variable [Wd]
/-! ### {k: v for x in ..} -/
def aDcL (g : AG) (t : AT) (ek ev : AE) (δ : DL.Env) : List D → List (D × D) → Sto → (List (D × D) → Sto → Prop) → Prop
  | [], acc, Γ, P => P acc Γ
  | x :: xs, acc, Γ, P => g x δ fun δ' => t δ' Γ (fun b Γ1 => by2 b (ek δ' Γ1 (fun kd Γ2 => ev δ' Γ2 (fun vd Γ3 => (keyD kd).isSome = true ∧ aDcL g t ek ev δ xs (putD acc kd vd) Γ3 P) X0) X0) (aDcL g t ek ev δ xs acc Γ1 P)) X0
def aDc (i : AI) (g : AG) (t : AT) (ek ev : AE) (vs : List Nat) : AE := fun δ Γ P X => i δ Γ (fun xs Γ1 => xs.length < sizeLine ∧ aDcL g t ek ev (wipeD δ vs) xs [] Γ1 fun kvs Γ2 => P (.dct kvs) Γ2) X
theorem se_dc {ti : WX → TI} {ui : AI} {g : TG} {ug : AG} {tt : WX → TT} {ut : AT} {tk tv : WX → TE} {uk uv : AE} {vs : List Nat} (si : SI ti ui) (hm : ∀ d δ (P Q : DL.Env → Prop), (∀ δ', P δ' → Q δ') → ug d δ P → ug d δ Q) (sg : SGw vs g ug) (st : ST tt ut) (sk : SE tk uk) (sv : SE tv uv) :
    SE (fun W => tFrz (tDc (ti W) g (tt W0) (tk W0) (tv W0) vs)) (aDc ui ug ut uk uv vs) := fun fr H0 W δ Γ P X h σ H E i Q q =>
  si fr H0 W δ Γ _ X h σ H E i _ fun I xs Γ1 H1 k1 i1 w ⟨hz, p1⟩ => fun Dl hD => by
    have nf : ¬ fr Dl := fun z => by
      obtain ⟨_, o, _, h2⟩ := i1.1.frame Dl z
      rw [hD] at h2; cases h2
    have nD : Γ1 Dl = none := by
      cases hc : Γ1 Dl with
      | none => rfl
      | some c =>
        obtain ⟨o, ho⟩ := (i1.1.cell Dl c hc).some
        rw [hD] at ho; cases ho
    have kD : Kp (ownG fr Γ1) H1 (ownG (frP fr Dl) Γ1) (upd H1 Dl (.dK [])) := fun a o ha na => ⟨same_new hD a o ha, fun z => by
      rcases z with (z | z) | z
      · exact na (.inl z)
      · subst z; rw [hD] at ha; cases ha
      · exact na (.inr z)⟩
    refine it_gen w (fun j H' => ∃ Γ' acc ds, Kp (ownG fr Γ1) H1 (ownG (frP fr Dl) Γ') H' ∧ (∀ a, fr a → H' a = H1 a) ∧ InvG (frP fr Dl) H' Γ' H' ∧ H' Dl = some (.dK acc) ∧ IsKV (ownG (frP fr Dl) Γ') H' acc ds ∧ ds.length ≤ j ∧ aDcL ug ut uk uv (wipeD δ vs) (xs.drop j) ds Γ' fun ds Γ2 => P (.dct ds) Γ2)
      ⟨Γ1, [], [], kD, fun a ha => upd_ne fun z => nf (z ▸ ha), i1.1.mv kD (fun a ha => upd_ne fun z => ha (z ▸ nD)) fun a ha => ?_, upd_same, .nil, Nat.zero_le _, p1⟩ (fun j H' _ ⟨Γ', acc, ds, k, _⟩ a o ha na => (k a o ha na).1) (fun j x H' H'' hj ⟨Γ', acc, ds, k, fr', iv, hl, ia, hn, pv⟩ y => ?_) (fun H' ⟨Γ', acc, ds, k, fr', iv, hl, ia, hn, pv⟩ => ?_)
    · rcases ha with ha | ha
      · obtain ⟨n, o, _, h2⟩ := i1.1.frame a ha
        exact ⟨n, o, same_new hD a o h2, same_new hD a o h2⟩
      · subst ha
        exact ⟨nD, _, upd_same, upd_same⟩
    · obtain ⟨sm, d, hd', isy⟩ := y
      have is := isy _ ((JG _ _).ok Γ' H' iv) k
      have fr' : ∀ a, fr a → H'' a = H1 a := fun a ha => by
        obtain ⟨_, o, h3, _⟩ := iv.frame a (.inl ha)
        rw [sm a o h3, ← h3]
        exact fr' a ha
      have k := k.trans (Kp.same sm)
      have iv : InvG (frP fr Dl) H'' Γ' H'' := ((JG (frP fr Dl) H').stab Γ' H' H'' iv sm).now
      have hl := sm _ _ hl
      have ia := IsKV.kp ia (Kp.same (own := ownG (frP fr Dl) Γ') sm)
      rw [get_drop hd'] at pv
      refine sg (ownG (frP fr Dl) Γ') H'' x d (wipe σ vs) (wipeD δ vs) _ is (((E.kp k1).kp k).wipe vs) (hm _ _ _ _ (fun δ2 hq σ2 E2 e2 => ⟨e2.trans (wipe_twice σ vs), ?_⟩) pv)
      refine st _ H'' W0 δ2 Γ' _ X0 hq σ2 H'' E2 ⟨iv, fun _ _ _ _ _ _ _ _ _ _ _ z => z.elim⟩ _ fun b Γ2 H2 k2 i2 p2 => ?_
      have fr2 : ∀ {Γ3 : Sto} {H3 : Hp}, InvG (frP fr Dl) H'' Γ3 H3 → ∀ a, fr a → H3 a = H1 a := fun {Γ3 H3} j3 a ha => by
        obtain ⟨n, o', h3, h4⟩ := j3.frame a (.inl ha)
        rw [h4, ← h3, fr' a ha]
      cases b with
      | false =>
        obtain ⟨_, o, ho, ho'⟩ := i2.1.frame Dl (.inr rfl)
        rw [hl] at ho
        cases ho
        exact ⟨Γ2, acc, ds, k.trans k2, fr2 i2.1, i2.1.now, ho', IsKV.kp ia k2, by omega, p2.2 rfl⟩
      | true =>
        show tk W0 σ2 H2 _
        refine sk _ H'' W0 δ2 Γ2 _ X0 (p2.1 rfl) σ2 H2 (E2.kp k2) i2 _ fun yv yd Γ4 H4 k4 i4 is4 p4 => ?_
        refine sv _ H'' W0 δ2 Γ4 _ X0 p4 σ2 H4 ((E2.kp k2).kp k4) i4 _ fun zv zd Γ5 H5 k5 i5 is5 p5 => ?_
        obtain ⟨hk0, p5⟩ := p5
        obtain ⟨key, hk⟩ := Option.isSome_iff_exists.mp hk0
        have ek := keyD_kD hk
        subst ek
        obtain ⟨nD5, o, ho, ho'⟩ := i5.1.frame Dl (.inr rfl)
        rw [hl] at ho
        cases ho
        have ia5 : IsKV (ownG (frP fr Dl) Γ5) H5 acc ds := IsKV.kp (IsKV.kp (IsKV.kp ia k2) k4) k5
        have hlen := kv_length ia5
        have hput := putD_length ds (DL.kD key) zd
        refine ⟨acc, key, keyD_v is4 hk, ho', by rw [hlen]; omega, Γ5, putK acc key zv, putD ds (DL.kD key) zd, (((k.trans k2).trans k4).trans k5).trans put_kp, fun a ha => ?_, put_inv i5.1, upd_same, kv_put (IsKV.kp ia5 put_kp) (is5.kp put_kp), by omega, p5⟩
        have ne : a ≠ Dl := fun z => nf (z ▸ ha)
        rw [upd_ne ne]
        exact fr2 i5.1 a ha
    · rw [List.drop_length] at pv
      have nD' := (iv.frame Dl (.inr rfl)).1
      refine ⟨Dl, _, rfl, hl, trivial, fun od => ?_⟩
      have kk : Kp (ownG (frP fr Dl) Γ') H' (ownG fr Γ') (upd H' Dl (.frz od (.dK acc))) := fun a o ha na => by
        have ne : a ≠ Dl := fun z => na (.inl (.inr z))
        exact ⟨by rw [upd_ne ne]; exact ha, fun z => na (by
          rcases z with z | z
          · exact .inl (.inl z)
          · exact .inr z)⟩
      have kq := (k1.trans k).trans kk
      have iq : InvG fr H1 Γ' (upd H' Dl (.frz od (.dK acc))) := iv.mv kk (fun a ha => upd_ne fun z => ha (z ▸ nD')) fun a ha => by
        have ne : a ≠ Dl := fun z => nf (z ▸ ha)
        obtain ⟨_, o, _, h2⟩ := i1.1.frame a ha
        exact ⟨(iv.frame a (.inl ha)).1, o, h2, by rw [upd_ne ne, fr' a ha]; exact h2⟩
      refine q (.ref Dl) (.dct ds) Γ' _ kq (ex_inv i kq (i1.1.then iq)) (.dct upd_same (fun z => ?_) (IsKV.kp ia kk)) pv
      rcases z with z | z
      · exact nf z
      · exact z nD'
/-! ### list(x), also of a dict; owned or not -/
def rListB (K : PySem.W.Frag) : List V → Hp → VK → Prop := fun xs H Q => rListA K xs H Q ∨ rListR xs H Q
theorem call_listB {X : Cx} (hc : X.calm = true) : CallR X (.type "list") (rListB X.K) := by
  intro pins s σ H xs us Q I r h
  rcases h with h | h
  · exact call_listA pins s σ H xs us Q I r h
  · exact call_listR hc pins s σ H xs us Q I r h
/-- what is listed -/
def listed (d : D) (f : List D → Prop) : Prop := match d with
  | .tup xs => f xs
  | .lst xs => f xs
  | .dct kvs => f (kvs.map (·.1))
  | _ => False
section
variable {K : PySem.W.Frag}
theorem list_new {own : Own} {H : Hp} {v : V} {d : D} {f : List D → Prop} {Q : VK} (hx : IsT own H v d) (h : listed d f) (q : ∀ xs ws, f xs → IsAll own H ws xs → ∀ p, H p = none → Q (.ref p) (upd H p (.lst ws))) : rListB K [v] H Q := by
  unfold listed at h
  split at h
  · cases hx with
    | tup g1 n1 a1 => exact .inl ⟨_, _, rfl, .inr (SqT.of g1), fun l hl => q _ _ h a1 l hl⟩
  · cases hx with
    | lst g1 n1 a1 => exact .inl ⟨_, _, rfl, .inl (SqL.of g1), fun l hl => q _ _ h a1 l hl⟩
  · obtain ⟨a, ks, vs, rfl, hd, hk, _⟩ := raw_is hx
    exact .inr ⟨a, ks, vs, rfl, hd, fun l hl => q _ _ h hk l hl⟩
  · exact h.elim
def cListB : AC := fun ds Q => match ds with
  | [d] => listed d fun xs => Q (.lst xs)
  | _ => False
theorem so_listB : SCb (rListB K) cListB := fun ds Q h => by
  unfold cListB at h
  split at h
  · rename_i d
    obtain ⟨xs, hx, hq⟩ : ∃ xs, (∀ f : List D → Prop, f xs → listed d f) ∧ Q (.lst xs) := by
      unfold listed at h
      split at h
      · exact ⟨_, fun f hf => hf, h⟩
      · exact ⟨_, fun f hf => hf, h⟩
      · exact ⟨_, fun f hf => hf, h⟩
      · exact h.elim
    refine ⟨_, fun own H vs o hv Q' q' => ?_, hq⟩
    cases hv with
    | cons h1 t =>
      cases t
      exact list_new h1 (hx (fun ys => ys = xs) rfl) fun ys ws e ia p hp => by
        subst e
        exact q' _ _ (same_new hp) (Is.newLst o hp ia)
  · exact h.elim
/-- list(x) that is owned -/
def aListO (a : AE) : AE := fun δ Γ P X => a δ Γ (fun d Γ1 => listed (rs Γ1 d) fun xs => ∀ p, Γ1 p = none → P (.ref p) (upS Γ1 p (.lst xs))) X
theorem se_listO {ta : WX → TE} {ua : AE} (sa : SE ta ua) : SE (fun W => tCB (rListB K) (tCons (ta W) tNil)) (aListO ua) := fun fr H0 W δ Γ P X h σ H E i Q q =>
  sa fr H0 W δ Γ _ X h σ H E i _ fun v d Γ1 H1 k1 i1 is1 p1 => list_new (rs_ok i1.1 is1) p1 fun xs ws hp ia p hpn => by
    have kk : Kp (ownG fr Γ1) H1 (ownG fr (upS Γ1 p (.lst xs))) (upd H1 p (.lst ws)) := fun a o' ha na => ⟨same_new hpn a o' ha, fun z => by
      rcases z with z | z
      · exact na (.inl z)
      · by_cases e : a = p
        · subst e; rw [hpn] at ha; cases ha
        · rw [upS_ne e] at z; exact na (.inr z)⟩
    obtain ⟨k2, i2, n2⟩ := new_ok (c := .lst xs) (o := .lst ws) i1.1 hpn ⟨ws, upd_same, ia.kp kk⟩ (fun b z => nomatch z)
    exact q (.ref p) _ _ _ (k1.trans k2) (ex_inv i1 k2 i2) (.ref p) (hp p n2)
end
/-- an owned list used as data -/
def aRel (a : AE) : AE := fun δ Γ P X => a δ Γ (fun d Γ1 => match d with
  | .ref p => (match Γ1 p with
    | some (.lst ds) => P (.lst ds) (era Γ1 p)
    | _ => False)
  | _ => False) X
theorem se_rel {ta : WX → TE} {ua : AE} (sa : SE ta ua) : SE ta (aRel ua) := fun fr H0 W δ Γ P X h σ H E i Q q =>
  sa fr H0 W δ Γ _ X h σ H E i _ fun v d Γ1 H1 k1 i1 is1 p1 => by
    cases d with
    | ref p =>
      cases is1
      simp only at p1
      split at p1
      · rename_i ds hc
        obtain ⟨k, i2, np⟩ := era_ok i1.1 hc (fun b z => nomatch z) (fun b z => nomatch z)
        obtain ⟨vs, h2, h3⟩ := i1.1.cell p _ hc
        exact q _ _ _ H1 (k1.trans k) (ex_inv i1 k i2) (.lst h2 np (h3.kp k)) p1
      · exact p1.elim
    | _ => exact p1.elim
/-- an owned dict used as data -/
def aRelD (a : AE) : AE := fun δ Γ P X => a δ Γ (fun d Γ1 => match d with
  | .ref p => (match Γ1 p with
    | some (.dct ds) => P (.dct ds) (era Γ1 p)
    | _ => False)
  | _ => False) X
theorem se_relD {ta : WX → TE} {ua : AE} (sa : SE ta ua) : SE (fun W => tFrz (ta W)) (aRelD ua) := fun fr H0 W δ Γ P X h σ H E i Q q =>
  sa fr H0 W δ Γ _ X h σ H E i _ fun v d Γ1 H1 k1 i1 is1 p1 => by
    cases d with
    | ref p =>
      cases is1
      simp only at p1
      split at p1
      · rename_i kvs hc
        obtain ⟨u, hu, mu, fin⟩ := frz_ok i1.1 hc
        refine ⟨p, u, rfl, hu, mu, fun od => ?_⟩
        obtain ⟨k, i2, hd⟩ := fin od
        exact q _ _ _ _ (k1.trans k) (ex_inv i1 k i2) hd p1
      · exact p1.elim
    | _ => exact p1.elim
theorem pe_gref {X : Cx} {x : Str} {c : Addr} {pos : Pos} (hg : Gl X x) (h : X.mg x = some (.ref c)) (hd : (x == ("__debug__" : Str)) = false := by decide) : PE X (.Name x pos) (tC (.ref c)) := pe_glob hg h rfl hd
end AL

set_option Elab.async false
set_option linter.all false
set_option maxRecDepth 100000
set_option maxHeartbeats 4000000
/-! Dicts: stored into, popped, copied, compared. -/
namespace DL
open PySem L2 PySem.Spec PyProof.Rows
variable [Wd]
def putE (xs : List Ent) (k : NestedKey) (b : Addr) (v : V) : List Ent := if (lkE xs k).isSome = true then xs.map (fun e => if e.1 = k then (e.1, e.2.1, v) else e) else xs ++ [(k, b, v)]
theorem putE_length (xs : List Ent) (k : NestedKey) (b : Addr) (v : V) : (putE xs k b v).length ≤ xs.length + 1 := by
  unfold putE
  split
  · rw [List.length_map]; omega
  · rw [List.length_append]; exact Nat.le_refl _
theorem relE_map {k : NestedKey} {v : V} {u : Value} (r : RelV v u) : ∀ {xs : List Ent} {us : List (NestedKey × Addr × Value)}, Paired RelE xs us → Paired RelE (xs.map fun e => if e.1 = k then (e.1, e.2.1, v) else e) (us.map (putAt k u))
  | _, _, .nil => .nil
  | _, _, @Paired.cons _ _ _ p q ps qs h t => by
    rw [List.map_cons, List.map_cons]
    refine .cons ?_ (relE_map r t)
    unfold putAt
    by_cases e : p.1 = k
    · rw [if_pos e, if_pos (h.1.symm.trans e)]
      exact ⟨h.1, h.2.1, r⟩
    · rw [if_neg e, if_neg (fun z => e (h.1.trans z))]
      exact h
theorem relE_put {k : NestedKey} {b : Addr} {v : V} {u : Value} (r : RelV v u) {xs : List Ent} {us : List (NestedKey × Addr × Value)} (h : Paired RelE xs us) : Paired RelE (putE xs k b v) (storedH us k b u) := by
  have e : (lkE xs k).isSome = (atKey us k).isSome := by
    rw [(lkE_at h).isSome_eq, Option.isSome_map]
  unfold putE storedH
  rw [e]
  split
  · exact relE_map r h
  · exact Paired.snoc h ⟨rfl, rfl, r⟩
theorem dn_obj {P : Program} {w : World} {H : Hp} {h : Heap} {a : Addr} {xs : List Ent} {us : List (NestedKey × Addr × Value)} (hw : w = Wd.w) (z : xs.length ≤ sizeLine) (y : (a == sysModules) = false) (pr : Paired RelE xs us) (dd : h.DictOfH (nestedKind P w) a us) : ObjOk P w H h a (DnO a xs) := by
  subst hw
  obtain ⟨o, es, ep, g1, g2, g3, g4, _, g5⟩ := dd
  refine ⟨⟨z, y, us, pr, o, es, ep, g1, g2, g3, g4, g5⟩, ⟨o, g1⟩, fun h1 h2 hp hk => ?_⟩
  obtain ⟨z, y, us, pr, o, es, ep, g1, g2, g3, g4, g5⟩ := hp
  exact ⟨z, y, us, pr, o, es, ep, hk o g1, g2, g3, g4, g5⟩
/-- d[k] = v -/
def rSetDc : V → V → V → Hp → (Hp → Prop) → Prop := fun o i v H Q => (∃ a kvs k, o = .ref a ∧ H a = some (.dK kvs) ∧ i = kV k ∧ kvs.length < sizeLine ∧ Q (upd H a (.dK (putK kvs k v)))) ∨
  ∃ a xs k b, o = .ref a ∧ ((∃ own ds, H a = some (DnO a xs) ∧ IsKN own H xs ds) ∨ (xs = [] ∧ H a = some (.dK []))) ∧ i = .ref b ∧ KyAt H b k ∧ xs.length < sizeLine ∧ Q (upd H a (DnO a (putE xs k b v)))
theorem set_dict {X : Cx} (hw : X.w = Wd.w) (hu : X.A.units + 64 < cLine) : PSet X rSetDc := by
  intro pins s σ H o i v ov iv u Q I ro ri rv h
  rcases h with ⟨a, kvs, k, rfl, ha, rfl, hl, q⟩ | ⟨a, xs, k, b, rfl, ha, rfl, hk, hl, q⟩
  · cases ro
    exact d_setItem (by omega) I (.inl ⟨kvs, k, ha, rfl, hl, rfl⟩) ri rv fun s' I' => ⟨_, I', q⟩
  · cases ro
    cases (show iv = Value.ref b from ri)
    have ok := I.hok
    rw [hw] at ok
    have at' : DnAt H a xs := by
      rcases ha with ⟨own, ds, ha, kn⟩ | ⟨rfl, ha⟩
      · exact .inl ⟨own, ds, .inl ha, kn⟩
      · exact .inr ⟨rfl, .inl ha⟩
    have mu : Mut (H a) := by
      rcases ha with ⟨own, ds, ha, kn⟩ | ⟨rfl, ha⟩ <;> rw [ha] <;> exact True.intro
    obtain ⟨z, hd, us, rel, dd⟩ := dn_at ok at'
    have hz : us.length ≤ sizeLine := by rw [← Paired.length rel]; exact z
    have I2 := I
    rw [hw]
    refine wpAny_setItem_heap (hsz := hz) (nroom hu) (ky_is ok hk) dd fun h' dd' hs => ?_
    obtain ⟨q', es, ep, hq, _⟩ := id dd'
    refine ⟨_, d_write I mu hs ⟨q', hq⟩ ?_, q⟩
    have := dn_obj (P := X.prog) (w := Wd.w) (H := upd H a (DnO a (putE xs k b v))) rfl (by have := putE_length xs k b v; omega) hd (relE_put rv rel) dd'
    rw [hw]
    exact this
/-- set of a list's or a dict's item -/
def rSetB : V → V → V → Hp → (Hp → Prop) → Prop := fun o i v H Q => rSetL o i v H Q ∨ rSetDc o i v H Q
theorem set_B {X : Cx} (hw : X.w = Wd.w) (hu : X.A.units + 64 < cLine) : PSet X rSetB := by
  intro pins s σ H o i v ov iv u Q I ro ri rv h
  rcases h with h | h
  · exact set_list pins s σ H o i v ov iv u Q I ro ri rv h
  · exact set_dict hw hu pins s σ H o i v ov iv u Q I ro ri rv h
/-- d == e, values plain -/
inductive HitsD (K : PySem.W.Frag) (H : Hp) (ls : List (Key × V)) : List (Key × V) → Bool → Prop
  | nil : HitsD K H ls [] true
  | miss {k : Key} {v : V} {r : List (Key × V)} : valV ls k = none → HitsD K H ls ((k, v) :: r) false
  | hit {k : Key} {v y : V} {r : List (Key × V)} {d e : PyData} {b : Bool} : valV ls k = some y → Dp K H v d → Dp K H y e → SeqAt.shaped d = true → SeqAt.shaped e = true → HitsD K H ls r b → HitsD K H ls ((k, v) :: r) (PyData.eqv d e && b)
theorem hits_of {X : Cx} {pins : List (Addr × Obj)} {σ : L2.St} {H : Hp} {s : Shared} {ls : List (Key × V)} {vb : List (Key × Value)} (I : Inv X pins σ H s) {A : Around} (hu : A.units + 64 < cLine) (rb : KV ls vb) : ∀ {ks : List (Key × V)} {b : Bool} {va : List (Key × Value)}, HitsD X.K H ls ks b → KV ks va → PySem.W.KeqHits A s vb va b
  | _, _, _, .nil, .nil => .nil
  | _, _, _, @HitsD.miss _ _ _ k v r h, .cons (b := q) rr t => by
    obtain ⟨k', v'⟩ := q
    have e : k' = k := rr.1.symm
    subst e
    refine .miss ?_
    have hv := rb.val k'
    rw [h] at hv
    cases hx : valueAt vb k' with
    | none => rfl
    | some y => rw [hx] at hv; exact hv.elim
  | _, _, _, @HitsD.hit _ _ _ k v y r d e b h hd he sd se t, .cons (b := q) rr rt => by
    obtain ⟨k', v'⟩ := q
    have ek : k' = k := rr.1.symm
    subst ek
    have hv := rb.val k'
    rw [h] at hv
    obtain ⟨y', hy, ry⟩ := RelO.some_of hv
    obtain ⟨as, r1⟩ := Dp.reads I _ _ _ hd rr.2
    obtain ⟨bs, r2⟩ := Dp.reads I _ _ _ he ry
    exact .hit hy (SeqAt.eqAt_reads _ _ _ _ _ _ _ _ r1 r2 (SeqAt.canLay_of_shaped sd) (SeqAt.canLay_of_shaped se) (SeqAt.room_of_shaped sd hu)) (hits_of I hu rb t rt)
def rEqDc (K : PySem.W.Frag) (neg : Bool) : R2 := fun x y H Q => ∃ a b ks ls r, x = .ref a ∧ y = .ref b ∧ Rd H a (.dK ks) ∧ Rd H b (.dK ls) ∧ (ks.length = ls.length → HitsD K H ls ks r) ∧ Q (.bl (xor neg (decide (ks.length = ls.length) && r))) H
theorem op_eqDc {X : Cx} (hu : X.A.units + 65 < cLine) : OpR X (compareOp .Eq) (rEqDc X.K false) := by
  intro pins s σ H x y v u Q I rx ry h
  obtain ⟨a, b, ks, ls, r, rfl, rfl, ea, eb, hh, q⟩ := h
  cases rx
  cases ry
  obtain ⟨_, ya, va, ra, da⟩ := dk_rd I.hok ea
  obtain ⟨_, yb, vb, rb, db⟩ := dk_rd I.hok eb
  refine PySem.W.keq_eq (knd := mixKind X.prog X.w) (r := r) ya yb da db (by omega) (fun hl => hits_of I (A := X.A.in1) (show X.A.units + 1 + 64 < cLine by omega) rb (hh (by rw [ra.length, rb.length]; exact hl)) ra) ?_
  refine ⟨.bl _, H, I, ?_, q⟩
  show Value.bool _ = Value.bool _
  rw [Bool.false_xor, ra.length, rb.length]
  congr 2
theorem op_neDc {X : Cx} (hu : X.A.units + 65 < cLine) : OpR X (compareOp .NotEq) (rEqDc X.K true) := by
  intro pins s σ H x y v u Q I rx ry h
  obtain ⟨a, b, ks, ls, r, rfl, rfl, ea, eb, hh, q⟩ := h
  cases rx
  cases ry
  obtain ⟨_, ya, va, ra, da⟩ := dk_rd I.hok ea
  obtain ⟨_, yb, vb, rb, db⟩ := dk_rd I.hok eb
  refine PySem.W.keq_ne (knd := mixKind X.prog X.w) (r := r) ya yb da db (by omega) (fun hl => hits_of I (A := X.A.in1) (show X.A.units + 1 + 64 < cLine by omega) rb (hh (by rw [ra.length, rb.length]; exact hl)) ra) ?_
  refine ⟨.bl _, H, I, ?_, q⟩
  show Value.bool _ = Value.bool _
  rw [Bool.true_xor, ra.length, rb.length]
  congr 2
/-- dict(d), keys ints or texts -/
def rDictC : List V → Hp → VK → Prop := fun xs H Q => ∃ a kvs, xs = [.ref a] ∧ Rd H a (.dK kvs) ∧ ∀ p, H p = none → Q (.ref p) (upd H p (.dK kvs))
theorem call_dictC {X : Cx} : CallR X (.type "dict") rDictC := by
  intro pins s σ H xs us Q I r h
  obtain ⟨a, kvs, rfl, ha, q⟩ := h
  rw [Vals.ref1 r]
  exact d_copyOf I ha fun p s' hp I' => ⟨.ref p, _, I', rfl, q p hp⟩
/-- len(d) -/
def rLenD : List V → Hp → VK → Prop := fun xs H Q => ∃ a ks vs, xs = [.ref a] ∧ DRaw H a ks vs ∧ Q (.int (ks.length : Int)) H
end DL

set_option Elab.async false
set_option linter.all false
set_option maxRecDepth 100000
set_option maxHeartbeats 4000000
/-! The abstract layer: dicts. -/
namespace AL
open PySem L2 DL PySem.Spec PyProof.Rows
variable [Wd]
/-- e may be asked of a dict of these keys: ints and texts, or tuples -/
def okK (kvs : List (D × D)) (e : D) : Prop := ((keyD e).isSome = true ∧ ∀ kv, kv ∈ kvs → (keyD kv.1).isSome = true) ∨ (isTup e = true ∧ (∃ k, keyOf e = some k ∧ k.depth ≤ 8) ∧ ∀ kv, kv ∈ kvs → isTup kv.1 = true)
theorem IsT.is {own : Own} {H : Hp} {v : V} {d : D} (h : IsT own H v d) (hd : isLst d = false) (hc : isDct d = false) : Is own H v d := by
  cases h with
  | non => exact .non
  | bl b => exact .bl b
  | int i => exact .int i
  | str x => exact .str x
  | tup h1 n1 a1 => exact .tup h1 n1 a1
  | lst _ _ _ => cases hd
  | dct _ _ _ => cases hc
  | dcn _ _ _ _ => cases hc
  | ref a => exact .ref a
  | ty n => exact .ty n
  | exc0 h1 n1 => exact .exc0 h1 n1
  | exc1 h1 n1 h2 n2 i => exact .exc1 h1 n1 h2 n2 i
theorem keyD_not {d : D} (h : (keyD d).isSome = true) : isLst d = false ∧ isDct d = false := by
  cases d <;> simp [keyD] at h <;> exact ⟨rfl, rfl⟩
theorem isTup_not {d : D} (h : isTup d = true) : isLst d = false ∧ isDct d = false := by
  cases d <;> simp [isTup] at h <;> exact ⟨rfl, rfl⟩
theorem kv_keyD {own : Own} {H : Hp} : ∀ {vs : List (Key × V)} {ds : List (D × D)}, IsKV own H vs ds → ∀ kv, kv ∈ ds → (keyD kv.1).isSome = true
  | _, _, .nil, kv, h => by cases h
  | _, _, @IsKV.cons _ _ _ k v vs d ds h t, kv, hk => by
    rcases List.mem_cons.mp hk with rfl | hk
    · cases k <;> rfl
    · exact kv_keyD t kv hk
theorem kn_tup {own : Own} {H : Hp} : ∀ {vs : List Ent} {ds : List (D × D)}, IsKN own H vs ds → ∀ kv, kv ∈ ds → isTup kv.1 = true
  | _, _, .nil, kv, h => by cases h
  | _, _, @IsKN.cons _ _ _ k b v vs e d ds h1 h2 h3 h4 t, kv, hk => by
    rcases List.mem_cons.mp hk with rfl | hk
    · show isTup e = true
      cases h1 <;> simp [keyOf] at h2 <;> rfl
    · exact kn_tup t kv hk
theorem kn_lk {own : Own} {H : Hp} {e : D} {k : NestedKey} (he : keyOf e = some k) : ∀ {vs : List Ent} {ds : List (D × D)}, IsKN own H vs ds → (∀ d, lkD ds e = some d → ∃ v, lkE vs k = some v ∧ Is own H v d) ∧ (lkD ds e = none → lkE vs k = none)
  | _, _, .nil => ⟨fun d h => by simp [lkD] at h, fun _ => rfl⟩
  | _, _, @IsKN.cons _ _ _ k' b v' vs e' d' ds h1 h2 h3 h4 t => by
    have ih := kn_lk he t
    by_cases ee : e' = e
    · subst ee
      rw [he] at h2
      cases h2
      have e1 : lkD ((e', d') :: ds) e' = some d' := by simp [lkD]
      have e2 : lkE ((k, b, v') :: vs) k = some v' := by simp [lkE]
      rw [e1, e2]
      exact ⟨fun d hd => by cases hd; exact ⟨v', rfl, h4⟩, fun z => nomatch z⟩
    · have nk : ¬ k' = k := fun z => ee (keyOf_inj _ _ k (z ▸ h2) he)
      have e1 : lkD ((e', d') :: ds) e = lkD ds e := by simp [lkD, ee]
      have e2 : lkE ((k', b, v') :: vs) k = lkE vs k := by simp [lkE, nk]
      rw [e1, e2]
      exact ih
theorem getA_of {own : Own} {H : Hp} {x y : V} {kvs : List (D × D)} {e : D} (hx : IsT own H x (.dct kvs)) (hy : IsT own H y e) (hk : okK kvs e) : ∃ a o, x = .ref a ∧ DGetA H a y o ∧ (lkD kvs e = none → o = none) ∧ ∀ z, lkD kvs e = some z → ∃ v, o = some v ∧ Is own H v z := by
  cases hx with
  | dct h1 _ k1 =>
    rcases hk with ⟨h2, _⟩ | ⟨h2, ⟨k, h3, h4⟩, h5⟩
    · obtain ⟨q, hq⟩ := Option.isSome_iff_exists.mp h2
      have ev := keyD_v (IsT.is hy (keyD_not h2).1 (keyD_not h2).2) hq
      have ee := keyD_kD hq
      subst ee
      obtain ⟨g1, g2⟩ := kv_lk q k1
      refine ⟨_, _, rfl, .inl ⟨_, q, h1, ev, rfl⟩, g2, fun z hz => ?_⟩
      obtain ⟨v, h6, h7⟩ := g1 z hz
      exact ⟨v, h6, h7⟩
    · have e0 : kvs = [] := by
        cases kvs with
        | nil => rfl
        | cons kv r =>
          have a1 := h5 kv List.mem_cons_self
          have a2 := kv_keyD k1 kv List.mem_cons_self
          cases hh : kv.1 <;> rw [hh] at a1 a2 <;> simp [isTup, keyD] at a1 a2
      subst e0
      cases k1
      have iy := IsT.is hy (isTup_not h2).1 (isTup_not h2).2
      cases iy <;> simp [isTup] at h2
      rename_i b vs ds g1 g2 g3
      exact ⟨_, none, rfl, .inr ⟨[], k, b, .inr ⟨rfl, h1⟩, rfl, ⟨own, _, .tup g1 g2 g3, h3, h4⟩, rfl⟩, fun _ => rfl, fun z hz => by simp [lkD] at hz⟩
  | dcn h1 _ k1 ne =>
    rcases hk with ⟨h2, h5⟩ | ⟨h2, ⟨k, h3, h4⟩, h5⟩
    · exfalso
      cases kvs with
      | nil => exact ne rfl
      | cons kv r =>
        have a1 := h5 kv List.mem_cons_self
        have a2 := kn_tup k1 kv List.mem_cons_self
        cases hh : kv.1 <;> rw [hh] at a1 a2 <;> simp [isTup, keyD] at a1 a2
    · have iy := IsT.is hy (isTup_not h2).1 (isTup_not h2).2
      obtain ⟨g1, g2⟩ := kn_lk h3 k1
      cases iy <;> simp [isTup] at h2
      rename_i b vs ds e1 e2 e3
      refine ⟨_, _, rfl, .inr ⟨_, k, b, .inl ⟨own, _, h1, k1⟩, rfl, ⟨own, _, .tup e1 e2 e3, h3, h4⟩, rfl⟩, g2, fun z hz => ?_⟩
      obtain ⟨v, h6, h7⟩ := g1 z hz
      exact ⟨v, h6, h7⟩
section
variable {K : PySem.W.Frag}
def rIxC (K : PySem.W.Frag) : R2 := fun x y H Q => rIxB K x y H Q ∨ rDIx x y H Q
theorem ix_C {X : Cx} (hw : X.w = Wd.w) (hu : X.A.units + 64 < cLine) : IxR X (rIxC X.K) := ix_B.or (ix_dict hw hu)
def oIxC : A2 := fun d e Q => match d with
  | .dct kvs => okK kvs e ∧ ∃ z, lkD kvs e = some z ∧ Q z
  | d => oIxB d e Q
theorem so_ixC : SOp (rIxC K) oIxC := fun d e Q h => by
  unfold oIxC at h
  split at h
  · obtain ⟨hk, z, hz, q⟩ := h
    refine ⟨z, rv_inr fun own H x y o hx hy Q' q' => ?_, q⟩
    obtain ⟨a, r, rfl, g, _, g2⟩ := getA_of hx hy hk
    obtain ⟨v, rfl, iv⟩ := g2 z hz
    exact ⟨a, v, rfl, g, q' v H (Same.refl H) iv⟩
  · obtain ⟨z, h1, h2⟩ := so_ixB d e Q h
    exact ⟨z, rv_inl h1, h2⟩
def rInC (K : PySem.W.Frag) : R2 := fun x y H Q => rInB K x y H Q ∨ rDIn x y H Q
def rNotInC (K : PySem.W.Frag) : R2 := fun x y H Q => rNotInB K x y H Q ∨ rDNot x y H Q
theorem op_inC {X : Cx} (hw : X.w = Wd.w) (hu : X.A.units + 64 < cLine) : OpR X (compareOp .In) (rInC X.K) := op_inB.or (op_din hw hu)
theorem op_notInC {X : Cx} (hw : X.w = Wd.w) (hu : X.A.units + 64 < cLine) : OpR X (compareOp .NotIn) (rNotInC X.K) := op_notInB.or (op_dnot hw hu)
def oInC : A2 := fun d e Q => match e with
  | .dct kvs => okK kvs d ∧ Q (.bl (lkD kvs d).isSome)
  | e => oInB d e Q
def oNotInC : A2 := fun d e Q => match e with
  | .dct kvs => okK kvs d ∧ Q (.bl (!(lkD kvs d).isSome))
  | e => oNotInB d e Q
theorem lk_some {own : Own} {H : Hp} {kvs : List (D × D)} {e : D} {o : Option V} (h1 : lkD kvs e = none → o = none) (h2 : ∀ z, lkD kvs e = some z → ∃ v, o = some v ∧ Is own H v z) : o.isSome = (lkD kvs e).isSome := by
  cases h : lkD kvs e with
  | none => rw [h1 h]; rfl
  | some z =>
    obtain ⟨v, rfl, _⟩ := h2 z h
    rfl
theorem so_inC : SOp (rInC K) oInC := fun d e Q h => by
  unfold oInC at h
  split at h
  · obtain ⟨hk, q⟩ := h
    refine ⟨_, rv_inr fun own H x y o hx hy Q' q' => ?_, q⟩
    obtain ⟨a, r, rfl, g, g1, g2⟩ := getA_of hy hx hk
    exact ⟨a, r, rfl, g, by rw [lk_some g1 g2]; exact q' _ H (Same.refl H) (.bl _)⟩
  · obtain ⟨z, h1, h2⟩ := so_inB d e Q h
    exact ⟨z, rv_inl h1, h2⟩
theorem so_notInC : SOp (rNotInC K) oNotInC := fun d e Q h => by
  unfold oNotInC at h
  split at h
  · obtain ⟨hk, q⟩ := h
    refine ⟨_, rv_inr fun own H x y o hx hy Q' q' => ?_, q⟩
    obtain ⟨a, r, rfl, g, g1, g2⟩ := getA_of hy hx hk
    exact ⟨a, r, rfl, g, by rw [lk_some g1 g2]; exact q' _ H (Same.refl H) (.bl _)⟩
  · obtain ⟨z, h1, h2⟩ := so_notInB d e Q h
    exact ⟨z, rv_inl h1, h2⟩
end
end AL

set_option Elab.async false
set_option linter.all false
set_option maxRecDepth 100000
set_option maxHeartbeats 4000000
/-! The abstract layer: dicts and lists stored into; popped, copied, compared, sorted. -/
namespace AL
open PySem L2 DL PySem.Spec PyProof.Rows
variable [Wd]
theorem kn_any {own : Own} {H : Hp} {e : D} {k : NestedKey} (he : keyOf e = some k) : ∀ {vs : List Ent} {ds : List (D × D)}, IsKN own H vs ds → (lkE vs k).isSome = (ds.any fun kv => decide (kv.1 = e))
  | _, _, .nil => rfl
  | _, _, @IsKN.cons _ _ _ k' b v' vs e' d' ds h1 h2 h3 h4 t => by
    rw [List.any_cons, ← kn_any he t]
    by_cases ee : e' = e
    · subst ee
      rw [he] at h2
      cases h2
      simp [lkE]
    · have nk : ¬ k' = k := fun z => ee (keyOf_inj _ _ k (z ▸ h2) he)
      simp [lkE, nk, ee]
theorem kn_map {own : Own} {H : Hp} {e : D} {k : NestedKey} {v : V} {d : D} (he : keyOf e = some k) (hv : Is own H v d) : ∀ {vs : List Ent} {ds : List (D × D)}, IsKN own H vs ds → IsKN own H (vs.map fun x => if x.1 = k then (x.1, x.2.1, v) else x) (ds.map fun kv => if kv.1 = e then (kv.1, d) else kv)
  | _, _, .nil => .nil
  | _, _, @IsKN.cons _ _ _ k' b v' vs e' d' ds h1 h2 h3 h4 t => by
    rw [List.map_cons, List.map_cons]
    by_cases ee : e' = e
    · subst ee
      have : k' = k := by rw [he] at h2; cases h2; rfl
      rw [if_pos this, if_pos rfl]
      exact .cons h1 h2 h3 hv (kn_map he hv t)
    · have nk : ¬ k' = k := fun z => ee (keyOf_inj _ _ k (z ▸ h2) he)
      rw [if_neg nk, if_neg ee]
      exact .cons h1 h2 h3 h4 (kn_map he hv t)
theorem kn_append {own : Own} {H : Hp} : ∀ {vs ws : List Ent} {ds es : List (D × D)}, IsKN own H vs ds → IsKN own H ws es → IsKN own H (vs ++ ws) (ds ++ es)
  | _, _, _, _, .nil, s => s
  | _, _, _, _, .cons h1 h2 h3 h4 t, s => .cons h1 h2 h3 h4 (kn_append t s)
theorem kn_put {own : Own} {H : Hp} {vs : List Ent} {ds : List (D × D)} {e : D} {k : NestedKey} {b : Addr} {v : V} {d : D} (h : IsKN own H vs ds) (hb : Is own H (.ref b) e) (he : keyOf e = some k) (hd : k.depth ≤ 8) (hv : Is own H v d) : IsKN own H (putE vs k b v) (putD ds e d) := by
  unfold putE putD
  rw [kn_any he h]
  split
  · exact kn_map he hv h
  · exact kn_append h (.cons hb he hd hv .nil)
theorem putD_ne (ds : List (D × D)) (e d : D) : putD ds e d ≠ [] := by
  unfold putD
  split
  · rename_i h
    cases ds with
    | nil => simp at h
    | cons _ _ => simp
  · simp
/-- o[i] = v: o an owned list or dict -/
def putC (Γ : Sto) (od id' vd : D) (Q : Sto → Prop) : Prop := match od with
  | .ref p => (match Γ p with
    | some (.lst xs) => (match id' with
      | .int k => ∃ j, ixN xs.length k = some j ∧ Q (upS Γ p (.lst (xs.set j vd)))
      | _ => False)
    | some (.dct kvs) => okK kvs id' ∧ kvs.length < sizeLine ∧ Q (upS Γ p (.dct (putD kvs id' vd)))
    | _ => False)
  | _ => False
def aSetI (v o i : AE) : AS := fun Po δ Γ => v δ Γ (fun vd Γ1 => o δ Γ1 (fun od Γ2 => i δ Γ2 (fun id' Γ3 => putC Γ3 od id' vd (Po.nx δ)) Po.ex) Po.ex) Po.ex
theorem chg_kp {fr : Own} {H : Hp} {Γ : Sto} {p : Addr} {c0 c : Cell} {o : HO} (hc : Γ p = some c0) : Kp (ownG fr Γ) H (ownG fr (upS Γ p c)) (upd H p o) := fun a o' ha na => by
  have ne : a ≠ p := fun z => na (.inr (by rw [z, hc]; exact fun y => nomatch y))
  exact ⟨by rw [upd_ne ne]; exact ha, fun z => by
    rcases z with z | z
    · exact na (.inl z)
    · rw [upS_ne ne] at z; exact na (.inr z)⟩
theorem putC_ok {fr : Own} {H0 H : Hp} {Γ : Sto} {od id' vd : D} {vo vi vv : V} {Q : Sto → Prop} {R : Hp → Prop} (i : InvG fr H0 Γ H) (io : Is (ownG fr Γ) H vo od) (ii : Is (ownG fr Γ) H vi id') (iv : Is (ownG fr Γ) H vv vd) (h : putC Γ od id' vd Q)
    (q : ∀ Γ' H', Kp (ownG fr Γ) H (ownG fr Γ') H' → InvG fr H0 Γ' H' → Q Γ' → R H') : rSetB vo vi vv H R := by
  cases od with
  | ref p =>
    cases io
    unfold putC at h
    simp only at h
    split at h
    · rename_i xs hc
      split at h
      · rename_i k
        obtain ⟨j, hj, hq⟩ := h
        cases ii
        obtain ⟨vs, h1, h2⟩ := i.cell p _ hc
        have kk := chg_kp (fr := fr) (H := H) (c := .lst (xs.set j vd)) (o := .lst (vs.set j vv)) hc
        obtain ⟨k3, i3⟩ := chg_ok (c := .lst (xs.set j vd)) (o := .lst (vs.set j vv)) i hc (fun b z => nomatch z) (fun b z => nomatch z) ⟨_, upd_same, IsAll.set j (iv.kp kk) (h2.kp kk)⟩ (fun b z => nomatch z)
        exact .inl ⟨p, vs, k, j, rfl, rfl, h1, by rw [h2.length]; exact hj, q _ _ k3 i3 hq⟩
      · exact h.elim
    · rename_i kvs hc
      obtain ⟨hk, hl, hq⟩ := h
      have nn : ∀ {c : Cell} {o : HO}, CellOk (ownG fr (upS Γ p (.dct (putD kvs id' vd)))) (upd H p o) p (.dct (putD kvs id' vd)) → R (upd H p o) := fun {c o} hco => by
        obtain ⟨k3, i3⟩ := chg_ok (c := .dct (putD kvs id' vd)) (o := o) i hc (fun b z => nomatch z) (fun b z => nomatch z) hco (fun b z => nomatch z)
        exact q _ _ k3 i3 hq
      rcases i.cell p _ hc with ⟨vs, h1, h2⟩ | ⟨vs, h1, h2, ne⟩
      · rcases hk with ⟨g2, _⟩ | ⟨g2, ⟨k, g3, g4⟩, g5⟩
        · obtain ⟨w, hw⟩ := Option.isSome_iff_exists.mp g2
          have ev := keyD_v ii hw
          have ee := keyD_kD hw
          subst ee
          have kk := chg_kp (fr := fr) (H := H) (c := .dct (putD kvs (DL.kD w) vd)) (o := .dK (putK vs w vv)) hc
          exact .inr (.inl ⟨p, vs, w, rfl, h1, ev, by rw [kv_length h2]; exact hl, nn (c := .dct []) (.inl ⟨_, upd_same, kv_put (IsKV.kp h2 kk) (iv.kp kk)⟩)⟩)
        · have e0 : kvs = [] := by
            cases kvs with
            | nil => rfl
            | cons kv r =>
              have a1 := g5 kv List.mem_cons_self
              have a2 := kv_keyD h2 kv List.mem_cons_self
              cases hh : kv.1 <;> rw [hh] at a1 a2 <;> simp [isTup, keyD] at a1 a2
          subst e0
          cases h2
          have iy := ii
          cases ii <;> simp [isTup] at g2
          rename_i b ws ds e1 e2 e3
          have kk := chg_kp (fr := fr) (H := H) (c := .dct (putD [] (.tup ds) vd)) (o := DnO p (putE [] k b vv)) hc
          exact .inr (.inr ⟨p, [], k, b, rfl, .inr ⟨rfl, h1⟩, rfl, ⟨_, _, iy, g3, g4⟩, hl, nn (c := .dct []) (.inr ⟨_, upd_same, kn_put .nil (iy.kp kk) g3 g4 (iv.kp kk), putD_ne _ _ _⟩)⟩)
      · rcases hk with ⟨g2, g5⟩ | ⟨g2, ⟨k, g3, g4⟩, g5⟩
        · exfalso
          cases kvs with
          | nil => exact ne rfl
          | cons kv r =>
            have a1 := g5 kv List.mem_cons_self
            have a2 := kn_tup h2 kv List.mem_cons_self
            cases hh : kv.1 <;> rw [hh] at a1 a2 <;> simp [isTup, keyD] at a1 a2
        · have iy := ii
          cases ii <;> simp [isTup] at g2
          rename_i b ws ds e1 e2 e3
          have kk := chg_kp (fr := fr) (H := H) (c := .dct (putD kvs (.tup ds) vd)) (o := DnO p (putE vs k b vv)) hc
          exact .inr (.inr ⟨p, vs, k, b, rfl, .inl ⟨_, _, h1, h2⟩, rfl, ⟨_, _, iy, g3, g4⟩, by rw [kn_length h2]; exact hl, nn (c := .dct []) (.inr ⟨_, upd_same, kn_put (IsKN.kp h2 kk) (iy.kp kk) g3 g4 (iv.kp kk), putD_ne _ _ _⟩)⟩)
    · exact h.elim
  | _ => exact h.elim
theorem ss_setI {tv to ti : WX → TE} {uv uo ui : AE} (sv : SE tv uv) (so : SE to uo) (si : SE ti ui) : SS (fun W => tAsg (tv W) (gSub (to W) (ti W) rSetB)) (aSetI uv uo ui) := fun fr H0 W δ Γ Po h En σ H E i q1 q2 q3 q4 =>
  sv fr H0 W δ Γ _ _ h σ H E i _ fun v d Γ1 H1 k1 i1 is1 p1 => so fr H0 W δ Γ1 _ _ p1 σ H1 (E.kp k1) i1 _ fun x od Γ2 H2 k2 i2 is2 p2 => si fr H0 W δ Γ2 _ _ p2 σ H2 ((E.kp k1).kp k2) i2 _ fun y id' Γ3 H3 k3 i3 is3 p3 =>
    putC_ok i3.1 (is2.kp k3) is3 ((is1.kp k2).kp k3) p3 fun Γ4 H4 k4 i4 hq => q1 σ δ Γ4 H4 (((k1.trans k2).trans k3).trans k4) (ex_inv i3 k4 i4) ((((E.kp k1).kp k2).kp k3).kp k4) hq
end AL

set_option Elab.async false
set_option linter.all false
set_option maxRecDepth 100000
set_option maxHeartbeats 4000000
/-! The abstract layer: dicts compared, copied, sorted, popped; count and index of lists. -/
namespace AL
open PySem L2 DL PySem.Spec PyProof.Rows
variable [Wd]
section
variable {K : PySem.W.Frag}
/-- keys ints or texts -/
def kOk (kvs : List (D × D)) : Prop := ∀ kv, kv ∈ kvs → (keyD kv.1).isSome = true
theorem dk_of_kOk {own : Own} {H : Hp} {x : V} {kvs : List (D × D)} (hx : IsT own H x (.dct kvs)) (hk : kOk kvs) : ∃ a vs, x = .ref a ∧ Rd H a (.dK vs) ∧ IsKV own H vs kvs := by
  cases hx with
  | dct h1 _ k1 => exact ⟨_, _, rfl, h1, k1⟩
  | dcn h1 _ k1 ne =>
    exfalso
    cases kvs with
    | nil => exact ne rfl
    | cons kv r =>
      have a1 := hk kv List.mem_cons_self
      have a2 := kn_tup k1 kv List.mem_cons_self
      cases hh : kv.1 <;> rw [hh] at a1 a2 <;> simp [isTup, keyD] at a1 a2
/-! ### d == e -/
def vOk (kvs : List (D × D)) : Prop := ∀ kv, kv ∈ kvs → (keyD kv.1).isSome = true ∧ cmpOk kv.2
def allIn (ls : List (D × D)) (ks : List (D × D)) : Bool := ks.all fun kv => match lkD ls kv.1 with
  | some y => eqD kv.2 y
  | none => false
def eqDct (ks ls : List (D × D)) : Bool := decide (ks.length = ls.length) && allIn ls ks
theorem lkD_mem {kvs : List (D × D)} {k z : D} (h : lkD kvs k = some z) : (k, z) ∈ kvs := by
  unfold lkD at h
  obtain ⟨kv, h1, h2⟩ := Option.map_eq_some_iff.mp h
  have h3 := List.find?_some h1
  have h4 := List.mem_of_find?_eq_some h1
  simp only [decide_eq_true_eq] at h3
  obtain ⟨a, b⟩ := kv
  simp only at h3 h2
  subst h3 h2
  exact h4
theorem hits_is {own : Own} {H : Hp} {ls : List (D × D)} {vl : List (Key × V)} (hl : IsKV own H vl ls) (ol : vOk ls) : ∀ {ks : List (D × D)} {vk : List (Key × V)}, IsKV own H vk ks → vOk ks → HitsD K H vl vk (allIn ls ks)
  | _, _, .nil, _ => .nil
  | _, _, @IsKV.cons _ _ _ k v vs d ds h t, ok => by
    have ih := hits_is hl ol t fun kv hkv => ok kv (List.mem_cons_of_mem _ hkv)
    obtain ⟨g1, g2⟩ := kv_lk k hl
    unfold allIn
    rw [List.all_cons]
    cases e : lkD ls (DL.kD k) with
    | none =>
      simp only [Bool.false_and]
      exact .miss (g2 e)
    | some y =>
      obtain ⟨w, h1, h2⟩ := g1 y e
      have o1 := (ok _ List.mem_cons_self).2
      have o2 := (ol _ (lkD_mem e)).2
      exact .hit h1 (Is.dp _ o1.1 h) (Is.dp _ o2.1 h2) o1.shaped o2.shaped ih
def rEqC (K : PySem.W.Frag) : R2 := fun x y H Q => rEqB K x y H Q ∨ rEqDc K false x y H Q
def rNeC (K : PySem.W.Frag) : R2 := fun x y H Q => rNeB K x y H Q ∨ rEqDc K true x y H Q
theorem op_eqC {X : Cx} (hu : X.A.units + 65 < cLine) : OpR X (compareOp .Eq) (rEqC X.K) := (op_eqB (by omega)).or (op_eqDc hu)
theorem op_neC {X : Cx} (hu : X.A.units + 65 < cLine) : OpR X (compareOp .NotEq) (rNeC X.K) := (op_neB (by omega)).or (op_neDc hu)
def oEqC : A2 := fun d e Q => match d, e with
  | .dct ks, .dct ls => vOk ks ∧ vOk ls ∧ Q (.bl (eqDct ks ls))
  | d, e => oEqB d e Q
def oNeC : A2 := fun d e Q => match d, e with
  | .dct ks, .dct ls => vOk ks ∧ vOk ls ∧ Q (.bl (!eqDct ks ls))
  | d, e => oNeB d e Q
theorem eqDc_ok {neg : Bool} {ks ls : List (D × D)} (h1 : vOk ks) (h2 : vOk ls) : RvP (rEqDc K neg) (.dct ks) (.dct ls) (.bl (xor neg (eqDct ks ls))) := fun own H x y o hx hy Q q => by
  obtain ⟨a, vk, rfl, ra, ka⟩ := dk_of_kOk hx fun kv hkv => (h1 kv hkv).1
  obtain ⟨b, vl, rfl, rb, kb⟩ := dk_of_kOk hy fun kv hkv => (h2 kv hkv).1
  refine ⟨a, b, vk, vl, allIn ls ks, rfl, rfl, ra, rb, fun _ => hits_is kb h2 ka h1, ?_⟩
  have e : (decide (vk.length = vl.length) && allIn ls ks) = eqDct ks ls := by
    unfold eqDct
    rw [kv_length ka, kv_length kb]
  rw [e]
  exact q _ H (Same.refl H) (.bl _)
theorem so_eqC : SOp (rEqC K) oEqC := fun d e Q h => by
  unfold oEqC at h
  split at h
  · obtain ⟨h1, h2, q⟩ := h
    exact ⟨_, rv_inr (eqDc_ok h1 h2), by rw [Bool.false_xor]; exact q⟩
  · obtain ⟨z, h1, h2⟩ := so_eqB d e Q h
    exact ⟨z, rv_inl h1, h2⟩
theorem so_neC : SOp (rNeC K) oNeC := fun d e Q h => by
  unfold oNeC at h
  split at h
  · obtain ⟨h1, h2, q⟩ := h
    exact ⟨_, rv_inr (eqDc_ok h1 h2), by rw [Bool.true_xor]; exact q⟩
  · obtain ⟨z, h1, h2⟩ := so_neB d e Q h
    exact ⟨z, rv_inl h1, h2⟩
end
/-! ### dict(d) -/
def onDct (d : D) (f : List (D × D) → Prop) : Prop := match d with
  | .dct kvs => f kvs
  | _ => False
theorem onDct_iff {d : D} {f : List (D × D) → Prop} (h : onDct d f) : ∃ kvs, d = .dct kvs ∧ f kvs := by
  cases d with
  | dct kvs => exact ⟨kvs, rfl, h⟩
  | _ => exact h.elim
/-- a copy that is owned; as data: aRelD of it -/
def aDictO (a : AE) : AE := fun δ Γ P X => a δ Γ (fun d Γ1 => onDct (rs Γ1 d) fun kvs => kOk kvs ∧ ∀ p, Γ1 p = none → P (.ref p) (upS Γ1 p (.dct kvs))) X
theorem new_kp {fr : Own} {H : Hp} {Γ : Sto} {p : Addr} {c : Cell} {o : HO} (hp : H p = none) : Kp (ownG fr Γ) H (ownG fr (upS Γ p c)) (upd H p o) := fun a o' ha na => ⟨same_new hp a o' ha, fun z => by
  rcases z with z | z
  · exact na (.inl z)
  · by_cases e : a = p
    · subst e; rw [hp] at ha; cases ha
    · rw [upS_ne e] at z; exact na (.inr z)⟩
theorem se_dictO {ta : WX → TE} {ua : AE} (sa : SE ta ua) : SE (fun W => tCB rDictC (tCons (ta W) tNil)) (aDictO ua) := fun fr H0 W δ Γ P X h σ H E i Q q =>
  sa fr H0 W δ Γ _ X h σ H E i _ fun v d Γ1 H1 k1 i1 is1 p1 => by
    obtain ⟨kvs, e, hk, hP⟩ := onDct_iff p1
    have ir := rs_ok i1.1 is1
    rw [e] at ir
    obtain ⟨a, vs, rfl, ra, ka⟩ := dk_of_kOk ir hk
    refine ⟨a, vs, rfl, ra, fun p hp => ?_⟩
    have kk := new_kp (fr := fr) (Γ := Γ1) (c := .dct kvs) (o := .dK vs) hp
    obtain ⟨k2, i2, n2⟩ := new_ok (c := .dct kvs) (o := .dK vs) i1.1 hp (.inl ⟨vs, upd_same, IsKV.kp ka kk⟩) (fun b z => nomatch z)
    exact q (.ref p) _ _ _ (k1.trans k2) (ex_inv i1 k2 i2) (.ref p) (hP p n2)
/-- {} that is owned -/
def aDNewO : AE := fun _ Γ P _ => ∀ p, Γ p = none → P (.ref p) (upS Γ p (.dct []))
theorem se_dnewO : SE (fun _ => tDNewK) aDNewO := fun fr H0 W δ Γ P X h σ H E i Q q => fun p hp => by
  obtain ⟨k2, i2, n2⟩ := new_ok (c := .dct []) (o := .dK []) i.1 hp (.inl ⟨[], upd_same, .nil⟩) (fun b z => nomatch z)
  exact q (.ref p) _ _ _ k2 (ex_inv i k2 i2) (.ref p) (h p n2)
/-! ### sorted(d) -/
def rSortDs : List V → Hp → VK → Prop := fun xs H Q => ∃ (a : Addr) (kvs : List (Key × V)) (ks : List Str), xs = [.ref a] ∧ Rd H a (.dK kvs) ∧ kvs.map (·.1) = ks.map Sum.inr ∧ ks.length < 64 ∧ ∀ ys p, ys.Perm ks → sortedS ys = true → H p = none → Q (.ref p) (upd H p (.lst (ys.map V.str)))
theorem call_sortDs {X : Cx} (hc : X.calm = true) : CallR X (.builtin "sorted") rSortDs := call_sortedD hc
theorem kv_strs {own : Own} {H : Hp} : ∀ {vs : List (Key × V)} {ds : List (D × D)} {ks : List Str}, IsKV own H vs ds → ds.map (·.1) = ks.map D.str → vs.map (·.1) = ks.map Sum.inr
  | _, _, [], .nil, _ => rfl
  | _, _, _ :: _, .nil, e => by cases e
  | _, _, [], .cons _ _, e => by cases e
  | _, _, x :: ks, @IsKV.cons _ _ _ k v vs d ds h t, e => by
    simp only [List.map_cons, List.cons.injEq] at e ⊢
    refine ⟨?_, kv_strs t e.2⟩
    cases k with
    | inl i => simp [DL.kD] at e
    | inr y => simp [DL.kD] at e; rw [e.1]
def aSortD (a : AE) : AE := fun δ Γ P X => a δ Γ (fun d Γ1 => onDct (rs Γ1 d) fun kvs => ∃ ks : List Str, kvs.map (·.1) = ks.map D.str ∧ ks.length < 64 ∧ ∀ ys : List Str, ys.Perm ks → sortedS ys = true → P (.lst (ys.map D.str)) Γ1) X
theorem se_sortD {ta : WX → TE} {ua : AE} (sa : SE ta ua) : SE (fun W => tCB rSortDs (tCons (ta W) tNil)) (aSortD ua) := fun fr H0 W δ Γ P X h σ H E i Q q =>
  sa fr H0 W δ Γ _ X h σ H E i _ fun v d Γ1 H1 k1 i1 is1 p1 => by
    obtain ⟨kvs, e, ks, hk, hl, hP⟩ := onDct_iff p1
    have ir := rs_ok i1.1 is1
    rw [e] at ir
    obtain ⟨a, vs, rfl, ra, ka⟩ := dk_of_kOk ir fun kv hkv => by
      have : kv.1 ∈ kvs.map (·.1) := List.mem_map.mpr ⟨kv, hkv, rfl⟩
      rw [hk] at this
      obtain ⟨x, _, hx⟩ := List.mem_map.mp this
      rw [← hx]
      rfl
    refine ⟨a, vs, ks, rfl, ra, kv_strs ka hk, hl, fun ys p hp hs hpn => ?_⟩
    exact q (.ref p) (.lst (ys.map D.str)) Γ1 _ (k1.trans (Kp.same (same_new hpn))) ((JX fr H0 W X).stab _ _ _ i1 (same_new hpn)) (Is.newLst (inv_ok i1) hpn (IsAll.ofStrs ys)) (hP ys hp hs)
/-! ### d.pop(k) -/
def dropD (kvs : List (D × D)) (k : D) : List (D × D) := kvs.filter fun kv => decide (kv.1 ≠ k)
theorem kv_drop {own : Own} {H : Hp} (k : Key) : ∀ {vs : List (Key × V)} {ds : List (D × D)}, IsKV own H vs ds → IsKV own H (dropK vs k) (dropD ds (DL.kD k))
  | _, _, .nil => .nil
  | _, _, @IsKV.cons _ _ _ k' v vs d ds h t => by
    have ih := kv_drop k t
    unfold dropK dropD at ih ⊢
    by_cases e : k' = k
    · have e1 : decide ((k', v).1 ≠ k) = false := by simp [e]
      have e2 : decide ((DL.kD k', d).1 ≠ DL.kD k) = false := by simp [e]
      rw [List.filter_cons, List.filter_cons, if_neg (by rw [e1]; exact Bool.false_ne_true), if_neg (by rw [e2]; exact Bool.false_ne_true)]
      exact ih
    · have e1 : decide ((k', v).1 ≠ k) = true := by simp [e]
      have e2 : decide ((DL.kD k', d).1 ≠ DL.kD k) = true := by simp; exact fun z => e (kD_inj z)
      rw [List.filter_cons, List.filter_cons, if_pos e1, if_pos e2]
      exact .cons h ih
def onC (Γ : Sto) (d : D) (f : Addr → List (D × D) → Prop) : Prop := match d with
  | .ref p => (match Γ p with
    | some (.dct kvs) => f p kvs
    | _ => False)
  | _ => False
theorem onC_iff {Γ : Sto} {d : D} {f : Addr → List (D × D) → Prop} (h : onC Γ d f) : ∃ p kvs, d = .ref p ∧ Γ p = some (.dct kvs) ∧ f p kvs := by
  unfold onC at h
  split at h
  · split at h
    · exact ⟨_, _, rfl, by assumption, h⟩
    · exact h.elim
  · exact h.elim
def aDPop (o k : AE) : AE := fun δ Γ P X => o δ Γ (fun d Γ1 => onC Γ1 d fun _ kvs => kOk kvs ∧ k δ Γ1 (fun e Γ2 => onC Γ2 d fun p kvs => kOk kvs ∧ (keyD e).isSome = true ∧ ∃ z, lkD kvs e = some z ∧ P z (upS Γ2 p (.dct (dropD kvs e)))) X) X
theorem cell_dk {fr : Own} {H0 H : Hp} {Γ : Sto} {p : Addr} {kvs : List (D × D)} (i : InvG fr H0 Γ H) (hc : Γ p = some (.dct kvs)) (hk : kOk kvs) : ∃ vs, H p = some (.dK vs) ∧ IsKV (ownG fr Γ) H vs kvs := by
  rcases i.cell p _ hc with ⟨vs, h1, h2⟩ | ⟨vs, h1, h2, ne⟩
  · exact ⟨vs, h1, h2⟩
  · exfalso
    cases kvs with
    | nil => exact ne rfl
    | cons kv r =>
      have a1 := hk kv List.mem_cons_self
      have a2 := kn_tup h2 kv List.mem_cons_self
      cases hh : kv.1 <;> rw [hh] at a1 a2 <;> simp [isTup, keyD] at a1 a2
theorem se_dpop {to tk : WX → TE} {uo uk : AE} (so : SE to uo) (sk : SE tk uk) : SE (fun W => tDPop1 (to W) (tk W)) (aDPop uo uk) := fun fr H0 W δ Γ P X h σ H E i Q q =>
  so fr H0 W δ Γ _ X h σ H E i _ fun v d Γ1 H1 k1 i1 is1 p1 => by
    obtain ⟨p, kvs, rfl, hc, hk, p1⟩ := onC_iff p1
    cases is1
    obtain ⟨vs, hv, _⟩ := cell_dk i1.1 hc hk
    refine ⟨p, rfl, .inl ⟨vs, .inl hv⟩, sk fr H0 W δ Γ1 _ X p1 σ H1 (E.kp k1) i1 _ fun u e Γ2 H2 k2 i2 is2 p2 => ?_⟩
    obtain ⟨p', kvs2, e', hc2, hk2, he, z, hz, hP⟩ := onC_iff p2
    cases e'
    obtain ⟨vs2, hv2, ia2⟩ := cell_dk i2.1 hc2 hk2
    obtain ⟨key, hkey⟩ := Option.isSome_iff_exists.mp he
    have ev := keyD_v is2 hkey
    have ee := keyD_kD hkey
    subst ee
    obtain ⟨w, hw, iw⟩ := (kv_lk key ia2).1 z hz
    have kk := chg_kp (fr := fr) (H := H2) (c := .dct (dropD kvs2 (DL.kD key))) (o := .dK (dropK vs2 key)) hc2
    obtain ⟨k3, i3⟩ := chg_ok (c := .dct (dropD kvs2 (DL.kD key))) (o := .dK (dropK vs2 key)) i2.1 hc2 (fun b z => nomatch z) (fun b z => nomatch z) (.inl ⟨_, upd_same, IsKV.kp (kv_drop key ia2) kk⟩) (fun b z => nomatch z)
    exact ⟨vs2, key, w, hv2, ev, hw, q w z _ _ ((k1.trans k2).trans k3) (ex_inv i2 k3 i3) (iw.kp kk) hP⟩
/-! ### list.count, list.index -/
def rCntD (K : PySem.W.Frag) : V → List V → Hp → VK → Prop := fun x xs H Q => ∃ (a : Addr) (y : V) (d : PyData) (ds : List PyData), x = V.ref a ∧ xs = [y] ∧ Dp K H (V.ref a) (.list ds) ∧ Dp K H y d ∧ SeqAt.shaped (.list ds) = true ∧ SeqAt.shaped d = true ∧ Q (.int ((ds.countP fun z => PyData.eqv z d : Nat) : Int)) H
theorem mt_cntD {X : Cx} (hu : X.A.units + 65 < cLine) : MtR X "list.count" (rCntD X.K) := by
  intro pins s σ H x xs v us Q I rx rxs h
  obtain ⟨a, y, d, ds, rfl, rfl, hl, hy, sl, sd, q⟩ := h
  cases rx
  cases rxs with
  | cons ry rt =>
    cases rt
    obtain ⟨bs, r1⟩ := Dp.reads I d y _ hy ry
    cases hl with
    | lst hs ha =>
      obtain ⟨its, rv, pl, _⟩ := I.list hs
      obtain ⟨as, r2⟩ := Dp.readsAll I ds _ _ ha rv
      have hd := SeqAt.depth_of_shaped sd
      refine SeqAt.count_list_data pl.isList (by simpa using r2) r1 (PyData.plainAll_of_canLay0 ds (by simpa [PyData.canLay0] using SeqAt.canLay_of_shaped sl)) (PyData.plain_of_canLay0 d (SeqAt.canLay_of_shaped sd)) (by have := Nat.min_le_right (PyData.depthAll ds) d.depth; omega) ⟨.int _, H, I.tok _, ⟨_, rfl⟩, q⟩
end AL

set_option Elab.async false
set_option linter.all false
set_option maxRecDepth 100000
set_option maxHeartbeats 4000000
/-! The abstract layer: methods that change nothing; dict displays. -/
namespace AL
open PySem L2 DL PySem.Spec PyProof.Rows
variable [Wd]
abbrev AMp := D → List D → (D → Prop) → Prop
def SMp (r : V → List V → Hp → VK → Prop) (m : AMp) : Prop := ∀ d ds Q, m d ds Q → ∃ z, RmP r d ds z ∧ Q z
def aMp (m : AMp) (o : AE) (a : AA) : AE := fun δ Γ P X => o δ Γ (fun d Γ1 => isLst (rs Γ1 d) = true ∧ a δ Γ1 (fun ds Γ2 => m (rs Γ2 d) (ds.map (rs Γ2)) (fun z => P z Γ2)) X) X
theorem se_mp {K : PySem.W.Frag} {r : V → List V → Hp → VK → Prop} {m : AMp} {to : WX → TE} {uo : AE} {tA : WX → TA} {uA : AA} (sm : SMp r m) (so : SE to uo) (sa : SA tA uA) : SE (fun W => tBM K "list" r (to W) (tA W)) (aMp m uo uA) := fun fr H0 W δ Γ P X h σ H E i Q q =>
  so fr H0 W δ Γ _ X h σ H E i _ fun v d Γ1 H1 k1 i1 is1 ⟨hl, p1⟩ => by
    have ir := rs_ok i1.1 is1
    generalize hd : rs Γ1 d = d' at ir hl
    cases ir <;> simp [isLst] at hl
    rename_i a vs xs g1 g2 g3
    refine ⟨.inl ⟨rfl, vs, SqL.of g1⟩, sa fr H0 W δ Γ1 _ X p1 σ H1 (E.kp k1) i1 _ fun ws ds Γ2 H2 k2 i2 is2 p2 => ?_⟩
    obtain ⟨z, rz, pz⟩ := sm _ _ _ p2
    exact rz (ownG fr Γ2) H2 _ ws (inv_ok i2) (rs_ok i2.1 (is1.kp k2)) (rs_all i2.1 is2) Q fun w H3 s3 is3 => q w z Γ2 H3 ((k1.trans k2).trans (Kp.same s3)) ((JX fr H0 W X).stab _ _ _ i2 s3) is3 pz
section
variable {K : PySem.W.Frag}
def countD (xs : List D) (y : D) : Nat := xs.countP fun z => eqD z y
theorem count_py (y : D) : ∀ xs : List D, ((toPys xs).countP fun z => PyData.eqv z (toPy y)) = countD xs y
  | [] => rfl
  | x :: xs => by
    unfold countD
    rw [toPys, List.countP_cons, List.countP_cons, count_py y xs]
    rfl
def mCount : AMp := fun d ds Q => match d, ds with
  | .lst xs, [y] => cmpOk (.lst xs) ∧ cmpOk y ∧ Q (.int ((countD xs y : Nat) : Int))
  | _, _ => False
theorem sm_count : SMp (rCntD K) mCount := fun d ds Q h => by
  unfold mCount at h
  split at h
  · rename_i xs y
    obtain ⟨h1, h2, q⟩ := h
    refine ⟨_, fun own H x vs o hx hv Q' q' => ?_, q⟩
    cases hv with
    | cons hy t =>
      cases t
      have hd := hx.dp (K := K) h1.1
      cases hx with
      | lst g1 g2 g3 =>
        refine ⟨_, _, toPy y, toPys xs, rfl, rfl, hd, hy.dp h2.1, h1.shaped, h2.shaped, ?_⟩
        rw [count_py]
        exact q' _ H (Same.refl H) (.int _)
  · exact h.elim
def mIndex : AMp := fun d ds Q => match d, ds with
  | .lst xs, [y] => cmpOk (.lst xs) ∧ cmpOk y ∧ ∃ (j : Nat) (z : D), xs[j]? = some z ∧ eqD z y = true ∧ (∀ (m : Nat) (z' : D), m < j → xs[m]? = some z' → eqD z' y = false) ∧ Q (.int ((j : Nat) : Int))
  | _, _ => False
theorem toPys_get : ∀ (xs : List D) (j : Nat), (toPys xs)[j]? = (xs[j]?).map toPy
  | [], j => by simp [toPys]
  | x :: xs, 0 => by simp [toPys]
  | x :: xs, j + 1 => by simp [toPys, toPys_get xs j]
theorem sm_index : SMp (rIndexD K) mIndex := fun d ds Q h => by
  unfold mIndex at h
  split at h
  · rename_i xs y
    obtain ⟨h1, h2, j, z, e1, e2, e3, q⟩ := h
    refine ⟨_, fun own H x vs o hx hv Q' q' => ?_, q⟩
    cases hv with
    | cons hy t =>
      cases t
      have hd := hx.dp (K := K) h1.1
      cases hx with
      | lst g1 g2 g3 =>
        refine ⟨_, _, toPy y, toPys xs, j, toPy z, rfl, rfl, hd, hy.dp h2.1, h1.shaped, h2.shaped, by rw [toPys_get, e1]; rfl, e2, fun m z' hm hz => ?_, q' _ H (Same.refl H) (.int _)⟩
        rw [toPys_get] at hz
        obtain ⟨w, hw, rfl⟩ := Option.map_eq_some_iff.mp hz
        exact e3 m w hm hw
  · exact h.elim
end
theorem _root_.L2.Room.u65 {k : Nat} {A : Around} (hr : Room k A) : A.units + 65 < cLine := by
  have := hr.un
  omega
/-! ### {k: v, ..} -/
def aPr : List (AE × AE) → DL.Env → Sto → (List (D × D) → Sto → Prop) → Prop
  | [], _, Γ, P => P [] Γ
  | (k, v) :: r, δ, Γ, P => k δ Γ (fun kd Γ1 => v δ Γ1 (fun vd Γ2 => aPr r δ Γ2 fun l Γ3 => P ((kd, vd) :: l) Γ3) X0) X0
def mergeD (acc l : List (D × D)) : List (D × D) := l.foldl (fun acc kv => putD acc kv.1 kv.2) acc
def aDisp (ps : List (AE × AE)) : AE := fun δ Γ P X => aPr ps δ Γ fun l Γ1 => l.length ≤ 15 ∧ kOk l ∧ P (.dct (mergeD [] l)) Γ1
inductive SPr : List (WX → TE × TE) → List (AE × AE) → Prop
  | nil : SPr [] []
  | cons {tk tv : WX → TE} {uk uv : AE} {ts : List (WX → TE × TE)} {us : List (AE × AE)} : SE tk uk → SE tv uv → SPr ts us → SPr ((fun W => (tk W, tv W)) :: ts) ((uk, uv) :: us)
/-- pairs of values stand for pairs of data -/
inductive IsPrs (own : Own) (H : Hp) : List (V × V) → List (D × D) → Prop
  | nil : IsPrs own H [] []
  | cons {k v : V} {vs : List (V × V)} {e d : D} {ds : List (D × D)} : Is own H k e → Is own H v d → IsPrs own H vs ds → IsPrs own H ((k, v) :: vs) ((e, d) :: ds)
theorem IsPrs.kp {own own' : Own} {H H' : Hp} (k : Kp own H own' H') : ∀ {vs : List (V × V)} {ds : List (D × D)}, IsPrs own H vs ds → IsPrs own' H' vs ds
  | _, _, .nil => .nil
  | _, _, .cons h1 h2 t => .cons (h1.kp k) (h2.kp k) (t.kp k)
theorem IsPrs.keys {own : Own} {H : Hp} : ∀ {vs : List (V × V)} {ds : List (D × D)}, IsPrs own H vs ds → kOk ds → ∃ kvs : List (Key × V), vs = kvs.map (fun kv => (kV kv.1, kv.2)) ∧ IsKV own H kvs ds
  | _, _, .nil, _ => ⟨[], rfl, .nil⟩
  | _, _, @IsPrs.cons _ _ _ k v vs e d ds h1 h2 t, ok => by
    obtain ⟨kvs, e1, ik⟩ := t.keys fun kv hkv => ok kv (List.mem_cons_of_mem _ hkv)
    obtain ⟨key, hkey⟩ := Option.isSome_iff_exists.mp (ok _ List.mem_cons_self)
    have ev := keyD_v h1 hkey
    have ee := keyD_kD hkey
    simp only at ee
    subst ee
    exact ⟨(key, v) :: kvs, by rw [List.map_cons, e1, ev], .cons h2 ik⟩
theorem kv_merge {own : Own} {H : Hp} : ∀ {ws vs : List (Key × V)} {es ds : List (D × D)}, IsKV own H ws es → IsKV own H vs ds → IsKV own H (mergeK vs ws) (mergeD ds es)
  | _, _, _, _, .nil, s => s
  | _, vs, _, ds, @IsKV.cons _ _ _ k v ws d es h t, s => by
    have := kv_merge t (kv_put (k := k) s h)
    exact this
theorem pr_run {fr : Own} {H0 : Hp} : ∀ {ts : List (WX → TE × TE)} {us : List (AE × AE)}, SPr ts us → ∀ {δ : DL.Env} {Γ : Sto} {P : List (D × D) → Sto → Prop} {σ : L2.St} {H : Hp} {Q : List (V × V) → Hp → Prop}, aPr us δ Γ P → EnvR (ownG fr Γ) H σ δ → InvG fr H0 Γ H →
    (∀ ps l Γ' H', Kp (ownG fr Γ) H (ownG fr Γ') H' → InvG fr H0 Γ' H' → IsPrs (ownG fr Γ') H' ps l → P l Γ' → Q ps H') → tPairs (ts.map fun t => t W0) σ H Q
  | _, _, .nil, _, Γ, _, _, H, _, h, _, i, q => q [] [] Γ H Kp.refl i .nil h
  | _, _, .cons sk sv sr, δ, Γ, P, σ, H, Q, h, E, i, q => by
    have z : ∀ {Γ : Sto} {H : Hp}, InvG fr H0 Γ H → (JX fr H0 W0 X0).inv Γ H := fun i => ⟨i, fun _ _ _ _ _ _ _ _ _ _ _ z => z.elim⟩
    refine sk fr H0 W0 δ Γ _ X0 h σ H E (z i) _ fun k kd Γ1 H1 k1 i1 is1 p1 => sv fr H0 W0 δ Γ1 _ X0 p1 σ H1 (E.kp k1) i1 _ fun v vd Γ2 H2 k2 i2 is2 p2 => ?_
    exact pr_run sr p2 ((E.kp k1).kp k2) i2.1 fun ps l Γ3 H3 k3 i3 is3 p3 => q _ _ Γ3 H3 ((k1.trans k2).trans k3) i3 (.cons ((is1.kp k2).kp k3) (is2.kp k3) is3) p3
theorem se_disp {ts : List (WX → TE × TE)} {us : List (AE × AE)} (sp : SPr ts us) : SE (fun _ => tFrz (tDisp (ts.map fun t => t W0))) (aDisp us) := fun fr H0 W δ Γ P X h σ H E i Q q => fun p hp => by
  have nf : ¬ fr p := fun z => by
    obtain ⟨_, o, _, h2⟩ := i.1.frame p z
    rw [hp] at h2; cases h2
  have nG : Γ p = none := by
    cases hc : Γ p with
    | none => rfl
    | some c =>
      obtain ⟨o, ho⟩ := (i.1.cell p c hc).some
      rw [hp] at ho; cases ho
  have kD : Kp (ownG fr Γ) H (ownG (frP fr p) Γ) (upd H p (.dK [])) := fun a o ha na => ⟨same_new hp a o ha, fun z => by
    rcases z with (z | z) | z
    · exact na (.inl z)
    · subst z; rw [hp] at ha; cases ha
    · exact na (.inr z)⟩
  have iD : InvG (frP fr p) (upd H p (.dK [])) Γ (upd H p (.dK [])) := i.1.mv kD (fun a ha => upd_ne fun z => ha (z ▸ nG)) fun a ha => by
    rcases ha with ha | ha
    · obtain ⟨n, o, _, h2⟩ := i.1.frame a ha
      exact ⟨n, o, same_new hp a o h2, same_new hp a o h2⟩
    · subst ha
      exact ⟨nG, _, upd_same, upd_same⟩
  refine pr_run sp h (E.kp kD) iD fun ps l Γ1 H1 k1 i1 is1 ⟨h15, hk, hP⟩ => ?_
  obtain ⟨n1, o, ho, ho'⟩ := i1.frame p (.inr rfl)
  rw [upd_same] at ho
  cases ho
  obtain ⟨kvs, e1, ik⟩ := is1.keys hk
  refine ⟨ho', kvs, e1, by rw [kv_length ik]; exact h15, p, _, rfl, upd_same, trivial, fun od => ?_⟩
  rw [upd_upd]
  have kk : Kp (ownG (frP fr p) Γ1) H1 (ownG fr Γ1) (upd H1 p (.frz od (.dK (mergeK [] kvs)))) := fun a o ha na => by
    have ne : a ≠ p := fun z => na (.inl (.inr z))
    exact ⟨by rw [upd_ne ne]; exact ha, fun z => na (by
      rcases z with z | z
      · exact .inl (.inl z)
      · exact .inr z)⟩
  have kq := (kD.trans k1).trans kk
  have iq : InvG fr H Γ1 (upd H1 p (.frz od (.dK (mergeK [] kvs)))) := i1.mv kk (fun a ha => upd_ne fun z => ha (z ▸ n1)) fun a ha => by
    have ne : a ≠ p := fun z => nf (z ▸ ha)
    obtain ⟨n2, o2, g1, g2⟩ := i1.frame a (.inl ha)
    rw [upd_ne ne] at g1
    exact ⟨n2, o2, g1, by rw [upd_ne ne]; exact g2⟩
  refine q (.ref p) (.dct (mergeD [] l)) Γ1 _ kq (ex_inv i kq (i.1.then iq)) (.dct upd_same (fun z => ?_) (IsKV.kp (kv_merge ik .nil) kk)) hP
  rcases z with z | z
  · exact nf z
  · exact z n1
end AL

set_option Elab.async false
set_option linter.all false
set_option maxRecDepth 100000
set_option maxHeartbeats 2000000
/-! a list that holds lists, asked whether it is empty; repr of data; three names at once -/
namespace AL
open PySem PySem.Spec PyProof.Rows PySem.SeqAt L2 DL
variable [Wd]
variable {K : PySem.W.Frag}
def rNeL (K : PySem.W.Frag) : R2 := fun x y H Q => ∃ a b u xs, x = .ref a ∧ y = .ref b ∧ SqL K H a (u :: xs) ∧ SqL K H b [] ∧ Q (.bl true) H
theorem op_neL {X : Cx} (hu : X.A.units + 64 < cLine) : OpR X (compareOp .NotEq) (rNeL X.K) := by
  intro pins s σ H x y v u Q I rx ry h
  obtain ⟨a, b, z, xs, rfl, rfl, h1, h2, q⟩ := h
  cases (show v = Value.ref a from rx)
  cases (show u = Value.ref b from ry)
  obtain ⟨its, r1, p1, z1⟩ := I.list h1
  obtain ⟨its2, r2, p2, z2⟩ := I.list h2
  have e2 : its2 = [] := by cases r2; rfl
  subst e2
  have l1 : s.heap.IsList a its.toArray := p1.isList
  have l2 : s.heap.IsList b #[] := p2.isList
  refine RcNeAt.lists_lengths l1 l2 ?_ (by omega) _ _ _ _ ⟨.bl true, H, I, rfl, q⟩
  have := r1.length
  simp only [List.length_cons] at this
  simp [bne, ← this]
def rNeE (K : PySem.W.Frag) : R2 := fun x y H Q => rNeB K x y H Q ∨ rNeL K x y H Q
theorem op_neE {X : Cx} (hu : X.A.units + 64 < cLine) : OpR X (compareOp .NotEq) (rNeE X.K) := (op_neB hu).or (op_neL hu)
def oNeE : A2 := fun d e Q => match d, e with
  | .lst (_ :: _), .lst [] => Q (.bl true)
  | d, e => oNeB d e Q
theorem so_neE : SOp (rNeE K) oNeE := fun d e Q h => by
  unfold oNeE at h
  split at h
  · refine ⟨_, rv_inr fun own H x y o hx hy Q q => ?_, h⟩
    cases hx with
    | lst h1 n1 a1 =>
      cases hy with
      | lst h2 n2 a2 =>
        cases a1 with
        | cons a1 b1 =>
          cases a2
          exact ⟨_, _, _, _, rfl, rfl, SqL.of h1, SqL.of h2, q _ H (Same.refl H) (.bl _)⟩
  · obtain ⟨z, hz, q⟩ := so_neB d e Q h
    exact ⟨z, rv_inl hz, q⟩
/-! ### three names at once -/
def aPar3 (i j l : Nat) (a : AA) : AS := fun Po δ Γ => a δ Γ (fun ds Γ1 => match ds with
  | [x, y, z] => Po.nx (((δ.set i (some x)).set j (some y)).set l (some z)) Γ1
  | _ => False) Po.ex
theorem rn_par3 {τ : Type} {J : Ifc τ} {δ : DL.Env} {s : τ} {Po : Post τ} {i j l : Nat} {ta : TA} {A : List D → τ → Prop} (h : Ea J ta δ s A) (hA : ∀ ds s', A ds s' → ∃ x y z, ds = [x, y, z] ∧ Po.nx (((δ.set i (some x)).set j (some y)).set l (some z)) s') : Rn J (tPar3 i j l ta) δ s Po := fun En σ H E inv q1 q2 q3 q4 => h σ H E inv _ fun vs ds s' H' k i' is p => by
  obtain ⟨x, y, z, rfl, pp⟩ := hA ds s' p
  cases is with
  | cons h1 t1 =>
    cases t1 with
    | cons h2 t2 =>
      cases t2 with
      | cons h3 t3 =>
        cases t3
        exact ⟨_, _, _, rfl, q1 _ _ s' H' k i' ((((E.kp k).set i h1).set j h2).set l h3) pp⟩
theorem ss_par3 {tA : WX → TA} {uA : AA} {i j l : Nat} (sa : SA tA uA) : SS (fun W => tPar3 i j l (tA W)) (aPar3 i j l uA) := fun fr H0 W δ Γ Po h => rn_par3 (sa fr H0 W δ Γ _ _ h) fun ds Γ1 p => by
  split at p
  · exact ⟨_, _, _, rfl, p⟩
  · exact p.elim
/-! ### repr of lists and tuples of data -/
def rRepr (K : PySem.W.Frag) : List V → Hp → VK → Prop := fun xs H Q => ∃ a d, xs = [.ref a] ∧ Dp K H (.ref a) d ∧ d.showable = true ∧ d.hasDict = false ∧ d.depth ≤ 64 ∧ d.shown.length ≤ sizeLine ∧ Q (.str d.shown) H
theorem call_repr {X : Cx} (hg : X.A.guards = some []) (hu : X.A.units + 65 < cLine) : CallR X (.builtin "repr") (rRepr X.K) := by
  intro pins s σ H xs us Q I r h
  obtain ⟨a, d, rfl, hd, h1, h2, h3, h4, q⟩ := h
  obtain ⟨u, rfl, ru⟩ := vals1 r
  obtain rfl : u = Value.ref a := ru
  obtain ⟨as, r1⟩ := Dp.reads I d _ _ hd (show RelV (.ref a) (Value.ref a) from rfl)
  exact repr_of_reads' r1 h1 (fun e => by rw [h2] at e; cases e) hg (by omega) (fun _ _ e => e) (fun h' u tk hk => ⟨.str d.shown, H, I.kept hk, ⟨u, rfl⟩, q⟩) h4
mutual
theorem noDict : ∀ d : D, DL.plain d = true → (toPy d).hasDict = false
  | .non, _ => by simp [toPy, PyData.hasDict]
  | .bl b, _ => by simp [toPy, PyData.hasDict]
  | .int i, _ => by simp [toPy, PyData.hasDict]
  | .str x, _ => by simp [toPy, PyData.hasDict]
  | .ref a, p => by simp [DL.plain] at p
  | .ty a, p => by simp [DL.plain] at p
  | .exc0 a, p => by simp [DL.plain] at p
  | .exc1 a _ _, p => by simp [DL.plain] at p
  | .dct ds, p => by simp [DL.plain] at p
  | .tup ds, p => by simpa [toPy, PyData.hasDict] using noDicts ds (by simpa [DL.plain] using p)
  | .lst ds, p => by simpa [toPy, PyData.hasDict] using noDicts ds (by simpa [DL.plain] using p)
theorem noDicts : ∀ ds : List D, plains ds = true → PyData.hasDictAll (toPys ds) = false
  | [], _ => by simp [toPys, PyData.hasDictAll]
  | d :: ds, p => by
    have p' : DL.plain d = true ∧ plains ds = true := by simpa [plains] using p
    simp [toPys, PyData.hasDictAll, noDict d p'.1, noDicts ds p'.2]
end
def isSq : D → Bool
  | .tup _ => true
  | .lst _ => true
  | _ => false
def cRepr : AC := fun ds Q => match ds with
  | [d] => isSq d = true ∧ cmpOk d ∧ (toPy d).showable = true ∧ (toPy d).shown.length ≤ sizeLine ∧ Q (.str (toPy d).shown)
  | _ => False
theorem so_repr : SCb (rRepr K) cRepr := fun ds Q h => by
  unfold cRepr at h
  split at h
  · rename_i d
    obtain ⟨h1, h2, h3, h4, q⟩ := h
    refine ⟨_, fun own H xs o hx Q q => ?_, q⟩
    cases hx with
    | @cons v _ _ _ a1 t1 =>
      cases t1
      have dp : Dp K H v (toPy d) := a1.dp h2.1
      have hr : ∃ a, v = V.ref a := by
        cases a1 <;> first | exact ⟨_, rfl⟩ | simp [isSq] at h1
      obtain ⟨a, rfl⟩ := hr
      exact ⟨a, _, rfl, dp, h3, noDict d h2.1, by rw [depth_toPy]; exact h2.2, h4, q _ H (Same.refl H) (.str _)⟩
  · exact h.elim
end AL

set_option Elab.async false
set_option linter.all false
set_option maxRecDepth 100000
set_option maxHeartbeats 2000000
/-! The law run from its caller alone: nothing is under repr there (guards = some []). -/
namespace AL
open PySem PySem.Spec PyProof.Rows L2 DL
variable [Wd]
/-- a def of one argument keeps a promise when the caller of the whole calls it -/
def FnG (P : Program) (w : World) (K : PySem.W.Frag) (mg : Str → Option Value) (base : Heap) (f : Addr) (fd : FuncData) (x : Str) (sp : Sp) : Prop :=
  ∀ (s : Shared) (H : Hp) (u : Value) (v : V) (Q : VK) (E : XK), Env0 P w K mg base callerA [] s H → BindsTo s fd ⟨[u], []⟩ [(x, u)] → RelV v u → sp [v] H Q E → codeAny (model P w) callerA (.call (.ref f) ⟨[u], []⟩) (CR (L2.CX P w) [] P w H s Q E) s
theorem fnG_of {P : Program} {w : World} {K : PySem.W.Frag} {mg : Str → Option Value} {base : Heap} {x name qual : Str} {st : Stmt} {f : Addr} {fd : FuncData} {N : List Str} {k : Nat} {sp : Sp} (F : L2.Fun K name qual st f fd) (S : FnScope N [x] (defScope st)) (hr : Room (k + 1) callerA)
    (hbody : ∀ (cdv : Value) (s : Shared) (H : Hp) (v : V) (Q : VK) (E : XK), Room k (callerA.deeper (envOfC qual (defScope st) s.heap.objs.size f cdv)) → sp [v] H Q E →
      ∃ t, PSs (cxOf (L2.CX P w) P w K mg base N qual (defScope st) f cdv callerA [] s H E) (defBody st) t ∧ t { nx := fun _ H' => Q .non H', rt := Q } (start N [v]) H) : FnG P w K mg base f fd x sp := by
  intro s H u v Q E e0 hb rv hsp
  obtain ⟨oc, od, kV, doc, pm, an, cdv, ct, osl, rfl, lk, hcd⟩ := F.ex
  have up : ∀ b o, base.get? b = some o → s.heap.get? b = some o := fun b o e => (e0.bs b o e).1
  have kin : K.In s.heap := e0.mod.kin.keeps up
  refine codeAny_call_function hr.depth (kin _ _ lk) rfl S.co S.gen rfl (PySem.W.codeRec_of kin hcd) (hb _ _ _ _ ?_)
  refine wpAny_newFunctionEnv_cells S.kind (fun y hy => ?_) fun env he s1 z => ?_
  · obtain rfl : y = (x, u) := List.mem_singleton.mp hy
    exact (S.par x List.mem_cons_self).imp id fun q => ⟨q, PySem.W.cellsFrom_some _ _ _ (.inl q)⟩
  · cases he
    refine ⟨(e0.mod.nolimit.keeps up).keeps z.toInCall.keep, codeAny_func ?_⟩
    obtain ⟨t, ht, hq⟩ := hbody cdv s H v Q E (hr.deeper _) hsp
    have I0 : Inv (cxOf (L2.CX P w) P w K mg base N qual (defScope st) f cdv callerA [] s H E) [] (start N [v]) H s1 := inv_start (us := [u]) (vs := [v]) S hr.hd e0 rfl (.cons rv .nil) z
    refine wpAny_mono (ht.run [] s1 _ H _ I0 hq) (fun fl s' hs => ?_) fun e s' hs => hs
    cases fl with
    | ret u' =>
      obtain ⟨v', σ', H', J, rv', q⟩ := hs
      exact ⟨v', H', J.os, J.bare, J.base, J.hok, rv', q⟩
    | next =>
      obtain ⟨σ', H', J, q⟩ := hs
      exact ⟨V.non, H', J.os, J.bare, J.base, J.hok, rfl, q⟩
    | brk =>
      obtain ⟨_, _, _, q⟩ := hs
      exact q.elim
    | cont =>
      obtain ⟨_, _, _, q⟩ := hs
      exact q.elim
omit [Wd] in
/-- the law's call, at the heap behind the top -/
theorem callG {P : Program} {w : World} {K : PySem.W.Frag} {mg mb : Str → Option Value} {fa a : Addr} {fd : FuncData} {x : Str} {s₁ : Shared} {vs : List Value} {ns : List Int}
    (KX : K.In s₁.heap) (hns : s₁.heap.Ns mainGlobals mg) (hb : s₁.heap.Ns builtinsNs mb) (hbb : ∀ x : Str, x ≠ "__name__" → mb x = bootBuiltins x) (hlim : s₁.heap.NoLimit) (hg : s₁.gens = #[])
    (ha : s₁.heap.get? a = some { cls := .type "list", data := .seq vs.toArray }) (hi : IntsAre vs ns) (hl : ns.length ≤ 63) (hbind : ∀ (s : Shared) (u : Value), BindsTo s fd ⟨[u], []⟩ [(x, u)])
    (F : ∀ base : Heap, K.In base → base.Ns mainGlobals mg → FnG P w K mg base fa fd x (spLaw K)) :
    codeAny (model P w) callerA (.call (.ref fa) ⟨[.ref a], []⟩) (fun r s' => r = .ok (.ret (.bool true)) ∧ OldK s₁.heap s'.heap ∧ s'.os = s₁.os ∧ AllBare s'.gens) s₁ := by
  have rv := vals_ints hi
  have hz : ns.length ≤ sizeLine := Nat.le_trans hl (by rw [sizeLine_eq]; decide)
  -- tracked: the script, where it is no object of the module
  have one : ∃ H : Hp, (∀ b u, H b = some u → b = a ∧ K.lookup a = none ∧ u = .frz { cls := .type "list", data := .seq vs.toArray } (.lst (ns.map V.int))) ∧ SqL K H a (ns.map V.int) := by
    refine ⟨fun b => if b = a ∧ K.lookup a = none then some (.frz { cls := .type "list", data := .seq vs.toArray } (.lst (ns.map V.int))) else none, fun b u e => ?_, ?_⟩
    · by_cases c : b = a ∧ K.lookup a = none
      · have e' := (if_pos c).symm.trans e
        exact ⟨c.1, c.2, (Option.some.inj e').symm⟩
      · have e' := (if_neg c).symm.trans e
        cases e'
    · cases hk : K.lookup a with
      | none => exact .inl (.inr ⟨_, if_pos ⟨rfl, rfl⟩⟩)
      | some o =>
        have e := KX a o hk
        rw [ha] at e
        cases e
        exact .inr ⟨_, vs.toArray, _, hk, rfl, rfl, rfl, by rw [List.size_toArray, ← rv.length, List.length_map]; exact hz, by simpa using rv⟩
  obtain ⟨H, hH, hS⟩ := one
  have hok : HOk P w H s₁.heap := fun b u e => by
    obtain ⟨rfl, _, rfl⟩ := hH b u e
    exact ⟨ha, by rw [List.length_map]; exact hz, vs, _, rv, ha⟩
  have off : ∀ {b : Addr} {o : Obj}, s₁.heap.get? b = some o → (b = a → False) → (hidT s₁.heap H).get? b = some o := fun {b o} e n => hidT_get e (by
    cases q : H b with
    | none => rfl
    | some u => exact (n (hH b u q).1).elim)
  have nsK : ∀ {b : Addr} {m : Str → Option Value}, s₁.heap.Ns b m → (hidT s₁.heap H).Ns b m := fun {b m} ⟨o, es, ep, e, d, r⟩ => ⟨o, es, ep, off e (fun z => by
    subst z
    rw [ha] at e
    cases e
    cases d), d, r⟩
  have kin : K.In (hidT s₁.heap H) := fun b o e => hidT_get (KX b o e) (by
    cases q : H b with
    | none => rfl
    | some u =>
      obtain ⟨rfl, h2, _⟩ := hH b u q
      rw [h2] at e
      cases e)
  have e0 : Env0 P w K mg (hidT s₁.heap H) callerA [] s₁ H := by
    obtain ⟨mc, h1, h2⟩ := hlim
    exact { frames := rfl, mod := ⟨kin, nsK hns, ⟨mb, nsK hb, hbb⟩, ⟨mc, nsK h1, h2⟩⟩, bs := fun b o e => of_hidT e, bsz := Nat.le_of_eq (hidT_size _ _), funs := trivial, frf := fun b z => absurd (show b ∈ ([] : List Addr) from z) (by simp), hok := hok, bare := .of_eq hg }
  refine codeAny_mono (F _ kin (nsK hns) s₁ H (.ref a) (.ref a) (fun v _ => v = .bl true) (fun _ _ _ => False) e0 (hbind s₁ (.ref a)) rfl ⟨a, ns, rfl, hS, hl, fun _ => rfl⟩) fun r s' h => ?_
  cases r with
  | error e =>
    obtain ⟨_, _, _, _, _, _, _, _, _, _, _, _, z⟩ := h
    exact z.elim
  | ok fl =>
    cases fl with
    | ret u =>
      obtain ⟨v, H', os, bare, un, hok', r', q⟩ := h
      obtain rfl : v = .bl true := q
      obtain rfl : u = Value.bool true := r'
      refine ⟨rfl, OldK.of_keep fun b o e => ?_, os, bare⟩
      cases q : H b with
      | none => exact un.keep b o e q (fun z => absurd (show b ∈ ([] : List Addr) from z) (by simp)) (by simp)
      | some t =>
        obtain ⟨rfl, _, rfl⟩ := hH b t q
        rw [ha] at e
        cases e
        exact (hok' b _ (un.frzs b _ _ q)).1
    | _ => exact False.elim h
omit [Wd] in
theorem walkG {l : PySem.W.OpenLaw} {q : Program} {loose : List Str} {XP : (Str → Option Value) → Heap → Prop} {YP : World → Heap → Prop} {d : DefRec} {K : Params → PySem.W.Frag} (hn : l.most = some 63) (hdf : d.params.defaults = [])
    (hY : ∀ (w : World) (h : Heap), YP w h → (K w.params).In h)
    (F : ∀ (w : World) (mg : Str → Option Value) (fa : Addr) (h : Heap), (K w.params).In h → h.Ns mainGlobals mg → mg d.name = some (.ref fa) →
      ∃ fd : FuncData, (∀ (s : Shared) (u : Value), BindsTo s fd ⟨[u], []⟩ [("_law_script", u)]) ∧ ∀ base : Heap, (K w.params).In base → base.Ns mainGlobals mg → FnG l.prog w (K w.params) mg base fa fd "_law_script" (spLaw (K w.params))) :
    PySem.W.WalkO q loose XP YP l.row.toRowW d [] (fun f vs => PySem.call f vs) := by
  refine Att.attach_call hn hdf fun w s₀ s₁ mg mb fa o pm cd doc a vs ns G Y ho hd hcd hmg hobj hints hlen hg => ?_
  have KX := hY w _ Y
  obtain ⟨fd, hb, hF⟩ := F w mg fa _ KX G.T.g hmg
  exact callG KX G.T.g G.T.b G.T.builtins G.T.nolimit hg hobj hints hlen hb hF
theorem ok_lawG {P : Program} {w : World} {K : PySem.W.Frag} {mg : Str → Option Value} {base : Heap} {x qual : Str} {st : Stmt} {f : Addr} {fd : FuncData} {N : List Str} {k n : Nat} {rest : WX → TS} {u : AS} (F : L2.Fun K x qual st f fd) (S : FnScope N ["_law_script"] (defScope st)) (hN : N.length = n + 2) (hu : SS rest u) (hr : Room (k + 1) callerA)
    (hbody : ∀ (cdv : Value) (s : Shared) (H : Hp) (E : XK), Room k (callerA.deeper (PyProof.Rows.envOfC qual (defScope st) s.heap.objs.size f cdv)) →
      PSs (cxOf (L2.CX P w) P w K mg base N qual (defScope st) f cdv callerA [] s H E) (defBody st) (tSeq (tAsg (tCallS (spBegin K) (WE fun cls d _ H' => E cls d H') (tCons (tVar 0) tNil)) (gName 1)) (rest fun cls d _ H' => E cls d H')))
    (hlaw : ∀ a c, a ≠ c → u endsL (none :: some (.ref a) :: List.replicate n none) (sto0 a c)) : FnG P w K mg base f fd "_law_script" (spLaw K) := by
  refine fnG_of F S hr fun cdv s H v Q E hr h => ?_
  · obtain ⟨a0, ns, e0, hS, h63, q⟩ := h
    cases e0
    refine ⟨_, hbody cdv s H E hr, ?_⟩
    have e : L2.start N [.ref a0] = some (.ref a0) :: none :: List.replicate n none := by
      unfold L2.start
      rw [hN]
      rfl
    rw [e]
    refine ⟨_, rfl, a0, ns, rfl, hS, h63, fun a c H1 s1 ha hc dr => ?_⟩
    show rest _ { nx := fun _ H' => Q .non H', rt := Q } (some (.ref a0) :: some (.ref a) :: List.replicate n none) H1
    have nac : a ≠ c := by
      obtain ⟨_, _, _, _, _, h, _⟩ := dr
      exact h
    have iG : InvG (fun _ => False) H1 (sto0 a c) H1 := by
      refine ⟨fun _ z => z.elim, fun b cl hb => ?_, fun b cl hb => ?_⟩
      · unfold sto0 at hb
        split at hb
        · rename_i e'
          cases hb
          subst e'
          exact dr
        · split at hb
          · rename_i e'
            cases hb
            subst e'
            obtain ⟨_, _, _, _, h2, _⟩ := dr
            exact ⟨_, h2⟩
          · cases hb
      · unfold sto0 at hb ⊢
        split at hb
        · rename_i e'
          cases hb
          subst e'
          rw [if_neg (fun z => nac z.symm), if_pos rfl]
        · split at hb <;> cases hb
    have nones : ∀ m : Nat, EnvR (ownG (fun _ => False) (sto0 a c)) H1 (List.replicate m none) (List.replicate m none) := fun m => by
      induction m with
      | zero => exact .nil
      | succ m ih => rw [List.replicate_succ, List.replicate_succ]; exact .skip ih
    exact hu (fun _ => False) H1 _ _ (sto0 a c) endsL (hlaw a c nac) _ _ H1 (.skip (.cons (.ref a) (nones n))) ⟨iG, fun _ _ _ _ _ _ _ _ _ _ _ z => z.elim⟩ (fun _ _ _ _ _ _ _ z => z.elim) (fun v d s' H' kp i is e => by
      have e' : d = .bl true := e
      subst e'
      cases is
      exact q H') (fun _ _ _ _ _ _ _ z => z.elim) (fun _ _ _ _ _ _ _ z => z.elim)
end AL

set_option Elab.async false
set_option linter.all false
set_option maxRecDepth 100000
set_option maxHeartbeats 4000000
/-! Readings, abstract bodies and their soundness (printed by gen3.py). -/
namespace LM
open PySem L2 DL AL
/-- the classes of the text -/
structure Cs where
  MatchError : Addr
  BadTerm : Addr
  BadPattern : Addr
  BadTerms : Addr
  NoHole : Addr
  TooGreat : Addr
  TooMany : Addr
  NotAlike : Addr
  NoDeed : Addr
  NoLog : Addr
  BadTable : Addr
  BadRule : Addr
  BadRules : Addr
  NoCover : Addr
  NotReached : Addr
  NoText : Addr
variable [Wd]
def t_are_letters (K : PySem.W.Frag) (cs : Cs) (W : WX) : TS :=
  (tRet (tAndV (tChain (rI0 fun i j => .bl (decide (i ≤ j))) (rI0 fun i j => .bl (decide (i ≤ j))) (tC (.int 1)) (tCB (rLenA K) (tCons (tVar 0) tNil)) (tVar 1)) (tCB (rAll K) (tCons (tLc (iSeq K (tVar 0)) (gName 2) tYes (tOp (rInB K) (tVar 2) (tC (.str "abcdefghijklmnopqrstuvwxyz"))) [2]) tNil))))
def u_are_letters (K : PySem.W.Frag) (cs : Cs) : AS :=
  (aRet (aAndV (aChain (oCmp fun i j => decide (i ≤ j)) (oCmp fun i j => decide (i ≤ j)) (aC (.int 1)) (aCB cLen (aCons (aVar 0) aNil)) (aVar 1)) (aCB cAll (aCons (aLc (aSeqI (aVar 0)) (agN 2) aYes (aOp oInB (aVar 2) (aC (.str "abcdefghijklmnopqrstuvwxyz"))) [2]) aNil))))
theorem ss_are_letters {K : PySem.W.Frag} {cs : Cs} : SS (fun W => t_are_letters K cs W) (u_are_letters K cs) := by
  delta t_are_letters u_are_letters
  exact (ss_ret (se_andV (se_chain so_cmp so_cmp se_int (se_cb so_len (sa_cons se_var sa_nil)) se_var) (se_cb so_all (sa_cons (se_lc (tt := (fun _ => tYes)) (te := (fun W => (tOp (rInB K) (tVar 2) (tC (.str "abcdefghijklmnopqrstuvwxyz"))))) (si_seq se_var) ag_mono (sg_name (by decide)) st_yes (se_op so_inB se_var se_str)) sa_nil))))

def t_is_name (K : PySem.W.Frag) (cs : Cs) (F_are_letters : AF) (W : WX) : TS :=
  (tRet (tAndV (tCB (rIsiA K) (tCons (tVar 0) (tCons (tC (.ty "str")) tNil))) (tCallS (spA F_are_letters) (WE W) (tCons (tVar 0) (tCons (tC (.int 8)) tNil)))))
def u_is_name (K : PySem.W.Frag) (cs : Cs) (F_are_letters : AF) : AS :=
  (aRet (aAndV (aIsi K (aVar 0) (aC (.ty "str"))) (aCall F_are_letters (aCons (aVar 0) (aCons (aC (.int 8)) aNil)))))
theorem ss_is_name {K : PySem.W.Frag} {cs : Cs} {F_are_letters : AF} : SS (fun W => t_is_name K cs F_are_letters W) (u_is_name K cs F_are_letters) := by
  delta t_is_name u_is_name
  exact (ss_ret (se_andV (se_isi se_var se_ty) (se_call (sa_cons se_var (sa_cons se_int sa_nil)))))

def t_is_hole (K : PySem.W.Frag) (cs : Cs) (F_are_letters : AF) (W : WX) : TS :=
  (tRet (tAndV (tCB (rIsiA K) (tCons (tVar 0) (tCons (tC (.ty "str")) tNil))) (tAndV (tOp (rEqB K) (tSl (rSlX K) (tVar 0) tNoPart (tPart (tC (.int 1)))) (tC (.str "?"))) (tCallS (spA F_are_letters) (WE W) (tCons (tSl (rSlX K) (tVar 0) (tPart (tC (.int 1))) tNoPart) (tCons (tC (.int 4)) tNil))))))
def u_is_hole (K : PySem.W.Frag) (cs : Cs) (F_are_letters : AF) : AS :=
  (aRet (aAndV (aIsi K (aVar 0) (aC (.ty "str"))) (aAndV (aOp oEqB (aSl oSl (aVar 0) aNoPart (aPart (aC (.int 1)))) (aC (.str "?"))) (aCall F_are_letters (aCons (aSl oSl (aVar 0) (aPart (aC (.int 1))) aNoPart) (aCons (aC (.int 4)) aNil))))))
theorem ss_is_hole {K : PySem.W.Frag} {cs : Cs} {F_are_letters : AF} : SS (fun W => t_is_hole K cs F_are_letters W) (u_is_hole K cs F_are_letters) := by
  delta t_is_hole u_is_hole
  exact (ss_ret (se_andV (se_isi se_var se_ty) (se_andV (se_op so_eqB (se_sl so_sl se_var so_none (so_some se_int)) se_str) (se_call (sa_cons (se_sl so_sl se_var (so_some se_int) so_none) (sa_cons se_int sa_nil))))))

def t_measured (K : PySem.W.Frag) (cs : Cs) (F_is_hole : AF) (F_is_name : AF) (F_measured : AF) (W : WX) : TS :=
  (tSeq (tIfS (tTest (tOp (rEqB K) (tVar 1) (tC (.int 0)))) (tRet (tC (.int 0))) tNext) (tSeq (tIfS (tB (tCB (rIsiA K) (tCons (tVar 0) (tCons (tC (.ty "str")) tNil)))) (tRet (tCB rInt1 (tCons (tAndV (tVar 2) (tCallS (spA F_is_hole) (WE W) (tCons (tVar 0) tNil))) tNil))) tNext) (tSeq (tIfS (tOr (tNot (tB (tCB (rIsiA K) (tCons (tVar 0) (tCons (tC (.ty "tuple")) tNil))))) (tOr (tNot (tTest (tChain (rI0 fun i j => .bl (decide (i ≤ j))) (rI0 fun i j => .bl (decide (i ≤ j))) (tC (.int 1)) (tCB (rLenA K) (tCons (tVar 0) tNil)) (tOp (rAddA K) (tC (.int 3)) (tC (.int 1)))))) (tNot (tB (tCallS (spA F_is_name) (WE W) (tCons (tOp (rIxB K) (tVar 0) (tC (.int 0))) tNil)))))) (tRet (tC (.int 0))) tNext) (tSeq (tAsg (tVar 0) (gStarT K 2 1 (gCons (gName 4) (gCons (gName 5) gNil)))) (tSeq (tAsg (tLc (iSeq K (tVar 5)) (gName 6) tYes (tCallK 2 1 (spA F_measured) [0, 1, 2] (WE W0) (tCons (tVar 6) (tCons (tOp (rI0 fun i j => .int (i - j)) (tVar 1) (tC (.int 1))) tNil)) (tCons (tVar 2) tNil)) [6]) (gName 3)) (tRet (tIf (tTest (tOp (rInB K) (tC (.int 0)) (tVar 3))) (tC (.int 0)) (tOp (rAddA K) (tC (.int 1)) (tCB (rSum K) (tCons (tVar 3) tNil))))))))))
def u_measured (K : PySem.W.Frag) (cs : Cs) (F_is_hole : AF) (F_is_name : AF) (F_measured : AF) : AS :=
  (aSeq (aIfS (aTest (aOp oEqB (aVar 1) (aC (.int 0)))) (aRet (aC (.int 0))) aNext)
    (aSeq (aIfS (aTest (aIsi K (aVar 0) (aC (.ty "str")))) (aRet (aCB cInt (aCons (aAndV (aVar 2) (aCall F_is_hole (aCons (aVar 0) aNil))) aNil))) aNext)
    (aSeq (aIfS (aOr (aNot (aTest (aIsi K (aVar 0) (aC (.ty "tuple"))))) (aOr (aNot (aTest (aChain (oCmp fun i j => decide (i ≤ j)) (oCmp fun i j => decide (i ≤ j)) (aC (.int 1)) (aCB cLen (aCons (aVar 0) aNil)) (aOp oAdd (aC (.int 3)) (aC (.int 1)))))) (aNot (aTest (aCall F_is_name (aCons (aOp oIxB (aVar 0) (aC (.int 0))) aNil)))))) (aRet (aC (.int 0))) aNext)
    (aSeq (aStar 4 5 (aVar 0))
    (aSeq (aAsg (aLc (aSeqI (aVar 5)) (agN 6) aYes (aCallK 2 1 F_measured [0, 1, 2] (aCons (aVar 6) (aCons (aOp (oInt fun i j => i - j) (aVar 1) (aC (.int 1))) aNil)) (aCons (aVar 2) aNil)) [6]) (agN 3))
    (aRet (aIf (aTest (aOp oInB (aC (.int 0)) (aVar 3))) (aC (.int 0)) (aOp oAdd (aC (.int 1)) (aCB cSum (aCons (aVar 3) aNil))))))))))
theorem ss_measured {K : PySem.W.Frag} {cs : Cs} {F_is_hole : AF} {F_is_name : AF} {F_measured : AF} : SS (fun W => t_measured K cs F_is_hole F_is_name F_measured W) (u_measured K cs F_is_hole F_is_name F_measured) := by
  delta t_measured u_measured
  exact (ss_seq (ss_ifS (st_test (se_op so_eqB se_var se_int)) (ss_ret se_int) ss_next)
    (ss_seq (ss_ifS (st_B (se_isi se_var se_ty)) (ss_ret (se_cb so_int1 (sa_cons (se_andV se_var (se_call (sa_cons se_var sa_nil))) sa_nil))) ss_next)
    (ss_seq (ss_ifS (st_or (st_not (st_B (se_isi se_var se_ty))) (st_or (st_not (st_test (se_chain so_cmp so_cmp se_int (se_cb so_len (sa_cons se_var sa_nil)) (se_op so_add se_int se_int)))) (st_not (st_B (se_call (sa_cons (se_op so_ixB se_var se_int) sa_nil)))))) (ss_ret se_int) ss_next)
    (ss_seq (ss_star se_var)
    (ss_seq (ss_asg (vs := [3]) (se_lc (tt := (fun _ => tYes)) (te := (fun W => (tCallK 2 1 (spA F_measured) [0, 1, 2] (WE W) (tCons (tVar 6) (tCons (tOp (rI0 fun i j => .int (i - j)) (tVar 1) (tC (.int 1))) tNil)) (tCons (tVar 2) tNil)))) (si_seq se_var) ag_mono (sg_name (by decide)) st_yes (se_callK (sa_cons se_var (sa_cons (se_op so_int se_var se_int) sa_nil)) (sa_cons se_var sa_nil))) ag_mono (sg_name (by decide)))
    (ss_ret (se_if (st_test (se_op so_inB se_int se_var)) se_int (se_op so_add se_int (se_cb so_sum (sa_cons se_var sa_nil))))))))))

def t_is_pattern (K : PySem.W.Frag) (cs : Cs) (F_measured : AF) (W : WX) : TS :=
  (tRet (tChain (rI0 fun i j => .bl (decide (i ≤ j))) (rI0 fun i j => .bl (decide (i ≤ j))) (tC (.int 1)) (tCallK 2 1 (spA F_measured) [0, 1, 2] (WE W) (tCons (tVar 0) (tCons (tC (.int 5)) tNil)) (tCons (tC (.bl true)) tNil)) (tC (.int 30))))
def u_is_pattern (K : PySem.W.Frag) (cs : Cs) (F_measured : AF) : AS :=
  (aRet (aChain (oCmp fun i j => decide (i ≤ j)) (oCmp fun i j => decide (i ≤ j)) (aC (.int 1)) (aCallK 2 1 F_measured [0, 1, 2] (aCons (aVar 0) (aCons (aC (.int 5)) aNil)) (aCons (aC (.bl true)) aNil)) (aC (.int 30))))
theorem ss_is_pattern {K : PySem.W.Frag} {cs : Cs} {F_measured : AF} : SS (fun W => t_is_pattern K cs F_measured W) (u_is_pattern K cs F_measured) := by
  delta t_is_pattern u_is_pattern
  exact (ss_ret (se_chain so_cmp so_cmp se_int (se_callK (sa_cons se_var (sa_cons se_int sa_nil)) (sa_cons se_bl sa_nil)) se_int))

def t_need_pattern (K : PySem.W.Frag) (cs : Cs) (F_is_pattern : AF) (W : WX) : TS :=
  (tIfS (tNot (tB (tCallS (spA F_is_pattern) (WE W) (tCons (tVar 0) tNil)))) (tRaise0 W cs.BadPattern) tNext)
def u_need_pattern (K : PySem.W.Frag) (cs : Cs) (F_is_pattern : AF) : AS :=
  (aIfS (aNot (aTest (aCall F_is_pattern (aCons (aVar 0) aNil)))) (aRaise0 cs.BadPattern) aNext)
theorem ss_need_pattern {K : PySem.W.Frag} {cs : Cs} {F_is_pattern : AF} : SS (fun W => t_need_pattern K cs F_is_pattern W) (u_need_pattern K cs F_is_pattern) := by
  delta t_need_pattern u_need_pattern
  exact (ss_ifS (st_not (st_B (se_call (sa_cons se_var sa_nil)))) ss_raise0 ss_next)

def t_counted (K : PySem.W.Frag) (cs : Cs) (F_counted : AF) (W : WX) : TS :=
  (tSeq (tIfS (tB (tCB (rIsiA K) (tCons (tVar 0) (tCons (tC (.ty "str")) tNil)))) (tRet (tC (.int 1))) tNext) (tRet (tOp (rAddA K) (tC (.int 1)) (tCB (rSum K) (tCons (tLc (iSeq K (tSl (rSlX K) (tVar 0) (tPart (tC (.int 1))) tNoPart)) (gName 1) tYes (tCallS (spA F_counted) (WE W0) (tCons (tVar 1) tNil)) [1]) tNil)))))
def u_counted (K : PySem.W.Frag) (cs : Cs) (F_counted : AF) : AS :=
  (aSeq (aIfS (aTest (aIsi K (aVar 0) (aC (.ty "str")))) (aRet (aC (.int 1))) aNext)
    (aRet (aOp oAdd (aC (.int 1)) (aCB cSum (aCons (aLc (aSeqI (aSl oSl (aVar 0) (aPart (aC (.int 1))) aNoPart)) (agN 1) aYes (aCall F_counted (aCons (aVar 1) aNil)) [1]) aNil)))))
theorem ss_counted {K : PySem.W.Frag} {cs : Cs} {F_counted : AF} : SS (fun W => t_counted K cs F_counted W) (u_counted K cs F_counted) := by
  delta t_counted u_counted
  exact (ss_seq (ss_ifS (st_B (se_isi se_var se_ty)) (ss_ret se_int) ss_next)
    (ss_ret (se_op so_add se_int (se_cb so_sum (sa_cons (se_lc (tt := (fun _ => tYes)) (te := (fun W => (tCallS (spA F_counted) (WE W) (tCons (tVar 1) tNil)))) (si_seq (se_sl so_sl se_var (so_some se_int) so_none)) ag_mono (sg_name (by decide)) st_yes (se_call (sa_cons se_var sa_nil))) sa_nil)))))

def t_levelled (K : PySem.W.Frag) (cs : Cs) (F_levelled : AF) (W : WX) : TS :=
  (tSeq (tIfS (tB (tCB (rIsiA K) (tCons (tVar 0) (tCons (tC (.ty "str")) tNil)))) (tRet (tC (.int 1))) tNext) (tRet (tOp (rAddA K) (tC (.int 1)) (tMaxD K (tLc (iSeq K (tSl (rSlX K) (tVar 0) (tPart (tC (.int 1))) tNoPart)) (gName 1) tYes (tCallS (spA F_levelled) (WE W0) (tCons (tVar 1) tNil)) [1])))))
def u_levelled (K : PySem.W.Frag) (cs : Cs) (F_levelled : AF) : AS :=
  (aSeq (aIfS (aTest (aIsi K (aVar 0) (aC (.ty "str")))) (aRet (aC (.int 1))) aNext)
    (aRet (aOp oAdd (aC (.int 1)) (aMaxD (aLc (aSeqI (aSl oSl (aVar 0) (aPart (aC (.int 1))) aNoPart)) (agN 1) aYes (aCall F_levelled (aCons (aVar 1) aNil)) [1])))))
theorem ss_levelled {K : PySem.W.Frag} {cs : Cs} {F_levelled : AF} : SS (fun W => t_levelled K cs F_levelled W) (u_levelled K cs F_levelled) := by
  delta t_levelled u_levelled
  exact (ss_seq (ss_ifS (st_B (se_isi se_var se_ty)) (ss_ret se_int) ss_next)
    (ss_ret (se_op so_add se_int (se_maxD (se_lc (tt := (fun _ => tYes)) (te := (fun W => (tCallS (spA F_levelled) (WE W) (tCons (tVar 1) tNil)))) (si_seq (se_sl so_sl se_var (so_some se_int) so_none)) ag_mono (sg_name (by decide)) st_yes (se_call (sa_cons se_var sa_nil)))))))

def t_standing_holes (K : PySem.W.Frag) (cs : Cs) (F_standing_holes : AF) (W : WX) : TS :=
  (tSeq (tIfS (tB (tCB (rIsiA K) (tCons (tVar 0) (tCons (tC (.ty "str")) tNil)))) (tRet (tLst (tCons (tVar 0) tNil))) tNext) (tRet (tLc2 (iSeq K (tSl (rSlX K) (tVar 0) (tPart (tC (.int 1))) tNoPart)) (gName 1) tYes (iSeq K (tCallS (spA F_standing_holes) (WE W0) (tCons (tVar 1) tNil))) (gName 2) tYes (tVar 2) [1, 2] [2])))
def u_standing_holes (K : PySem.W.Frag) (cs : Cs) (F_standing_holes : AF) : AS :=
  (aSeq (aIfS (aTest (aIsi K (aVar 0) (aC (.ty "str")))) (aRet (aLst (aCons (aVar 0) aNil))) aNext)
    (aRet (aLc2 (aSeqI (aSl oSl (aVar 0) (aPart (aC (.int 1))) aNoPart)) (agN 1) aYes (aSeqI (aCall F_standing_holes (aCons (aVar 1) aNil))) (agN 2) aYes (aVar 2) [1, 2] [2])))
theorem ss_standing_holes {K : PySem.W.Frag} {cs : Cs} {F_standing_holes : AF} : SS (fun W => t_standing_holes K cs F_standing_holes W) (u_standing_holes K cs F_standing_holes) := by
  delta t_standing_holes u_standing_holes
  exact (ss_seq (ss_ifS (st_B (se_isi se_var se_ty)) (ss_ret (se_lst (sa_cons se_var sa_nil))) ss_next)
    (ss_ret (se_lc2 (tt := (fun _ => tYes)) (ti1 := (fun W => (iSeq K (tCallS (spA F_standing_holes) (WE W) (tCons (tVar 1) tNil))))) (tt1 := (fun _ => tYes)) (te := (fun W => (tVar 2))) (si_seq (se_sl so_sl se_var (so_some se_int) so_none)) ag_mono (sg_name (by decide)) st_yes (si_seq (se_call (sa_cons se_var sa_nil))) ag_mono (sg_name (by decide)) st_yes se_var)))

def t_text_of (K : PySem.W.Frag) (cs : Cs) (F_text_of : AF) (W : WX) : TS :=
  (tSeq (tIfS (tB (tCB (rIsiA K) (tCons (tVar 0) (tCons (tC (.ty "str")) tNil)))) (tRet (tVar 0)) tNext) (tSeq (tAsg (tVar 0) (gStarT K 2 1 (gCons (gName 1) (gCons (gName 2) gNil)))) (tSeq (tIfS (tTest (tOp (rEqB K) (tVar 2) (tLst tNil))) (tRet (tVar 1)) tNext) (tRet (tOp (rAddA K) (tOp (rAddA K) (tOp (rAddA K) (tVar 1) (tC (.str "("))) (tJoin K (tC (.str ",")) (tLc (iSeq K (tVar 2)) (gName 3) tYes (tCallS (spA F_text_of) (WE W0) (tCons (tVar 3) tNil)) [3]))) (tC (.str ")")))))))
def u_text_of (K : PySem.W.Frag) (cs : Cs) (F_text_of : AF) : AS :=
  (aSeq (aIfS (aTest (aIsi K (aVar 0) (aC (.ty "str")))) (aRet (aVar 0)) aNext)
    (aSeq (aStar 1 2 (aVar 0))
    (aSeq (aIfS (aTest (aOp oEqB (aVar 2) (aLst aNil))) (aRet (aVar 1)) aNext)
    (aRet (aOp oAdd (aOp oAdd (aOp oAdd (aVar 1) (aC (.str "("))) (aJoin (aC (.str ",")) (aLc (aSeqI (aVar 2)) (agN 3) aYes (aCall F_text_of (aCons (aVar 3) aNil)) [3]))) (aC (.str ")")))))))
theorem ss_text_of {K : PySem.W.Frag} {cs : Cs} {F_text_of : AF} : SS (fun W => t_text_of K cs F_text_of W) (u_text_of K cs F_text_of) := by
  delta t_text_of u_text_of
  exact (ss_seq (ss_ifS (st_B (se_isi se_var se_ty)) (ss_ret se_var) ss_next)
    (ss_seq (ss_star se_var)
    (ss_seq (ss_ifS (st_test (se_op so_eqB se_var (se_lst sa_nil))) (ss_ret se_var) ss_next)
    (ss_ret (se_op so_add (se_op so_add (se_op so_add se_var se_str) (se_join se_str (se_lc (tt := (fun _ => tYes)) (te := (fun W => (tCallS (spA F_text_of) (WE W) (tCons (tVar 3) tNil)))) (si_seq se_var) ag_mono (sg_name (by decide)) st_yes (se_call (sa_cons se_var sa_nil))))) se_str)))))

def t_order_key (K : PySem.W.Frag) (cs : Cs) (F_counted : AF) (F_text_of : AF) (W : WX) : TS :=
  (tRet (tTup (tCons (tCallS (spA F_counted) (WE W) (tCons (tVar 0) tNil)) (tCons (tCallS (spA F_text_of) (WE W) (tCons (tVar 0) tNil)) tNil))))
def u_order_key (K : PySem.W.Frag) (cs : Cs) (F_counted : AF) (F_text_of : AF) : AS :=
  (aRet (aTup (aCons (aCall F_counted (aCons (aVar 0) aNil)) (aCons (aCall F_text_of (aCons (aVar 0) aNil)) aNil))))
theorem ss_order_key {K : PySem.W.Frag} {cs : Cs} {F_counted : AF} {F_text_of : AF} : SS (fun W => t_order_key K cs F_counted F_text_of W) (u_order_key K cs F_counted F_text_of) := by
  delta t_order_key u_order_key
  exact (ss_ret (se_tup (sa_cons (se_call (sa_cons se_var sa_nil)) (sa_cons (se_call (sa_cons se_var sa_nil)) sa_nil))))

def t_size_of (K : PySem.W.Frag) (cs : Cs) (F_need_pattern : AF) (F_counted : AF) (W : WX) : TS :=
  (tSeq (tDrop (tCallS (spA F_need_pattern) (WE W) (tCons (tVar 0) tNil))) (tRet (tCallS (spA F_counted) (WE W) (tCons (tVar 0) tNil))))
def u_size_of (K : PySem.W.Frag) (cs : Cs) (F_need_pattern : AF) (F_counted : AF) : AS :=
  (aSeq (aDrop (aCall F_need_pattern (aCons (aVar 0) aNil)))
    (aRet (aCall F_counted (aCons (aVar 0) aNil))))
theorem ss_size_of {K : PySem.W.Frag} {cs : Cs} {F_need_pattern : AF} {F_counted : AF} : SS (fun W => t_size_of K cs F_need_pattern F_counted W) (u_size_of K cs F_need_pattern F_counted) := by
  delta t_size_of u_size_of
  exact (ss_seq (ss_drop (se_call (sa_cons se_var sa_nil)))
    (ss_ret (se_call (sa_cons se_var sa_nil))))

def t_deep_of (K : PySem.W.Frag) (cs : Cs) (F_need_pattern : AF) (F_levelled : AF) (W : WX) : TS :=
  (tSeq (tDrop (tCallS (spA F_need_pattern) (WE W) (tCons (tVar 0) tNil))) (tRet (tCallS (spA F_levelled) (WE W) (tCons (tVar 0) tNil))))
def u_deep_of (K : PySem.W.Frag) (cs : Cs) (F_need_pattern : AF) (F_levelled : AF) : AS :=
  (aSeq (aDrop (aCall F_need_pattern (aCons (aVar 0) aNil)))
    (aRet (aCall F_levelled (aCons (aVar 0) aNil))))
theorem ss_deep_of {K : PySem.W.Frag} {cs : Cs} {F_need_pattern : AF} {F_levelled : AF} : SS (fun W => t_deep_of K cs F_need_pattern F_levelled W) (u_deep_of K cs F_need_pattern F_levelled) := by
  delta t_deep_of u_deep_of
  exact (ss_seq (ss_drop (se_call (sa_cons se_var sa_nil)))
    (ss_ret (se_call (sa_cons se_var sa_nil))))

def t_holes_of (K : PySem.W.Frag) (cs : Cs) (F_need_pattern : AF) (F_standing_holes : AF) (W : WX) : TS :=
  (tSeq (tDrop (tCallS (spA F_need_pattern) (WE W) (tCons (tVar 0) tNil))) (tRet (tCB (rListB K) (tCons (tFrz (tDc (iSeq K (tCallS (spA F_standing_holes) (WE W) (tCons (tVar 0) tNil))) (gName 1) tYes (tVar 1) (tC (.bl true)) [1])) tNil))))
def u_holes_of (K : PySem.W.Frag) (cs : Cs) (F_need_pattern : AF) (F_standing_holes : AF) : AS :=
  (aSeq (aDrop (aCall F_need_pattern (aCons (aVar 0) aNil)))
    (aRet (aListO (aDc (aSeqI (aCall F_standing_holes (aCons (aVar 0) aNil))) (agN 1) aYes (aVar 1) (aC (.bl true)) [1]))))
theorem ss_holes_of {K : PySem.W.Frag} {cs : Cs} {F_need_pattern : AF} {F_standing_holes : AF} : SS (fun W => t_holes_of K cs F_need_pattern F_standing_holes W) (u_holes_of K cs F_need_pattern F_standing_holes) := by
  delta t_holes_of u_holes_of
  exact (ss_seq (ss_drop (se_call (sa_cons se_var sa_nil)))
    (ss_ret (se_listO (se_dc (tt := (fun _ => tYes)) (tk := (fun W => (tVar 1))) (tv := (fun W => (tC (.bl true)))) (si_seq (se_call (sa_cons se_var sa_nil))) ag_mono (sg_name (by decide)) st_yes se_var se_bl))))

def t_lesser (K : PySem.W.Frag) (cs : Cs) (F_need_pattern : AF) (F_order_key : AF) (W : WX) : TS :=
  (tSeq (tDrop (tCallS (spA F_need_pattern) (WE W) (tCons (tVar 0) tNil))) (tSeq (tDrop (tCallS (spA F_need_pattern) (WE W) (tCons (tVar 1) tNil))) (tRet (tOp (rLtB K) (tCallS (spA F_order_key) (WE W) (tCons (tVar 0) tNil)) (tCallS (spA F_order_key) (WE W) (tCons (tVar 1) tNil))))))
def u_lesser (K : PySem.W.Frag) (cs : Cs) (F_need_pattern : AF) (F_order_key : AF) : AS :=
  (aSeq (aDrop (aCall F_need_pattern (aCons (aVar 0) aNil)))
    (aSeq (aDrop (aCall F_need_pattern (aCons (aVar 1) aNil)))
    (aRet (aOp oLtB (aCall F_order_key (aCons (aVar 0) aNil)) (aCall F_order_key (aCons (aVar 1) aNil))))))
theorem ss_lesser {K : PySem.W.Frag} {cs : Cs} {F_need_pattern : AF} {F_order_key : AF} : SS (fun W => t_lesser K cs F_need_pattern F_order_key W) (u_lesser K cs F_need_pattern F_order_key) := by
  delta t_lesser u_lesser
  exact (ss_seq (ss_drop (se_call (sa_cons se_var sa_nil)))
    (ss_seq (ss_drop (se_call (sa_cons se_var sa_nil)))
    (ss_ret (se_op so_ltB (se_call (sa_cons se_var sa_nil)) (se_call (sa_cons se_var sa_nil))))))

def t__law_pick (K : PySem.W.Frag) (cs : Cs) (F__law_take : AF) (W : WX) : TS :=
  (tRet (tOp (rIxB K) (tVar 1) (tCallS (spA F__law_take) (WE W) (tCons (tVar 0) (tCons (tCB (rLenA K) (tCons (tVar 1) tNil)) tNil)))))
def u__law_pick (K : PySem.W.Frag) (cs : Cs) (F__law_take : AF) : AS :=
  (aRet (aOp oIxB (aVar 1) (aCall F__law_take (aCons (aVar 0) (aCons (aCB cLen (aCons (aVar 1) aNil)) aNil)))))
theorem ss__law_pick {K : PySem.W.Frag} {cs : Cs} {F__law_take : AF} : SS (fun W => t__law_pick K cs F__law_take W) (u__law_pick K cs F__law_take) := by
  delta t__law_pick u__law_pick
  exact (ss_ret (se_op so_ixB se_var (se_call (sa_cons se_var (sa_cons (se_cb so_len (sa_cons se_var sa_nil)) sa_nil)))))

def t__law_word (K : PySem.W.Frag) (cs : Cs) (F__law_take : AF) (F__law_pick : AF) (W : WX) : TS :=
  (tSeq (tAsg (tCallS (spA F__law_take) (WE W) (tCons (tVar 0) (tCons (tC (.int 6)) tNil))) (gName 1)) (tSeq (tIfS (tTest (tOp (rLtB K) (tVar 1) (tC (.int 3)))) (tRet (tCallS (spA F__law_pick) (WE W) (tCons (tVar 0) (tCons (tLst (tCons (tC (.str "a")) (tCons (tC (.str "b")) (tCons (tC (.str "f")) (tCons (tC (.str "g")) tNil))))) tNil)))) tNext) (tSeq (tIfS (tTest (tOp (rEqB K) (tVar 1) (tC (.int 3)))) (tRet (tCallS (spA F__law_pick) (WE W) (tCons (tVar 0) (tCons (tLst (tCons (tC (.str "told")) (tCons (tC (.str "back")) (tCons (tC (.str "then")) (tCons (tC (.str "parts")) (tCons (tC (.str "same")) (tCons (tC (.str "like")) (tCons (tC (.str "put")) (tCons (tC (.str "rule")) (tCons (tC (.str "hole")) (tCons (tC (.str "z")) tNil))))))))))) tNil)))) tNext) (tSeq (tAsg (tC (.str "")) (gName 2)) (tSeq (tFor (iRng1 (tCons (tOp (rAddA K) (tC (.int 1)) (tCallS (spA F__law_take) (WE W) (tCons (tVar 0) (tCons (tC (.int 8)) tNil)))) tNil)) (gName 3) (tAsg (tOp (rAddA K) (tVar 2) (tOp (rIxB K) (tC (.str "abcdefghijklmnopqrstuvwxyz")) (tCallS (spA F__law_take) (WE W) (tCons (tVar 0) (tCons (tC (.int 26)) tNil))))) (gName 2))) (tRet (tVar 2)))))))
def u__law_word (K : PySem.W.Frag) (cs : Cs) (F__law_take : AF) (F__law_pick : AF) : AS :=
  (aSeq (aAsg (aCall F__law_take (aCons (aVar 0) (aCons (aC (.int 6)) aNil))) (agN 1))
    (aSeq (aIfS (aTest (aOp oLtB (aVar 1) (aC (.int 3)))) (aRet (aCall F__law_pick (aCons (aVar 0) (aCons (aLst (aCons (aC (.str "a")) (aCons (aC (.str "b")) (aCons (aC (.str "f")) (aCons (aC (.str "g")) aNil))))) aNil)))) aNext)
    (aSeq (aIfS (aTest (aOp oEqB (aVar 1) (aC (.int 3)))) (aRet (aCall F__law_pick (aCons (aVar 0) (aCons (aLst (aCons (aC (.str "told")) (aCons (aC (.str "back")) (aCons (aC (.str "then")) (aCons (aC (.str "parts")) (aCons (aC (.str "same")) (aCons (aC (.str "like")) (aCons (aC (.str "put")) (aCons (aC (.str "rule")) (aCons (aC (.str "hole")) (aCons (aC (.str "z")) aNil))))))))))) aNil)))) aNext)
    (aSeq (aAsg (aC (.str "")) (agN 2))
    (aSeq (aFor (aRng (aCons (aOp oAdd (aC (.int 1)) (aCall F__law_take (aCons (aVar 0) (aCons (aC (.int 8)) aNil)))) aNil)) (agN 3) (aAsg (aOp oAdd (aVar 2) (aOp oIxB (aC (.str "abcdefghijklmnopqrstuvwxyz")) (aCall F__law_take (aCons (aVar 0) (aCons (aC (.int 26)) aNil))))) (agN 2)))
    (aRet (aVar 2)))))))
theorem ss__law_word {K : PySem.W.Frag} {cs : Cs} {F__law_take : AF} {F__law_pick : AF} : SS (fun W => t__law_word K cs F__law_take F__law_pick W) (u__law_word K cs F__law_take F__law_pick) := by
  delta t__law_word u__law_word
  exact (ss_seq (ss_asg (vs := [1]) (se_call (sa_cons se_var (sa_cons se_int sa_nil))) ag_mono (sg_name (by decide)))
    (ss_seq (ss_ifS (st_test (se_op so_ltB se_var se_int)) (ss_ret (se_call (sa_cons se_var (sa_cons (se_lst (sa_cons se_str (sa_cons se_str (sa_cons se_str (sa_cons se_str sa_nil))))) sa_nil)))) ss_next)
    (ss_seq (ss_ifS (st_test (se_op so_eqB se_var se_int)) (ss_ret (se_call (sa_cons se_var (sa_cons (se_lst (sa_cons se_str (sa_cons se_str (sa_cons se_str (sa_cons se_str (sa_cons se_str (sa_cons se_str (sa_cons se_str (sa_cons se_str (sa_cons se_str (sa_cons se_str sa_nil))))))))))) sa_nil)))) ss_next)
    (ss_seq (ss_asg (vs := [2]) se_str ag_mono (sg_name (by decide)))
    (ss_seq (ss_for (vs := [3]) (si_rng (sa_cons (se_op so_add se_int (se_call (sa_cons se_var (sa_cons se_int sa_nil)))) sa_nil)) ag_mono (sg_name (by decide)) (ss_asg (vs := [2]) (se_op so_add se_var (se_op so_ixB se_str (se_call (sa_cons se_var (sa_cons se_int sa_nil))))) ag_mono (sg_name (by decide))))
    (ss_ret se_var))))))

def t__law_hole (K : PySem.W.Frag) (cs : Cs) (F__law_take : AF) (F__law_pick : AF) (W : WX) : TS :=
  (tSeq (tIfS (tTest (tOp (rI0 fun i j => .bl (decide (j < i))) (tCallS (spA F__law_take) (WE W) (tCons (tVar 0) (tCons (tC (.int 4)) tNil))) (tC (.int 0)))) (tRet (tCallS (spA F__law_pick) (WE W) (tCons (tVar 0) (tCons (tLst (tCons (tC (.str "?x")) (tCons (tC (.str "?y")) (tCons (tC (.str "?z")) tNil)))) tNil)))) tNext) (tSeq (tAsg (tC (.str "?")) (gName 1)) (tSeq (tFor (iRng1 (tCons (tOp (rAddA K) (tC (.int 1)) (tCallS (spA F__law_take) (WE W) (tCons (tVar 0) (tCons (tC (.int 4)) tNil)))) tNil)) (gName 2) (tAsg (tOp (rAddA K) (tVar 1) (tOp (rIxB K) (tC (.str "abcdefghijklmnopqrstuvwxyz")) (tCallS (spA F__law_take) (WE W) (tCons (tVar 0) (tCons (tC (.int 26)) tNil))))) (gName 1))) (tRet (tVar 1)))))
def u__law_hole (K : PySem.W.Frag) (cs : Cs) (F__law_take : AF) (F__law_pick : AF) : AS :=
  (aSeq (aIfS (aTest (aOp (oCmp fun i j => decide (j < i)) (aCall F__law_take (aCons (aVar 0) (aCons (aC (.int 4)) aNil))) (aC (.int 0)))) (aRet (aCall F__law_pick (aCons (aVar 0) (aCons (aLst (aCons (aC (.str "?x")) (aCons (aC (.str "?y")) (aCons (aC (.str "?z")) aNil)))) aNil)))) aNext)
    (aSeq (aAsg (aC (.str "?")) (agN 1))
    (aSeq (aFor (aRng (aCons (aOp oAdd (aC (.int 1)) (aCall F__law_take (aCons (aVar 0) (aCons (aC (.int 4)) aNil)))) aNil)) (agN 2) (aAsg (aOp oAdd (aVar 1) (aOp oIxB (aC (.str "abcdefghijklmnopqrstuvwxyz")) (aCall F__law_take (aCons (aVar 0) (aCons (aC (.int 26)) aNil))))) (agN 1)))
    (aRet (aVar 1)))))
theorem ss__law_hole {K : PySem.W.Frag} {cs : Cs} {F__law_take : AF} {F__law_pick : AF} : SS (fun W => t__law_hole K cs F__law_take F__law_pick W) (u__law_hole K cs F__law_take F__law_pick) := by
  delta t__law_hole u__law_hole
  exact (ss_seq (ss_ifS (st_test (se_op so_cmp (se_call (sa_cons se_var (sa_cons se_int sa_nil))) se_int)) (ss_ret (se_call (sa_cons se_var (sa_cons (se_lst (sa_cons se_str (sa_cons se_str (sa_cons se_str sa_nil)))) sa_nil)))) ss_next)
    (ss_seq (ss_asg (vs := [1]) se_str ag_mono (sg_name (by decide)))
    (ss_seq (ss_for (vs := [2]) (si_rng (sa_cons (se_op so_add se_int (se_call (sa_cons se_var (sa_cons se_int sa_nil)))) sa_nil)) ag_mono (sg_name (by decide)) (ss_asg (vs := [1]) (se_op so_add se_var (se_op so_ixB se_str (se_call (sa_cons se_var (sa_cons se_int sa_nil))))) ag_mono (sg_name (by decide))))
    (ss_ret se_var))))

def t__law_pattern (K : PySem.W.Frag) (cs : Cs) (F__law_take : AF) (F__law_hole : AF) (F__law_word : AF) (F__law_pattern : AF) (W : WX) : TS :=
  (tSeq (tIfS (tAnd (tB (tVar 2)) (tTest (tOp (rEqB K) (tCallS (spA F__law_take) (WE W) (tCons (tVar 0) (tCons (tC (.int 4)) tNil))) (tC (.int 0))))) (tRet (tCallS (spA F__law_hole) (WE W) (tCons (tVar 0) tNil))) tNext) (tSeq (tAsg (tIf (tTest (tOp (rI0 fun i j => .bl (decide (j < i))) (tVar 1) (tC (.int 1)))) (tCallS (spA F__law_take) (WE W) (tCons (tVar 0) (tCons (tC (.int 4)) tNil))) (tC (.int 0))) (gName 3)) (tRet (tThen (tOp (rAddA K) (tLst (tCons (tCallS (spA F__law_word) (WE W) (tCons (tVar 0) tNil)) tNil)) (tLc (iRng1 (tCons (tVar 3) tNil)) (gName 4) tYes (tCallS (spA F__law_pattern) (WE W0) (tCons (tVar 0) (tCons (tOp (rI0 fun i j => .int (i - j)) (tVar 1) (tC (.int 1))) (tCons (tVar 2) tNil)))) [4])) (kTup K)))))
def u__law_pattern (K : PySem.W.Frag) (cs : Cs) (F__law_take : AF) (F__law_hole : AF) (F__law_word : AF) (F__law_pattern : AF) : AS :=
  (aSeq (aIfS (aAnd (aTest (aVar 2)) (aTest (aOp oEqB (aCall F__law_take (aCons (aVar 0) (aCons (aC (.int 4)) aNil))) (aC (.int 0))))) (aRet (aCall F__law_hole (aCons (aVar 0) aNil))) aNext)
    (aSeq (aAsg (aIf (aTest (aOp (oCmp fun i j => decide (j < i)) (aVar 1) (aC (.int 1)))) (aCall F__law_take (aCons (aVar 0) (aCons (aC (.int 4)) aNil))) (aC (.int 0))) (agN 3))
    (aRet (aUn oTup (aOp oAdd (aLst (aCons (aCall F__law_word (aCons (aVar 0) aNil)) aNil)) (aLc (aRng (aCons (aVar 3) aNil)) (agN 4) aYes (aCall F__law_pattern (aCons (aVar 0) (aCons (aOp (oInt fun i j => i - j) (aVar 1) (aC (.int 1))) (aCons (aVar 2) aNil)))) [4]))))))
theorem ss__law_pattern {K : PySem.W.Frag} {cs : Cs} {F__law_take : AF} {F__law_hole : AF} {F__law_word : AF} {F__law_pattern : AF} : SS (fun W => t__law_pattern K cs F__law_take F__law_hole F__law_word F__law_pattern W) (u__law_pattern K cs F__law_take F__law_hole F__law_word F__law_pattern) := by
  delta t__law_pattern u__law_pattern
  exact (ss_seq (ss_ifS (st_and (st_B se_var) (st_test (se_op so_eqB (se_call (sa_cons se_var (sa_cons se_int sa_nil))) se_int))) (ss_ret (se_call (sa_cons se_var sa_nil))) ss_next)
    (ss_seq (ss_asg (vs := [3]) (se_if (st_test (se_op so_cmp se_var se_int)) (se_call (sa_cons se_var (sa_cons se_int sa_nil))) se_int) ag_mono (sg_name (by decide)))
    (ss_ret (se_then so_tup (se_op so_add (se_lst (sa_cons (se_call (sa_cons se_var sa_nil)) sa_nil)) (se_lc (tt := (fun _ => tYes)) (te := (fun W => (tCallS (spA F__law_pattern) (WE W) (tCons (tVar 0) (tCons (tOp (rI0 fun i j => .int (i - j)) (tVar 1) (tC (.int 1))) (tCons (tVar 2) tNil)))))) (si_rng (sa_cons se_var sa_nil)) ag_mono (sg_name (by decide)) st_yes (se_call (sa_cons se_var (sa_cons (se_op so_int se_var se_int) (sa_cons se_var sa_nil))))))))))

def t__law_size (K : PySem.W.Frag) (cs : Cs) (F__law_size : AF) (W : WX) : TS :=
  (tSeq (tIfS (tB (tCB (rIsiA K) (tCons (tVar 0) (tCons (tC (.ty "str")) tNil)))) (tRet (tC (.int 1))) tNext) (tRet (tOp (rAddA K) (tC (.int 1)) (tCB (rSum K) (tCons (tLc (iSeq K (tSl (rSlX K) (tVar 0) (tPart (tC (.int 1))) tNoPart)) (gName 1) tYes (tCallS (spA F__law_size) (WE W0) (tCons (tVar 1) tNil)) [1]) tNil)))))
def u__law_size (K : PySem.W.Frag) (cs : Cs) (F__law_size : AF) : AS :=
  (aSeq (aIfS (aTest (aIsi K (aVar 0) (aC (.ty "str")))) (aRet (aC (.int 1))) aNext)
    (aRet (aOp oAdd (aC (.int 1)) (aCB cSum (aCons (aLc (aSeqI (aSl oSl (aVar 0) (aPart (aC (.int 1))) aNoPart)) (agN 1) aYes (aCall F__law_size (aCons (aVar 1) aNil)) [1]) aNil)))))
theorem ss__law_size {K : PySem.W.Frag} {cs : Cs} {F__law_size : AF} : SS (fun W => t__law_size K cs F__law_size W) (u__law_size K cs F__law_size) := by
  delta t__law_size u__law_size
  exact (ss_seq (ss_ifS (st_B (se_isi se_var se_ty)) (ss_ret se_int) ss_next)
    (ss_ret (se_op so_add se_int (se_cb so_sum (sa_cons (se_lc (tt := (fun _ => tYes)) (te := (fun W => (tCallS (spA F__law_size) (WE W) (tCons (tVar 1) tNil)))) (si_seq (se_sl so_sl se_var (so_some se_int) so_none)) ag_mono (sg_name (by decide)) st_yes (se_call (sa_cons se_var sa_nil))) sa_nil)))))

def t__law_depth (K : PySem.W.Frag) (cs : Cs) (F__law_depth : AF) (W : WX) : TS :=
  (tSeq (tIfS (tOr (tB (tCB (rIsiA K) (tCons (tVar 0) (tCons (tC (.ty "str")) tNil)))) (tTest (tOp (rEqB K) (tCB (rLenA K) (tCons (tVar 0) tNil)) (tC (.int 1))))) (tRet (tC (.int 1))) tNext) (tRet (tOp (rAddA K) (tC (.int 1)) (tCB (rMax K) (tCons (tLc (iSeq K (tSl (rSlX K) (tVar 0) (tPart (tC (.int 1))) tNoPart)) (gName 1) tYes (tCallS (spA F__law_depth) (WE W0) (tCons (tVar 1) tNil)) [1]) tNil)))))
def u__law_depth (K : PySem.W.Frag) (cs : Cs) (F__law_depth : AF) : AS :=
  (aSeq (aIfS (aOr (aTest (aIsi K (aVar 0) (aC (.ty "str")))) (aTest (aOp oEqB (aCB cLen (aCons (aVar 0) aNil)) (aC (.int 1))))) (aRet (aC (.int 1))) aNext)
    (aRet (aOp oAdd (aC (.int 1)) (aCB cMax (aCons (aLc (aSeqI (aSl oSl (aVar 0) (aPart (aC (.int 1))) aNoPart)) (agN 1) aYes (aCall F__law_depth (aCons (aVar 1) aNil)) [1]) aNil)))))
theorem ss__law_depth {K : PySem.W.Frag} {cs : Cs} {F__law_depth : AF} : SS (fun W => t__law_depth K cs F__law_depth W) (u__law_depth K cs F__law_depth) := by
  delta t__law_depth u__law_depth
  exact (ss_seq (ss_ifS (st_or (st_B (se_isi se_var se_ty)) (st_test (se_op so_eqB (se_cb so_len (sa_cons se_var sa_nil)) se_int))) (ss_ret se_int) ss_next)
    (ss_ret (se_op so_add se_int (se_cb so_max (sa_cons (se_lc (tt := (fun _ => tYes)) (te := (fun W => (tCallS (spA F__law_depth) (WE W) (tCons (tVar 1) tNil)))) (si_seq (se_sl so_sl se_var (so_some se_int) so_none)) ag_mono (sg_name (by decide)) st_yes (se_call (sa_cons se_var sa_nil))) sa_nil)))))

def t__law_written (K : PySem.W.Frag) (cs : Cs) (F__law_written : AF) (W : WX) : TS :=
  (tSeq (tIfS (tB (tCB (rIsiA K) (tCons (tVar 0) (tCons (tC (.ty "str")) tNil)))) (tRet (tVar 0)) tNext) (tSeq (tAsg (tJoin K (tC (.str ",")) (tLc (iSeq K (tSl (rSlX K) (tVar 0) (tPart (tC (.int 1))) tNoPart)) (gName 2) tYes (tCallS (spA F__law_written) (WE W0) (tCons (tVar 2) tNil)) [2])) (gName 1)) (tRet (tIf (tTest (tOp (rI0 fun i j => .bl (decide (j < i))) (tCB (rLenA K) (tCons (tVar 0) tNil)) (tC (.int 1)))) (tOp (rAddA K) (tOp (rAddA K) (tOp (rAddA K) (tOp (rIxB K) (tVar 0) (tC (.int 0))) (tC (.str "("))) (tVar 1)) (tC (.str ")"))) (tOp (rIxB K) (tVar 0) (tC (.int 0)))))))
def u__law_written (K : PySem.W.Frag) (cs : Cs) (F__law_written : AF) : AS :=
  (aSeq (aIfS (aTest (aIsi K (aVar 0) (aC (.ty "str")))) (aRet (aVar 0)) aNext)
    (aSeq (aAsg (aJoin (aC (.str ",")) (aLc (aSeqI (aSl oSl (aVar 0) (aPart (aC (.int 1))) aNoPart)) (agN 2) aYes (aCall F__law_written (aCons (aVar 2) aNil)) [2])) (agN 1))
    (aRet (aIf (aTest (aOp (oCmp fun i j => decide (j < i)) (aCB cLen (aCons (aVar 0) aNil)) (aC (.int 1)))) (aOp oAdd (aOp oAdd (aOp oAdd (aOp oIxB (aVar 0) (aC (.int 0))) (aC (.str "("))) (aVar 1)) (aC (.str ")"))) (aOp oIxB (aVar 0) (aC (.int 0)))))))
theorem ss__law_written {K : PySem.W.Frag} {cs : Cs} {F__law_written : AF} : SS (fun W => t__law_written K cs F__law_written W) (u__law_written K cs F__law_written) := by
  delta t__law_written u__law_written
  exact (ss_seq (ss_ifS (st_B (se_isi se_var se_ty)) (ss_ret se_var) ss_next)
    (ss_seq (ss_asg (vs := [1]) (se_join se_str (se_lc (tt := (fun _ => tYes)) (te := (fun W => (tCallS (spA F__law_written) (WE W) (tCons (tVar 2) tNil)))) (si_seq (se_sl so_sl se_var (so_some se_int) so_none)) ag_mono (sg_name (by decide)) st_yes (se_call (sa_cons se_var sa_nil)))) ag_mono (sg_name (by decide)))
    (ss_ret (se_if (st_test (se_op so_cmp (se_cb so_len (sa_cons se_var sa_nil)) se_int)) (se_op so_add (se_op so_add (se_op so_add (se_op so_ixB se_var se_int) se_str) se_var) se_str) (se_op so_ixB se_var se_int)))))

def t__law_key (K : PySem.W.Frag) (cs : Cs) (F__law_size : AF) (F__law_written : AF) (W : WX) : TS :=
  (tRet (tTup (tCons (tCallS (spA F__law_size) (WE W) (tCons (tVar 0) tNil)) (tCons (tCallS (spA F__law_written) (WE W) (tCons (tVar 0) tNil)) tNil))))
def u__law_key (K : PySem.W.Frag) (cs : Cs) (F__law_size : AF) (F__law_written : AF) : AS :=
  (aRet (aTup (aCons (aCall F__law_size (aCons (aVar 0) aNil)) (aCons (aCall F__law_written (aCons (aVar 0) aNil)) aNil))))
theorem ss__law_key {K : PySem.W.Frag} {cs : Cs} {F__law_size : AF} {F__law_written : AF} : SS (fun W => t__law_key K cs F__law_size F__law_written W) (u__law_key K cs F__law_size F__law_written) := by
  delta t__law_key u__law_key
  exact (ss_ret (se_tup (sa_cons (se_call (sa_cons se_var sa_nil)) (sa_cons (se_call (sa_cons se_var sa_nil)) sa_nil))))

def t__law_holes (K : PySem.W.Frag) (cs : Cs) (F__law_holes : AF) (W : WX) : TS :=
  (tSeq (tIfS (tB (tCB (rIsiA K) (tCons (tVar 0) (tCons (tC (.ty "str")) tNil)))) (tRet (tLst (tCons (tVar 0) tNil))) tNext) (tSeq (tAsg (tLst tNil) (gName 1)) (tSeq (tFor (iSeq K (tSl (rSlX K) (tVar 0) (tPart (tC (.int 1))) tNoPart)) (gName 2) (tAsg (tOp (rAddA K) (tVar 1) (tLc (iSeq K (tCallS (spA F__law_holes) (WE W) (tCons (tVar 2) tNil))) (gName 3) (tTest (tOp (rNotInB K) (tVar 3) (tVar 1))) (tVar 3) [3])) (gName 1))) (tRet (tVar 1)))))
def u__law_holes (K : PySem.W.Frag) (cs : Cs) (F__law_holes : AF) : AS :=
  (aSeq (aIfS (aTest (aIsi K (aVar 0) (aC (.ty "str")))) (aRet (aLst (aCons (aVar 0) aNil))) aNext)
    (aSeq (aAsg (aLst aNil) (agN 1))
    (aSeq (aFor (aSeqI (aSl oSl (aVar 0) (aPart (aC (.int 1))) aNoPart)) (agN 2) (aAsg (aOp oAdd (aVar 1) (aLc (aSeqI (aCall F__law_holes (aCons (aVar 2) aNil))) (agN 3) (aTest (aOp oNotInB (aVar 3) (aVar 1))) (aVar 3) [3])) (agN 1)))
    (aRet (aVar 1)))))
theorem ss__law_holes {K : PySem.W.Frag} {cs : Cs} {F__law_holes : AF} : SS (fun W => t__law_holes K cs F__law_holes W) (u__law_holes K cs F__law_holes) := by
  delta t__law_holes u__law_holes
  exact (ss_seq (ss_ifS (st_B (se_isi se_var se_ty)) (ss_ret (se_lst (sa_cons se_var sa_nil))) ss_next)
    (ss_seq (ss_asg (vs := [1]) (se_lst sa_nil) ag_mono (sg_name (by decide)))
    (ss_seq (ss_for (vs := [2]) (si_seq (se_sl so_sl se_var (so_some se_int) so_none)) ag_mono (sg_name (by decide)) (ss_asg (vs := [1]) (se_op so_add se_var (se_lc (tt := (fun W => (tTest (tOp (rNotInB K) (tVar 3) (tVar 1))))) (te := (fun W => (tVar 3))) (si_seq (se_call (sa_cons se_var sa_nil))) ag_mono (sg_name (by decide)) (st_test (se_op so_notInB se_var se_var)) se_var)) ag_mono (sg_name (by decide))))
    (ss_ret se_var))))

def t_is_term (K : PySem.W.Frag) (cs : Cs) (F_measured : AF) (W : WX) : TS :=
  (tRet (tChain (rI0 fun i j => .bl (decide (i ≤ j))) (rI0 fun i j => .bl (decide (i ≤ j))) (tC (.int 1)) (tCallK 2 1 (spA F_measured) [0, 1, 2] (WE W) (tCons (tVar 0) (tCons (tC (.int 5)) tNil)) (tCons (tC (.bl false)) tNil)) (tC (.int 30))))
def u_is_term (K : PySem.W.Frag) (cs : Cs) (F_measured : AF) : AS :=
  (aRet (aChain (oCmp fun i j => decide (i ≤ j)) (oCmp fun i j => decide (i ≤ j)) (aC (.int 1)) (aCallK 2 1 F_measured [0, 1, 2] (aCons (aVar 0) (aCons (aC (.int 5)) aNil)) (aCons (aC (.bl false)) aNil)) (aC (.int 30))))
theorem ss_is_term {K : PySem.W.Frag} {cs : Cs} {F_measured : AF} : SS (fun W => t_is_term K cs F_measured W) (u_is_term K cs F_measured) := by
  delta t_is_term u_is_term
  exact (ss_ret (se_chain so_cmp so_cmp se_int (se_callK (sa_cons se_var (sa_cons se_int sa_nil)) (sa_cons se_bl sa_nil)) se_int))

def t_need_term (K : PySem.W.Frag) (cs : Cs) (F_is_term : AF) (W : WX) : TS :=
  (tIfS (tNot (tB (tCallS (spA F_is_term) (WE W) (tCons (tVar 0) tNil)))) (tRaise0 W cs.BadTerm) tNext)
def u_need_term (K : PySem.W.Frag) (cs : Cs) (F_is_term : AF) : AS :=
  (aIfS (aNot (aTest (aCall F_is_term (aCons (aVar 0) aNil)))) (aRaise0 cs.BadTerm) aNext)
theorem ss_need_term {K : PySem.W.Frag} {cs : Cs} {F_is_term : AF} : SS (fun W => t_need_term K cs F_is_term W) (u_need_term K cs F_is_term) := by
  delta t_need_term u_need_term
  exact (ss_ifS (st_not (st_B (se_call (sa_cons se_var sa_nil)))) ss_raise0 ss_next)

def t_put_in (K : PySem.W.Frag) (cs : Cs) (F_put_in : AF) (W : WX) : TS :=
  (tSeq (tIfS (tB (tCB (rIsiA K) (tCons (tVar 0) (tCons (tC (.ty "str")) tNil)))) (tRet (tOp (rIxC K) (tVar 1) (tVar 0))) tNext) (tSeq (tAsg (tVar 0) (gStarT K 2 1 (gCons (gName 2) (gCons (gName 3) gNil)))) (tRet (tThen (tOp (rAddA K) (tLst (tCons (tVar 2) tNil)) (tLc (iSeq K (tVar 3)) (gName 4) tYes (tCallS (spA F_put_in) (WE W0) (tCons (tVar 4) (tCons (tVar 1) tNil))) [4])) (kTup K)))))
def u_put_in (K : PySem.W.Frag) (cs : Cs) (F_put_in : AF) : AS :=
  (aSeq (aIfS (aTest (aIsi K (aVar 0) (aC (.ty "str")))) (aRet (aOp oIxC (aVar 1) (aVar 0))) aNext)
    (aSeq (aStar 2 3 (aVar 0))
    (aRet (aUn oTup (aOp oAdd (aLst (aCons (aVar 2) aNil)) (aLc (aSeqI (aVar 3)) (agN 4) aYes (aCall F_put_in (aCons (aVar 4) (aCons (aVar 1) aNil))) [4]))))))
theorem ss_put_in {K : PySem.W.Frag} {cs : Cs} {F_put_in : AF} : SS (fun W => t_put_in K cs F_put_in W) (u_put_in K cs F_put_in) := by
  delta t_put_in u_put_in
  exact (ss_seq (ss_ifS (st_B (se_isi se_var se_ty)) (ss_ret (se_op so_ixC se_var se_var)) ss_next)
    (ss_seq (ss_star se_var)
    (ss_ret (se_then so_tup (se_op so_add (se_lst (sa_cons se_var sa_nil)) (se_lc (tt := (fun _ => tYes)) (te := (fun W => (tCallS (spA F_put_in) (WE W) (tCons (tVar 4) (tCons (tVar 1) tNil))))) (si_seq se_var) ag_mono (sg_name (by decide)) st_yes (se_call (sa_cons se_var (sa_cons se_var sa_nil)))))))))

def t_filled (K : PySem.W.Frag) (cs : Cs) (F_need_pattern : AF) (F_standing_holes : AF) (F_need_term : AF) (F_put_in : AF) (F_is_term : AF) (W : WX) : TS :=
  (tSeq (tDrop (tCallS (spA F_need_pattern) (WE W) (tCons (tVar 0) tNil))) (tSeq (tFor (iSeq K (tCallS (spA F_standing_holes) (WE W) (tCons (tVar 0) tNil))) (gName 2) (tIfS (tTest (tOp (rNotInC K) (tVar 2) (tVar 1))) (tRaise1 K W cs.NoHole "hole" (tVar 2)) tNext)) (tSeq (tFor (iSeq K (tCallS (spA F_standing_holes) (WE W) (tCons (tVar 0) tNil))) (gName 2) (tDrop (tCallS (spA F_need_term) (WE W) (tCons (tOp (rIxC K) (tVar 1) (tVar 2)) tNil)))) (tSeq (tAsg (tCallS (spA F_put_in) (WE W) (tCons (tVar 0) (tCons (tVar 1) tNil))) (gName 3)) (tSeq (tIfS (tNot (tB (tCallS (spA F_is_term) (WE W) (tCons (tVar 3) tNil)))) (tRaise0 W cs.TooGreat) tNext) (tRet (tVar 3)))))))
def u_filled (K : PySem.W.Frag) (cs : Cs) (F_need_pattern : AF) (F_standing_holes : AF) (F_need_term : AF) (F_put_in : AF) (F_is_term : AF) : AS :=
  (aSeq (aDrop (aCall F_need_pattern (aCons (aVar 0) aNil)))
    (aSeq (aFor (aSeqI (aCall F_standing_holes (aCons (aVar 0) aNil))) (agN 2) (aIfS (aTest (aOp oNotInC (aVar 2) (aVar 1))) (aRaise1 cs.NoHole "hole" (aVar 2)) aNext))
    (aSeq (aFor (aSeqI (aCall F_standing_holes (aCons (aVar 0) aNil))) (agN 2) (aDrop (aCall F_need_term (aCons (aOp oIxC (aVar 1) (aVar 2)) aNil))))
    (aSeq (aAsg (aCall F_put_in (aCons (aVar 0) (aCons (aVar 1) aNil))) (agN 3))
    (aSeq (aIfS (aNot (aTest (aCall F_is_term (aCons (aVar 3) aNil)))) (aRaise0 cs.TooGreat) aNext)
    (aRet (aVar 3)))))))
theorem ss_filled {K : PySem.W.Frag} {cs : Cs} {F_need_pattern : AF} {F_standing_holes : AF} {F_need_term : AF} {F_put_in : AF} {F_is_term : AF} (e_NoHole : OexC K cs.NoHole ∧ PySem.W.findIn K (.ref cs.NoHole) "hole" = some none) : SS (fun W => t_filled K cs F_need_pattern F_standing_holes F_need_term F_put_in F_is_term W) (u_filled K cs F_need_pattern F_standing_holes F_need_term F_put_in F_is_term) := by
  delta t_filled u_filled
  exact (ss_seq (ss_drop (se_call (sa_cons se_var sa_nil)))
    (ss_seq (ss_for (vs := [2]) (si_seq (se_call (sa_cons se_var sa_nil))) ag_mono (sg_name (by decide)) (ss_ifS (st_test (se_op so_notInC se_var se_var)) (ss_raise1 e_NoHole.1 e_NoHole.2 se_var) ss_next))
    (ss_seq (ss_for (vs := [2]) (si_seq (se_call (sa_cons se_var sa_nil))) ag_mono (sg_name (by decide)) (ss_drop (se_call (sa_cons (se_op so_ixC se_var se_var) sa_nil))))
    (ss_seq (ss_asg (vs := [3]) (se_call (sa_cons se_var (sa_cons se_var sa_nil))) ag_mono (sg_name (by decide)))
    (ss_seq (ss_ifS (st_not (st_B (se_call (sa_cons se_var sa_nil)))) ss_raise0 ss_next)
    (ss_ret se_var))))))

def t__law_put_in (K : PySem.W.Frag) (cs : Cs) (F__law_put_in : AF) (W : WX) : TS :=
  (tSeq (tIfS (tB (tCB (rIsiA K) (tCons (tVar 0) (tCons (tC (.ty "str")) tNil)))) (tRet (tOp (rIxC K) (tVar 1) (tVar 0))) tNext) (tRet (tOp (rAddA K) (tSl (rSlX K) (tVar 0) tNoPart (tPart (tC (.int 1)))) (tThen (tLc (iSeq K (tSl (rSlX K) (tVar 0) (tPart (tC (.int 1))) tNoPart)) (gName 2) tYes (tCallS (spA F__law_put_in) (WE W0) (tCons (tVar 2) (tCons (tVar 1) tNil))) [2]) (kTup K)))))
def u__law_put_in (K : PySem.W.Frag) (cs : Cs) (F__law_put_in : AF) : AS :=
  (aSeq (aIfS (aTest (aIsi K (aVar 0) (aC (.ty "str")))) (aRet (aOp oIxC (aVar 1) (aVar 0))) aNext)
    (aRet (aOp oAdd (aSl oSl (aVar 0) aNoPart (aPart (aC (.int 1)))) (aUn oTup (aLc (aSeqI (aSl oSl (aVar 0) (aPart (aC (.int 1))) aNoPart)) (agN 2) aYes (aCall F__law_put_in (aCons (aVar 2) (aCons (aVar 1) aNil))) [2])))))
theorem ss__law_put_in {K : PySem.W.Frag} {cs : Cs} {F__law_put_in : AF} : SS (fun W => t__law_put_in K cs F__law_put_in W) (u__law_put_in K cs F__law_put_in) := by
  delta t__law_put_in u__law_put_in
  exact (ss_seq (ss_ifS (st_B (se_isi se_var se_ty)) (ss_ret (se_op so_ixC se_var se_var)) ss_next)
    (ss_ret (se_op so_add (se_sl so_sl se_var so_none (so_some se_int)) (se_then so_tup (se_lc (tt := (fun _ => tYes)) (te := (fun W => (tCallS (spA F__law_put_in) (WE W) (tCons (tVar 2) (tCons (tVar 1) tNil))))) (si_seq (se_sl so_sl se_var (so_some se_int) so_none)) ag_mono (sg_name (by decide)) st_yes (se_call (sa_cons se_var (sa_cons se_var sa_nil))))))))

def t_pattern_text (K : PySem.W.Frag) (cs : Cs) (F_need_pattern : AF) (F_text_of : AF) (W : WX) : TS :=
  (tSeq (tDrop (tCallS (spA F_need_pattern) (WE W) (tCons (tVar 0) tNil))) (tRet (tCallS (spA F_text_of) (WE W) (tCons (tVar 0) tNil))))
def u_pattern_text (K : PySem.W.Frag) (cs : Cs) (F_need_pattern : AF) (F_text_of : AF) : AS :=
  (aSeq (aDrop (aCall F_need_pattern (aCons (aVar 0) aNil)))
    (aRet (aCall F_text_of (aCons (aVar 0) aNil))))
theorem ss_pattern_text {K : PySem.W.Frag} {cs : Cs} {F_need_pattern : AF} {F_text_of : AF} : SS (fun W => t_pattern_text K cs F_need_pattern F_text_of W) (u_pattern_text K cs F_need_pattern F_text_of) := by
  delta t_pattern_text u_pattern_text
  exact (ss_seq (ss_drop (se_call (sa_cons se_var sa_nil)))
    (ss_ret (se_call (sa_cons se_var sa_nil))))

def t_behind_blanks (K : PySem.W.Frag) (cs : Cs) (W : WX) : TS :=
  (tSeq (tWhile (tTest (tOp (rEqB K) (tSl (rSlX K) (tVar 0) (tPart (tVar 1)) (tPart (tOp (rAddA K) (tVar 1) (tC (.int 1))))) (tC (.str " ")))) (tAug 1 (tC (.int 1)) (ipI fun i j => i + j))) (tRet (tVar 1)))
def u_behind_blanks (K : PySem.W.Frag) (cs : Cs) : AS :=
  (aSeq (aWhile (aTest (aOp oEqB (aSl oSl (aVar 0) (aPart (aVar 1)) (aPart (aOp oAdd (aVar 1) (aC (.int 1))))) (aC (.str " ")))) (aAug 1 (aC (.int 1))))
    (aRet (aVar 1)))
theorem ss_behind_blanks {K : PySem.W.Frag} {cs : Cs} : SS (fun W => t_behind_blanks K cs W) (u_behind_blanks K cs) := by
  delta t_behind_blanks u_behind_blanks
  exact (ss_seq (ss_while (st_test (se_op so_eqB (se_sl so_sl se_var (so_some se_var) (so_some (se_op so_add se_var se_int))) se_str)) (ss_aug se_int))
    (ss_ret se_var))

def t_behind_letters (K : PySem.W.Frag) (cs : Cs) (W : WX) : TS :=
  (tSeq (tAsg (tVar 1) (gName 3)) (tSeq (tWhile (tAnd (tTest (tOp (rLtB K) (tVar 3) (tOp (rAddA K) (tVar 1) (tVar 2)))) (tAnd (tTest (tOp (rLtB K) (tVar 3) (tCB (rLenA K) (tCons (tVar 0) tNil)))) (tTest (tOp (rInB K) (tOp (rIxB K) (tVar 0) (tVar 3)) (tC (.str "abcdefghijklmnopqrstuvwxyz")))))) (tAug 3 (tC (.int 1)) (ipI fun i j => i + j))) (tSeq (tIfS (tOr (tTest (tOp (rEqB K) (tVar 3) (tVar 1))) (tAnd (tTest (tOp (rEqB K) (tVar 3) (tOp (rAddA K) (tVar 1) (tVar 2)))) (tAnd (tTest (tOp (rLtB K) (tVar 3) (tCB (rLenA K) (tCons (tVar 0) tNil)))) (tTest (tOp (rInB K) (tOp (rIxB K) (tVar 0) (tVar 3)) (tC (.str "abcdefghijklmnopqrstuvwxyz"))))))) (tRaise1 K W cs.NoText "at" (tVar 3)) tNext) (tRet (tVar 3)))))
def u_behind_letters (K : PySem.W.Frag) (cs : Cs) : AS :=
  (aSeq (aAsg (aVar 1) (agN 3))
    (aSeq (aWhile (aAnd (aTest (aOp oLtB (aVar 3) (aOp oAdd (aVar 1) (aVar 2)))) (aAnd (aTest (aOp oLtB (aVar 3) (aCB cLen (aCons (aVar 0) aNil)))) (aTest (aOp oInB (aOp oIxB (aVar 0) (aVar 3)) (aC (.str "abcdefghijklmnopqrstuvwxyz")))))) (aAug 3 (aC (.int 1))))
    (aSeq (aIfS (aOr (aTest (aOp oEqB (aVar 3) (aVar 1))) (aAnd (aTest (aOp oEqB (aVar 3) (aOp oAdd (aVar 1) (aVar 2)))) (aAnd (aTest (aOp oLtB (aVar 3) (aCB cLen (aCons (aVar 0) aNil)))) (aTest (aOp oInB (aOp oIxB (aVar 0) (aVar 3)) (aC (.str "abcdefghijklmnopqrstuvwxyz"))))))) (aRaise1 cs.NoText "at" (aVar 3)) aNext)
    (aRet (aVar 3)))))
theorem ss_behind_letters {K : PySem.W.Frag} {cs : Cs} (e_NoText : OexC K cs.NoText ∧ PySem.W.findIn K (.ref cs.NoText) "at" = some none) : SS (fun W => t_behind_letters K cs W) (u_behind_letters K cs) := by
  delta t_behind_letters u_behind_letters
  exact (ss_seq (ss_asg (vs := [3]) se_var ag_mono (sg_name (by decide)))
    (ss_seq (ss_while (st_and (st_test (se_op so_ltB se_var (se_op so_add se_var se_var))) (st_and (st_test (se_op so_ltB se_var (se_cb so_len (sa_cons se_var sa_nil)))) (st_test (se_op so_inB (se_op so_ixB se_var se_var) se_str)))) (ss_aug se_int))
    (ss_seq (ss_ifS (st_or (st_test (se_op so_eqB se_var se_var)) (st_and (st_test (se_op so_eqB se_var (se_op so_add se_var se_var))) (st_and (st_test (se_op so_ltB se_var (se_cb so_len (sa_cons se_var sa_nil)))) (st_test (se_op so_inB (se_op so_ixB se_var se_var) se_str))))) (ss_raise1 e_NoText.1 e_NoText.2 se_var) ss_next)
    (ss_ret se_var))))

def t_leaf_at (K : PySem.W.Frag) (cs : Cs) (F_behind_blanks : AF) (F_behind_letters : AF) (W : WX) : TS :=
  (tSeq (tAsg (tCallS (spA F_behind_blanks) (WE W) (tCons (tVar 0) (tCons (tVar 1) tNil))) (gName 1)) (tSeq (tIfS (tTest (tOp (rEqB K) (tSl (rSlX K) (tVar 0) (tPart (tVar 1)) (tPart (tOp (rAddA K) (tVar 1) (tC (.int 1))))) (tC (.str "?")))) (tSeq (tAsg (tCallS (spA F_behind_letters) (WE W) (tCons (tVar 0) (tCons (tOp (rAddA K) (tVar 1) (tC (.int 1))) (tCons (tC (.int 4)) tNil)))) (gName 2)) (tRet (tTup (tCons (tSl (rSlX K) (tVar 0) (tPart (tVar 1)) (tPart (tVar 2))) (tCons (tCallS (spA F_behind_blanks) (WE W) (tCons (tVar 0) (tCons (tVar 2) tNil))) tNil))))) tNext) (tSeq (tAsg (tCallS (spA F_behind_letters) (WE W) (tCons (tVar 0) (tCons (tVar 1) (tCons (tC (.int 8)) tNil)))) (gName 2)) (tRet (tTup (tCons (tTup (tCons (tSl (rSlX K) (tVar 0) (tPart (tVar 1)) (tPart (tVar 2))) tNil)) (tCons (tCallS (spA F_behind_blanks) (WE W) (tCons (tVar 0) (tCons (tVar 2) tNil))) tNil)))))))
def u_leaf_at (K : PySem.W.Frag) (cs : Cs) (F_behind_blanks : AF) (F_behind_letters : AF) : AS :=
  (aSeq (aAsg (aCall F_behind_blanks (aCons (aVar 0) (aCons (aVar 1) aNil))) (agN 1))
    (aSeq (aIfS (aTest (aOp oEqB (aSl oSl (aVar 0) (aPart (aVar 1)) (aPart (aOp oAdd (aVar 1) (aC (.int 1))))) (aC (.str "?")))) (aSeq (aAsg (aCall F_behind_letters (aCons (aVar 0) (aCons (aOp oAdd (aVar 1) (aC (.int 1))) (aCons (aC (.int 4)) aNil)))) (agN 2))
    (aRet (aTup (aCons (aSl oSl (aVar 0) (aPart (aVar 1)) (aPart (aVar 2))) (aCons (aCall F_behind_blanks (aCons (aVar 0) (aCons (aVar 2) aNil))) aNil))))) aNext)
    (aSeq (aAsg (aCall F_behind_letters (aCons (aVar 0) (aCons (aVar 1) (aCons (aC (.int 8)) aNil)))) (agN 2))
    (aRet (aTup (aCons (aTup (aCons (aSl oSl (aVar 0) (aPart (aVar 1)) (aPart (aVar 2))) aNil)) (aCons (aCall F_behind_blanks (aCons (aVar 0) (aCons (aVar 2) aNil))) aNil)))))))
theorem ss_leaf_at {K : PySem.W.Frag} {cs : Cs} {F_behind_blanks : AF} {F_behind_letters : AF} : SS (fun W => t_leaf_at K cs F_behind_blanks F_behind_letters W) (u_leaf_at K cs F_behind_blanks F_behind_letters) := by
  delta t_leaf_at u_leaf_at
  exact (ss_seq (ss_asg (vs := [1]) (se_call (sa_cons se_var (sa_cons se_var sa_nil))) ag_mono (sg_name (by decide)))
    (ss_seq (ss_ifS (st_test (se_op so_eqB (se_sl so_sl se_var (so_some se_var) (so_some (se_op so_add se_var se_int))) se_str)) (ss_seq (ss_asg (vs := [2]) (se_call (sa_cons se_var (sa_cons (se_op so_add se_var se_int) (sa_cons se_int sa_nil)))) ag_mono (sg_name (by decide)))
    (ss_ret (se_tup (sa_cons (se_sl so_sl se_var (so_some se_var) (so_some se_var)) (sa_cons (se_call (sa_cons se_var (sa_cons se_var sa_nil))) sa_nil))))) ss_next)
    (ss_seq (ss_asg (vs := [2]) (se_call (sa_cons se_var (sa_cons se_var (sa_cons se_int sa_nil)))) ag_mono (sg_name (by decide)))
    (ss_ret (se_tup (sa_cons (se_tup (sa_cons (se_sl so_sl se_var (so_some se_var) (so_some se_var)) sa_nil)) (sa_cons (se_call (sa_cons se_var (sa_cons se_var sa_nil))) sa_nil)))))))

def t_closed (K : PySem.W.Frag) (cs : Cs) (F_behind_blanks : AF) (W : WX) : TS :=
  (tSeq (tWhile (tTest (tOp (rNeE K) (tVar 3) (tLst tNil))) (tSeq (tDrop (tBM K "list" rAppend (tOp (rIxB K) (tVar 3) (tUn (rU fun i => .int (-i)) (tC (.int 1)))) (tCons (tVar 2) tNil))) (tSeq (tAsg (tSl (rSlX K) (tVar 0) (tPart (tVar 1)) (tPart (tOp (rAddA K) (tVar 1) (tC (.int 1))))) (gName 4)) (tSeq (tIfS (tAnd (tTest (tOp (rEqB K) (tVar 4) (tC (.str ",")))) (tTest (tOp (rI0 fun i j => .bl (decide (i ≤ j))) (tCB (rLenA K) (tCons (tOp (rIxB K) (tVar 3) (tUn (rU fun i => .int (-i)) (tC (.int 1)))) tNil)) (tC (.int 3))))) (tRet (tTup (tCons (tC .non) (tCons (tOp (rAddA K) (tVar 1) (tC (.int 1))) tNil)))) tNext) (tSeq (tIfS (tTest (tOp (rNeB K) (tVar 4) (tC (.str ")")))) (tRaise1 K W cs.NoText "at" (tVar 1)) tNext) (tPar 2 1 (tCons (tThen (tBM0 K "list" rPop (tVar 3)) (kTup K)) (tCons (tCallS (spA F_behind_blanks) (WE W) (tCons (tVar 0) (tCons (tOp (rAddA K) (tVar 1) (tC (.int 1))) tNil))) tNil)))))))) (tRet (tTup (tCons (tVar 2) (tCons (tVar 1) tNil)))))
def u_closed (K : PySem.W.Frag) (cs : Cs) (F_behind_blanks : AF) : AS :=
  (aSeq (aWhile (aTest (aOp oNeE (aVar 3) (aLst aNil))) (aSeq (aDrop (aMu mAppend (aOp oIxB (aVar 3) (aUn oNeg (aC (.int 1)))) (aCons (aVar 2) aNil)))
    (aSeq (aAsg (aSl oSl (aVar 0) (aPart (aVar 1)) (aPart (aOp oAdd (aVar 1) (aC (.int 1))))) (agN 4))
    (aSeq (aIfS (aAnd (aTest (aOp oEqB (aVar 4) (aC (.str ",")))) (aTest (aOp (oCmp fun i j => decide (i ≤ j)) (aCB cLen (aCons (aOp oIxB (aVar 3) (aUn oNeg (aC (.int 1)))) aNil)) (aC (.int 3))))) (aRet (aTup (aCons (aC .non) (aCons (aOp oAdd (aVar 1) (aC (.int 1))) aNil)))) aNext)
    (aSeq (aIfS (aTest (aOp oNeB (aVar 4) (aC (.str ")")))) (aRaise1 cs.NoText "at" (aVar 1)) aNext)
    (aPar 2 1 (aCons (aUn oTup (aMu mPop (aVar 3) aNil)) (aCons (aCall F_behind_blanks (aCons (aVar 0) (aCons (aOp oAdd (aVar 1) (aC (.int 1))) aNil))) aNil))))))))
    (aRet (aTup (aCons (aVar 2) (aCons (aVar 1) aNil)))))
theorem ss_closed {K : PySem.W.Frag} {cs : Cs} {F_behind_blanks : AF} (e_NoText : OexC K cs.NoText ∧ PySem.W.findIn K (.ref cs.NoText) "at" = some none) : SS (fun W => t_closed K cs F_behind_blanks W) (u_closed K cs F_behind_blanks) := by
  delta t_closed u_closed
  exact (ss_seq (ss_while (st_test (se_op so_neE se_var (se_lst sa_nil))) (ss_seq (ss_drop (se_mu sm_append (se_op so_ixB se_var (se_un so_neg se_int)) (sa_cons se_var sa_nil)))
    (ss_seq (ss_asg (vs := [4]) (se_sl so_sl se_var (so_some se_var) (so_some (se_op so_add se_var se_int))) ag_mono (sg_name (by decide)))
    (ss_seq (ss_ifS (st_and (st_test (se_op so_eqB se_var se_str)) (st_test (se_op so_cmp (se_cb so_len (sa_cons (se_op so_ixB se_var (se_un so_neg se_int)) sa_nil)) se_int))) (ss_ret (se_tup (sa_cons se_non (sa_cons (se_op so_add se_var se_int) sa_nil)))) ss_next)
    (ss_seq (ss_ifS (st_test (se_op so_neB se_var se_str)) (ss_raise1 e_NoText.1 e_NoText.2 se_var) ss_next)
    (ss_par (sa_cons (se_then so_tup (se_mu0 sm_pop se_var)) (sa_cons (se_call (sa_cons se_var (sa_cons (se_op so_add se_var se_int) sa_nil))) sa_nil))))))))
    (ss_ret (se_tup (sa_cons se_var (sa_cons se_var sa_nil)))))

def t_read_pattern (K : PySem.W.Frag) (cs : Cs) (F_leaf_at : AF) (F_closed : AF) (F_is_pattern : AF) (W : WX) : TS :=
  (tSeq (tIfS (tNot (tB (tCB (rIsiA K) (tCons (tVar 0) (tCons (tC (.ty "str")) tNil))))) (tRaise1 K W cs.NoText "at" (tC (.int 0))) tNext) (tSeq (tPar3 1 2 3 (tCons (tLst tNil) (tCons (tC .non) (tCons (tC (.int 0)) tNil)))) (tSeq (tWhile (tTest (tOp rIsN (tVar 2) (tC .non))) (tSeq (tAsg (tCallS (spA F_leaf_at) (WE W) (tCons (tVar 0) (tCons (tVar 3) tNil))) (gTup K 2 (gCons (gName 4) (gCons (gName 3) gNil)))) (tIfS (tAnd (tB (tCB (rIsiA K) (tCons (tVar 4) (tCons (tC (.ty "tuple")) tNil)))) (tTest (tOp (rEqB K) (tSl (rSlX K) (tVar 0) (tPart (tVar 3)) (tPart (tOp (rAddA K) (tVar 3) (tC (.int 1))))) (tC (.str "("))))) (tSeq (tDrop (tBM K "list" rAppend (tVar 1) (tCons (tCB (rListB K) (tCons (tVar 4) tNil)) tNil))) (tAug 3 (tC (.int 1)) (ipI fun i j => i + j))) (tAsg (tCallS (spA F_closed) (WE W) (tCons (tVar 0) (tCons (tVar 3) (tCons (tVar 4) (tCons (tVar 1) tNil))))) (gTup K 2 (gCons (gName 2) (gCons (gName 3) gNil))))))) (tSeq (tIfS (tTest (tOp (rLtB K) (tVar 3) (tCB (rLenA K) (tCons (tVar 0) tNil)))) (tRaise1 K W cs.NoText "at" (tVar 3)) tNext) (tSeq (tIfS (tNot (tB (tCallS (spA F_is_pattern) (WE W) (tCons (tVar 2) tNil)))) (tRaise1 K W cs.NoText "at" (tCB (rLenA K) (tCons (tVar 0) tNil))) tNext) (tRet (tVar 2)))))))
def u_read_pattern (K : PySem.W.Frag) (cs : Cs) (F_leaf_at : AF) (F_closed : AF) (F_is_pattern : AF) : AS :=
  (aSeq (aIfS (aNot (aTest (aIsi K (aVar 0) (aC (.ty "str"))))) (aRaise1 cs.NoText "at" (aC (.int 0))) aNext)
    (aSeq (aPar3 1 2 3 (aCons (aLstO aNil) (aCons (aC .non) (aCons (aC (.int 0)) aNil))))
    (aSeq (aWhile (aTest (aOp oIsN (aVar 2) (aC .non))) (aSeq (aAsg (aCall F_leaf_at (aCons (aVar 0) (aCons (aVar 3) aNil))) (agT 2 (agCons (agN 4) (agCons (agN 3) agNil))))
    (aIfS (aAnd (aTest (aIsi K (aVar 4) (aC (.ty "tuple")))) (aTest (aOp oEqB (aSl oSl (aVar 0) (aPart (aVar 3)) (aPart (aOp oAdd (aVar 3) (aC (.int 1))))) (aC (.str "("))))) (aSeq (aDrop (aMu mAppend (aVar 1) (aCons (aListO (aVar 4)) aNil)))
    (aAug 3 (aC (.int 1)))) (aAsg (aCall F_closed (aCons (aVar 0) (aCons (aVar 3) (aCons (aVar 4) (aCons (aVar 1) aNil))))) (agT 2 (agCons (agN 2) (agCons (agN 3) agNil)))))))
    (aSeq (aIfS (aTest (aOp oLtB (aVar 3) (aCB cLen (aCons (aVar 0) aNil)))) (aRaise1 cs.NoText "at" (aVar 3)) aNext)
    (aSeq (aIfS (aNot (aTest (aCall F_is_pattern (aCons (aVar 2) aNil)))) (aRaise1 cs.NoText "at" (aCB cLen (aCons (aVar 0) aNil))) aNext)
    (aRet (aVar 2)))))))
theorem ss_read_pattern {K : PySem.W.Frag} {cs : Cs} {F_leaf_at : AF} {F_closed : AF} {F_is_pattern : AF} (e_NoText : OexC K cs.NoText ∧ PySem.W.findIn K (.ref cs.NoText) "at" = some none) : SS (fun W => t_read_pattern K cs F_leaf_at F_closed F_is_pattern W) (u_read_pattern K cs F_leaf_at F_closed F_is_pattern) := by
  delta t_read_pattern u_read_pattern
  exact (ss_seq (ss_ifS (st_not (st_B (se_isi se_var se_ty))) (ss_raise1 e_NoText.1 e_NoText.2 se_int) ss_next)
    (ss_seq (ss_par3 (sa_cons (se_lstO sa_nil) (sa_cons se_non (sa_cons se_int sa_nil))))
    (ss_seq (ss_while (st_test (se_op so_isN se_var se_non)) (ss_seq (ss_asg (vs := [4, 3]) (se_call (sa_cons se_var (sa_cons se_var sa_nil))) (agT_mono (agCons_mono ag_mono (agCons_mono ag_mono agNil_mono))) (sg_tup (sg_cons ag_mono (agCons_mono ag_mono agNil_mono) (sg_name (by decide)) (sg_cons ag_mono agNil_mono (sg_name (by decide)) sg_nil))))
    (ss_ifS (st_and (st_B (se_isi se_var se_ty)) (st_test (se_op so_eqB (se_sl so_sl se_var (so_some se_var) (so_some (se_op so_add se_var se_int))) se_str))) (ss_seq (ss_drop (se_mu sm_append se_var (sa_cons (se_listO se_var) sa_nil)))
    (ss_aug se_int)) (ss_asg (vs := [2, 3]) (se_call (sa_cons se_var (sa_cons se_var (sa_cons se_var (sa_cons se_var sa_nil))))) (agT_mono (agCons_mono ag_mono (agCons_mono ag_mono agNil_mono))) (sg_tup (sg_cons ag_mono (agCons_mono ag_mono agNil_mono) (sg_name (by decide)) (sg_cons ag_mono agNil_mono (sg_name (by decide)) sg_nil)))))))
    (ss_seq (ss_ifS (st_test (se_op so_ltB se_var (se_cb so_len (sa_cons se_var sa_nil)))) (ss_raise1 e_NoText.1 e_NoText.2 se_var) ss_next)
    (ss_seq (ss_ifS (st_not (st_B (se_call (sa_cons se_var sa_nil)))) (ss_raise1 e_NoText.1 e_NoText.2 (se_cb so_len (sa_cons se_var sa_nil))) ss_next)
    (ss_ret se_var))))))

end LM

set_option Elab.async false
set_option linter.all false
set_option maxRecDepth 100000
set_option maxHeartbeats 4000000
/-! The abstract layer: x >= y of texts. -/
namespace AL
open PySem L2 DL
variable [Wd]
def rGeS : R2 := fun x y H Q => ∃ i j, x = .str i ∧ y = .str j ∧ Q (.bl (!decide (i.cps.toList < j.cps.toList))) H
def rGeB : R2 := fun x y H Q => (rI0 fun i j => .bl (decide (j ≤ i))) x y H Q ∨ rGeS x y H Q
theorem op_geB {X : Cx} : OpR X (compareOp .GtE) rGeB := op_ge.or (show OpR X (compareOp .GtE) rGeS from op_ge_str)
def oGeB : A2 := fun d e Q => match d, e with
  | .int i, .int j => Q (.bl (decide (j ≤ i)))
  | .str i, .str j => Q (.bl (!decide (i.cps.toList < j.cps.toList)))
  | _, _ => False
theorem so_geB : SOp rGeB oGeB := fun d e Q h => by
  unfold oGeB at h
  split at h
  · exact ⟨_, rv_inl rv_intB, h⟩
  · exact ⟨_, rv_inr fun own H x y o hx hy Q q => by
      cases hx; cases hy
      exact ⟨_, _, rfl, rfl, q _ H (Same.refl H) (.bl _)⟩, h⟩
  · exact h.elim
end AL

set_option Elab.async false
set_option linter.all false
set_option maxRecDepth 100000
set_option maxHeartbeats 4000000
/-! Readings, abstract bodies and their soundness (printed by gen3.py). -/
namespace LM
open PySem L2 DL AL
variable [Wd]
end LM

set_option Elab.async false
set_option linter.all false
set_option maxRecDepth 100000
set_option maxHeartbeats 4000000
/-! The abstract layer: enumerate. -/
namespace AL
open PySem L2 DL PySem.Spec PyProof.Rows
variable [Wd]
/-- a text's signs, each in a new pair with its place -/
def ItES (x : Str) : It :=
  ⟨fun i H => i < x.cps.size, fun i H v H' => ∃ T c, v = .ref T ∧ H T = none ∧ H' = upd H T (.tup [.int (i : Nat), .str ⟨#[c]⟩]) ∧ x.cps[i]? = some c, fun i H => x.cps.size = i⟩
theorem turn_enumS {P : Program} {w : World} {K : PySem.W.Frag} {elts : List Expr} {kk : Nat} {tpos : Pos} (e it : Addr) (x : Str) (t : Tok) :
    Turn P w K (.Tuple elts kk tpos) (ItES x) [e, it] e (fun i h => (∃ old, IsEnum h e it ((i : Nat) : Int) old) ∧ h.IsStrIter it (strIterType x) x t i ∧ e ≠ it) where
  mem := by simp
  obj := fun i h st b hb => by
    obtain ⟨⟨old, he⟩, ⟨o, ho, hc, hd⟩, _⟩ := st
    have e' : b = e ∨ b = it := by simpa using hb
    rcases e' with z | z
    · rw [z]; exact ⟨_, he, fun v q => nomatch q⟩
    · rw [z]; exact ⟨o, ho, fun v q => by rw [hd] at q; cases q⟩
  keep := fun i h h' st k => let ⟨⟨old, he⟩, ⟨o, ho, r⟩, hne⟩ := st; ⟨⟨old, k e (by simp) _ he⟩, ⟨o, k it (by simp) o ho, r⟩, hne⟩
  item := by
    intro X hP hw hK hc i pins s σ H E I hf st hg
    subst hP hw hK
    obtain ⟨⟨old, he⟩, hit, hne⟩ := st
    have hel : e < s.heap.objs.size := Heap.lt_size he
    have hil : it < s.heap.objs.size := by obtain ⟨_, q, _⟩ := hit; exact Heap.lt_size q
    refine wpAny_pyNext_enum_itemD (Draws.text (A := X.A.in1) (I.ok.hd hc) it x t) he hit hg hne (by simpa using hne) fun u h' tk hPx ho hit' hT hsz hk => ?_
    obtain ⟨c, u', hcx, rfl⟩ := hPx
    refine ⟨_, rfl, wpAny_letOwnedTupleGo_enum (s := { s with heap := h', toks := tk + 1 }) ho fun h'' he' sb => ?_⟩
    have hT2 : h''.get? s.heap.objs.size = some { cls := .type "tuple", data := .seq #[.int i tk, .str ⟨#[c]⟩ u'] } := (sb.2 _ (Nat.ne_of_gt hel)).trans hT
    have new : ObjOk X.prog X.w (upd H s.heap.objs.size (.tup [.int (i : Nat), .str ⟨#[c]⟩])) h'' s.heap.objs.size (.tup [.int (i : Nat), .str ⟨#[c]⟩]) :=
      ⟨by show 2 ≤ sizeLine; decide, [.int i tk, .str ⟨#[c]⟩ u'], .cons ⟨_, rfl⟩ (.cons ⟨_, rfl⟩ .nil), ⟨_, hT2, rfl, _, rfl⟩⟩
    have I1 : Inv X pins σ (upd H s.heap.objs.size (.tup [.int (i : Nat), .str ⟨#[c]⟩])) { s with heap := h'', toks := tk + 1 } :=
      I.turnedNew (ch := [e, it]) (fun b ob hb q => (sb.2 b (fun z => hb (by simp [z]))).trans (hk b ob (fun z => hb (by simp [z])) (fun z => hb (by simp [z])) q)) hf (Nat.le_refl _) new
    refine ⟨.ref s.heap.objs.size, _, I1, rfl, ⟨_, c, rfl, I.hok.fresh (Nat.le_refl _), rfl, hcx⟩, ⟨⟨.str ⟨#[c]⟩ u', ?_⟩, ?_, hne⟩, fun b hb => ?_⟩
    · have e1 : ((i + 1 : Nat) : Int) = (i : Int) + 1 := by omega
      rw [e1]; exact he'
    · obtain ⟨o, ho', r⟩ := hit'
      exact ⟨o, (sb.2 it (Ne.symm hne)).trans ho', r⟩
    · have hb' : b < s.heap.objs.size := by
        have e' : b = e ∨ b = it := by simpa using hb
        rcases e' with z | z
        · rw [z]; exact hel
        · rw [z]; exact hil
      rw [upd_ne (Nat.ne_of_lt hb')]
      exact (hf b hb).1
  done := by
    intro X hP hw hK hc i pins s σ H E I hf st hg
    subst hP hw hK
    obtain ⟨⟨old, he⟩, hit, hne⟩ := st
    obtain ⟨f0, f1, f2, f3, f4, f5⟩ := hf it (by simp)
    have hg' : x.cps.size = i := hg
    exact wpAny_pyNext_enum_endD (Draws.text (A := X.A.in1) (I.ok.hd hc) it x t) he (by rw [hg']; exact hit) fun h' eb => ⟨rfl, I.turned (t' := s.toks) (fun b o hb q => eb b o hb q) f0 f1 f3 f4 f5⟩
  self := fun A i s Q E st h => let ⟨⟨_, he⟩, _⟩ := st; wpAny_pyIter_enum he h
def iEnumA (K : PySem.W.Frag) (ta : TA) : TI := fun σ H R => ta σ H fun vs H1 => (∃ a xs, vs = [.ref a] ∧ SqL K H1 a xs ∧ R (Ite K a) H1) ∨ ∃ x, vs = [.str x] ∧ R (ItES x) H1
theorem pi_enumA {X : Cx} {e : Expr} {ta : TA} {p pos tpos : Pos} {elts : List Expr} {kk : Nat} (hg : Gl X "enumerate") (hm : X.mg "enumerate" = none) (ha : PA X [e] ta) (hs : starEach [e] X.env = [(false, eval e X.env)] := by rfl) :
    PI X (.Tuple elts kk tpos) (.Call (.Name "enumerate" p) [e] [] pos) (iEnumA X.K ta) := by
  refine ⟨fun pins s σ H R I h => ?_⟩
  refine Call_ (ld_blt I hg hm boot_enumerate (PyProof.Rows.callWith_type1 (thn (ha.run pos pins s σ H _ I h) fun us s1 ⟨vs, H1, I1, r1, q1⟩ => ?_) hs rfl))
  rcases q1 with ⟨a, xs, ex, hq, q⟩ | ⟨x, ex, q⟩
  · subst ex
    cases r1 with
    | cons r rr =>
      cases rr
      cases r
      obtain ⟨its, rv, p', hz⟩ := I1.list hq
      refine call_enumerate_list p'.isList fun h' he hit hsz hk => wpAny_pyIter_enum he ?_
      have I2 : Inv X pins σ H1 { s1 with heap := h' } := I1.kept (t' := s1.toks) hk
      refine ⟨s1.heap.objs.size + 1, [s1.heap.objs.size + 1, s1.heap.objs.size], _, _, H1, rfl, I2, turn_enum a (s1.heap.objs.size + 1) s1.heap.objs.size, ⟨⟨.none, he⟩, hit, Nat.succ_ne_self _⟩, fun b hb => ?_, q⟩
      have e' : b = s1.heap.objs.size + 1 ∨ b = s1.heap.objs.size := by simpa using hb
      have hle : s1.heap.objs.size ≤ b := by
        rcases e' with z | z
        · rw [z]; exact Nat.le_add_right _ _
        · rw [z]; exact Nat.le_refl _
      exact I1.fpOk hle (I1.hok.fresh hle)
  · subst ex
    cases r1 with
    | cons r rr =>
      cases rr
      obtain ⟨t, rfl⟩ := r
      refine call_enumerate_str fun h' he hit hsz hk => wpAny_pyIter_enum he ?_
      have I2 : Inv X pins σ H1 { s1 with heap := h' } := I1.kept (t' := s1.toks) hk
      refine ⟨s1.heap.objs.size + 1, [s1.heap.objs.size + 1, s1.heap.objs.size], _, _, H1, rfl, I2, turn_enumS (s1.heap.objs.size + 1) s1.heap.objs.size x t, ⟨⟨.none, he⟩, hit, Nat.succ_ne_self _⟩, fun b hb => ?_, q⟩
      have e' : b = s1.heap.objs.size + 1 ∨ b = s1.heap.objs.size := by simpa using hb
      have hle : s1.heap.objs.size ≤ b := by
        rcases e' with z | z
        · rw [z]; exact Nat.le_add_right _ _
        · rw [z]; exact Nat.le_refl _
      exact I1.fpOk hle (I1.hok.fresh hle)
def enumD (n : Nat) : List D → List D
  | [] => []
  | x :: xs => .tup [.int (n : Int), x] :: enumD (n + 1) xs
theorem enumD_len : ∀ (n : Nat) (xs : List D), (enumD n xs).length = xs.length
  | _, [] => rfl
  | n, x :: xs => by rw [enumD, List.length_cons, List.length_cons, enumD_len (n + 1) xs]
theorem enumD_get : ∀ (n : Nat) (xs : List D) (i : Nat) (d : D), xs[i]? = some d → (enumD n xs)[i]? = some (.tup [.int ((n + i : Nat) : Int), d])
  | _, [], i, d, h => by simp at h
  | n, x :: xs, 0, d, h => by
    simp at h
    subst h
    rfl
  | n, x :: xs, i + 1, d, h => by
    rw [enumD, List.getElem?_cons_succ, enumD_get (n + 1) xs i d (by simpa using h)]
    rw [show n + 1 + i = n + (i + 1) by omega]
theorem pair_is {own : Own} {H : Hp} {T : Addr} {x y : V} {d e : D} (o : OwnOk own H) (hT : H T = none) (h1 : Is own H x d) (h2 : Is own H y e) : Is own (upd H T (.tup [x, y])) (.ref T) (.tup [d, e]) :=
  .tup upd_same (o.new hT) (.cons (h1.same (same_new hT)) (.cons (h2.same (same_new hT)) .nil))
theorem walk_enumL {K : PySem.W.Frag} {own : Own} {H1 : Hp} {a : Addr} {vs : List V} {xs : List D} (h1 : H1 a = some (.lst vs)) (n1 : ¬ own a) (a1 : IsAll own H1 vs xs) : WalkE own H1 (Ite K a) (enumD 0 xs) := by
  have hlen := a1.length
  refine ⟨fun i H hi g => ?_, fun H g => ⟨vs, SqL.of (g _ _ h1 n1), by rw [enumD_len]; omega⟩, fun i H v H' hi g y => ?_⟩
  · rw [enumD_len] at hi
    obtain ⟨v, hv⟩ : ∃ v, vs[i]? = some v := ⟨_, List.getElem?_eq_getElem (by omega)⟩
    exact ⟨vs, v, SqL.of (g _ _ h1 n1), hv⟩
  · obtain ⟨T, x, rfl, hT, rfl, hx⟩ := y
    obtain ⟨d, hd, is⟩ := a1.getV (hx vs (SqL.of (g _ _ h1 n1)))
    refine ⟨same_new hT, _, enumD_get 0 xs i d hd, fun own' o k => ?_⟩
    rw [Nat.zero_add]
    exact pair_is o hT (.int _) (is.kp k)
theorem walk_enumS {own : Own} {H1 : Hp} {x : Str} : WalkE own H1 (ItES x) (enumD 0 (DL.signs x)) := by
  have hlen : (DL.signs x).length = x.cps.size := by unfold DL.signs; rw [List.length_map, Array.length_toList]
  refine ⟨fun i H hi g => ?_, fun H g => ?_, fun i H v H' hi g y => ?_⟩
  · rw [enumD_len, hlen] at hi
    exact hi
  · show x.cps.size = (enumD 0 (DL.signs x)).length
    rw [enumD_len, hlen]
  · obtain ⟨T, c, rfl, hT, rfl, hc⟩ := y
    have hd : (DL.signs x)[i]? = some (.str ⟨#[c]⟩) := by
      unfold DL.signs
      rw [List.getElem?_map, Array.getElem?_toList, hc]
      rfl
    refine ⟨same_new hT, _, enumD_get 0 _ i _ hd, fun own' o k => ?_⟩
    rw [Nat.zero_add]
    exact pair_is o hT (.int _) (.str _)
def aEnum (a : AE) : AI := fun δ Γ P X => a δ Γ (fun d Γ1 => match d with
  | .lst xs => P (enumD 0 xs) Γ1
  | .str x => P (enumD 0 (DL.signs x)) Γ1
  | _ => False) X
theorem si_enum {K : PySem.W.Frag} {ta : WX → TE} {ua : AE} (sa : SE ta ua) : SI (fun W => iEnumA K (tCons (ta W) tNil)) (aEnum ua) := fun fr H0 W δ Γ P X h σ H E i R q =>
  sa fr H0 W δ Γ _ X h σ H E i _ fun v d Γ1 H1 k1 i1 is1 p1 => by
    cases d with
    | lst xs =>
      cases is1 with
      | lst h1 n1 a1 => exact .inl ⟨_, _, rfl, SqL.of h1, q _ _ Γ1 H1 k1 i1 (walk_enumL h1 n1 a1) p1⟩
    | str x =>
      cases is1
      exact .inr ⟨x, rfl, q _ _ Γ1 H1 k1 i1 walk_enumS p1⟩
    | _ => exact p1.elim
end AL

set_option Elab.async false
set_option linter.all false
set_option maxRecDepth 100000
set_option maxHeartbeats 4000000
/-! The abstract layer: d.get(k, x), max(a, b), split, replace (a token is out), isinstance of an exception by several classes. -/
namespace AL
open PySem L2 DL PySem.Spec PyProof.Rows
variable [Wd]
/-! ### d.get(k, x) -/
section
variable {X : Cx} {pins : List (Addr × Obj)} {σ : L2.St} {H : Hp} {s : Shared} {a : Addr} {y v z : V} {u r : Value} {o : Option V} {A : Around} {E : Value → Shared → Prop}
theorem getA2 {Q : Value → Shared → Prop} (I : Inv X pins σ H s) (hw : X.w = Wd.w) (hu : A.units + 64 < cLine) (g : DGetA H a y o) (ry : RelV y u) (rz : RelV z r) (h : ∀ w' s', Inv X pins σ H s' → RelV (o.getD z) w' → Q w' s') :
    wpAny (model X.prog X.w) A (call (.builtin "dict.get") [.ref a, u, r]) Q E s := by
  rcases g with ⟨kvs, k, e, rfl, l⟩ | ⟨xs, k, b, e, rfl, eb, l⟩
  · exact d_get2 (by omega) I (.inl ⟨kvs, k, e, rfl, l⟩) ry rz h
  · cases (show u = Value.ref b from ry)
    have ok := I.hok
    rw [hw] at ok
    obtain ⟨z', hd, us, rel, dd⟩ := dn_at ok e
    rw [hw]
    refine call_meetsIn PySem.F.slot_dict_get dd.typeIs PySem.F.entry_dict_get (PySem.F.args_dict_get_3 _ _ _) (meetsH_dict_get_default (nestedKind X.prog Wd.w) a b hd r) ⟨nroom hu, k, us, ky_is ok eb, dd, h _ _ (I.tok _) ?_⟩
    have q : RelO (lkE xs k) ((atKey us k).map (·.2)) := lkE_at rel
    rw [l]
    exact q.getD rz
end
def tDGetA (td ty tx : TE) : TE := fun σ H Q => td σ H fun x H1 => ∃ a, x = .ref a ∧ (∃ ks vs, DRaw H1 a ks vs) ∧ ty σ H1 fun y H2 => tx σ H2 fun z H3 => ∃ o, DGetA H3 a y o ∧ Q (o.getD z) H3
theorem pe_dgetA {X : Cx} {o e f : Expr} {apos cpos : Pos} {td ty tx : TE} (hw : X.w = Wd.w) (hu : X.A.units + 64 < cLine) (ho : PE X o td) (he : PE X e ty) (hf : PE X f tx) (m : M2 X o "get" apos e f cpos) : PE X (.Call (.Attribute o "get" apos) [e, f] [] cpos) (tDGetA td ty tx) := by
  refine ⟨fun pins s σ H Q I h => ?_⟩
  refine wpAny_Call_method m.base m.few m.line PySem.F.plainAttrs_dict PySem.F.slot_dict_get PySem.F.type_dict_get (thn (ho.run pins s σ H _ I h) fun u s1 ⟨x, H1, I1, rx, a, ex, ⟨ks, vs, d⟩, q1⟩ => ?_)
  subst ex
  obtain rfl : u = Value.ref a := rx
  obtain ⟨_, es, ep, dr, _⟩ := raw_at I1 d
  refine ⟨dr.typeIs, (fun b q => by
    cases q
    obtain ⟨ob, h1, h2, _⟩ := dr
    exact ⟨ob, h1, h2.2.1⟩), ?_⟩
  rw [m.trees]
  refine Calls.callWith_builtin rfl (Calls.evalArgs_plain (Calls.spliced_cons (thn (he.run pins s1 σ H1 _ I1 q1) fun iv s2 ⟨y, H2, I2, ry, q2⟩ =>
    Calls.spliced_cons (thn (hf.run pins s2 σ H2 _ I2 q2) fun fv s3 ⟨z, H3, I3, rz, ov, g, q3⟩ => Calls.spliced_nil ?_))))
  exact getA2 I3 hw hu g ry rz fun w' s4 I4 rw' => ⟨_, H3, I4, rw', q3⟩
def aDGet2 (d k x : AE) : AE := fun δ Γ P X => d δ Γ (fun dd Γ1 => isDct (rs Γ1 dd) = true ∧ k δ Γ1 (fun kd Γ2 => x δ Γ2 (fun xd Γ3 => onDct (rs Γ3 dd) fun kvs => okK kvs (rs Γ3 kd) ∧ P ((lkD kvs (rs Γ3 kd)).getD xd) Γ3) X) X) X
theorem se_dget2 {td tk tx : WX → TE} {ud uk ux : AE} (sd : SE td ud) (sk : SE tk uk) (sx : SE tx ux) : SE (fun W => tDGetA (td W) (tk W) (tx W)) (aDGet2 ud uk ux) := fun fr H0 W δ Γ P X h σ H E i Q q =>
  sd fr H0 W δ Γ _ X h σ H E i _ fun v dd Γ1 H1 k1 i1 is1 ⟨hd, p1⟩ => by
    have t1 := rs_ok i1.1 is1
    obtain ⟨kvs0, e0⟩ : ∃ kvs, rs Γ1 dd = .dct kvs := by
      cases e : rs Γ1 dd with
      | dct kvs => exact ⟨kvs, rfl⟩
      | _ => rw [e] at hd; exact absurd hd (by simp [isDct])
    rw [e0] at t1
    obtain ⟨a, ks, vs, rfl, raw, _⟩ := raw_is t1
    refine ⟨a, rfl, ⟨ks, vs, raw⟩, ?_⟩
    refine sk fr H0 W δ Γ1 _ X p1 σ H1 (E.kp k1) i1 _ fun kv kd Γ2 H2 k2 i2 is2 p2 => ?_
    refine sx fr H0 W δ Γ2 _ X p2 σ H2 ((E.kp k1).kp k2) i2 _ fun xv xd Γ3 H3 k3 i3 is3 p3 => ?_
    obtain ⟨kvs, e3, hk, pz⟩ := onDct_iff p3
    have t3 := rs_ok i3.1 ((is1.kp k2).kp k3)
    rw [e3] at t3
    obtain ⟨a', o, ea, g, g1, g2⟩ := getA_of t3 (rs_ok i3.1 (is2.kp k3)) hk
    cases ea
    refine ⟨o, g, ?_⟩
    refine q (o.getD xv) _ Γ3 H3 ((k1.trans k2).trans k3) i3 ?_ pz
    cases e : lkD kvs (rs Γ3 kd) with
    | none =>
      rw [g1 e]
      exact is3
    | some z =>
      obtain ⟨v, ev, isv⟩ := g2 z e
      rw [ev]
      exact isv
/-! ### max(a, b) -/
def rMax2 : List V → Hp → VK → Prop := fun xs H Q => ∃ i j, xs = [.int i, .int j] ∧ Q (.int (if j > i then j else i)) H
theorem call_max2' {X : Cx} (hc : X.calm = true) : CallR X (.builtin "max") rMax2 := call_max2 hc
def cMax2 : AC := fun ds Q => match ds with
  | [.int i, .int j] => Q (.int (max i j))
  | _ => False
theorem so_max2 : SCb rMax2 cMax2 := fun ds Q h => by
  unfold cMax2 at h
  split at h
  · rename_i i j
    refine ⟨_, fun own H vs o hx Q q => ?_, h⟩
    cases hx with
    | cons h1 t =>
      cases t with
      | cons h2 t2 =>
        cases t2
        cases h1
        cases h2
        refine ⟨i, j, rfl, q _ H (Same.refl H) ?_⟩
        have e : (if j > i then j else i) = max i j := by
          rw [Int.max_def]
          split <;> split <;> omega
        rw [e]
        exact .int _
  · exact h.elim
/-! ### s.split(sep) -/
def rSplit : V → List V → Hp → VK → Prop := fun x xs H Q => ∃ a b, x = .str a ∧ xs = [.str b] ∧ (b.length == 0) = false ∧ a.length + 2 ≤ sizeLine ∧ rNewStrs (Txt.split a b) H Q
def tSplit (to te : TE) : TE := tM1 rSplit to te
def aSplit (a b : AE) : AE := fun δ Γ P X => a δ Γ (fun d Γ1 => match d with
  | .str x => b δ Γ1 (fun e Γ2 => match e with
    | .str y => (y.length == 0) = false ∧ x.length + 2 ≤ sizeLine ∧ P (.lst ((Txt.split x y).map D.str)) Γ2
    | _ => False) X
  | _ => False) X
theorem strs_is {own : Own} {H : Hp} : ∀ ys : List Str, IsAll own H (ys.map V.str) (ys.map D.str)
  | [] => .nil
  | y :: ys => .cons (.str y) (strs_is ys)
theorem se_split {ta tb : WX → TE} {ua ub : AE} (sa : SE ta ua) (sb : SE tb ub) : SE (fun W => tSplit (ta W) (tb W)) (aSplit ua ub) := fun fr H0 W δ Γ P X h σ H E i Q q =>
  sa fr H0 W δ Γ _ X h σ H E i _ fun v d Γ1 H1 k1 i1 is1 p1 => by
    cases d with
    | str x =>
      cases is1
      refine ⟨⟨x, rfl⟩, ?_⟩
      refine sb fr H0 W δ Γ1 _ X p1 σ H1 (E.kp k1) i1 _ fun u e Γ2 H2 k2 i2 is2 p2 => ?_
      cases e with
      | str y =>
        cases is2
        obtain ⟨h1, h2, pz⟩ := p2
        refine ⟨x, y, rfl, rfl, h1, h2, fun p hp => ?_⟩
        have s3 := same_new (o := .lst ((Txt.split x y).map V.str)) hp
        exact q (.ref p) _ Γ2 _ ((k1.trans k2).trans (Kp.same s3)) ((JX fr H0 W X).stab _ _ _ i2 s3) (.lst upd_same ((inv_ok i2).new hp) (strs_is _)) pz
      | _ => exact p2.elim
    | _ => exact p1.elim
/-! ### s.replace of written texts -/
def aRepl (y z : Str) (a : AE) : AE := fun δ Γ P X => a δ Γ (fun d Γ1 => match d with
  | .str x => x.length + (x.length + 1) * z.length ≤ 16777216 ∧ P (.str (Txt.replace x y z)) Γ1
  | _ => False) X
theorem se_repl {y z : Str} {ta : WX → TE} {ua : AE} (sa : SE ta ua) : SE (fun W => CwR.tReplC (ta W) y z) (aRepl y z ua) := fun fr H0 W δ Γ P X h σ H E i Q q =>
  sa fr H0 W δ Γ _ X h σ H E i _ fun v d Γ1 H1 k1 i1 is1 p1 => by
    cases d with
    | str x =>
      cases is1
      exact ⟨x, rfl, p1.1, q _ _ Γ1 H1 k1 i1 (.str _) p1.2⟩
    | _ => exact p1.elim
/-! ### a token is out -/
theorem wtok {M : Model} {A : Around} {α : Type} {t : Sem α} {Q Q' : α → Shared → Prop} {E : Value → Shared → Prop} {s : Shared} {n : Nat} (hn : n ≤ s.toks) (h : wpAny M A t Q E s) (k : ∀ a s', n ≤ s'.toks → Q a s' → Q' a s') : wpAny M A t Q' E s :=
  wpAny_mono (PySem.wpAny_toks_of hn h) (fun a s' x => k a s' x.1 x.2) fun _ _ x => x.2
section
variable {X : Cx}
def PTT (X : Cx) (e : Expr) (t : TT) : Prop :=
  ∀ (pins : List (Addr × Obj)) (s : Shared) (σ : L2.St) (H : Hp) (Q : Bool → Hp → Prop), 1 ≤ s.toks → Inv X pins σ H s → t σ H Q → wpAny (model X.prog X.w) X.A (isTrue e X.env (eval e X.env)) (TP X pins σ Q) X.xe s
def PWT (X : Cx) (e : Expr) (t : TT) : Prop :=
  ∀ (whole : Sem Value) (pins : List (Addr × Obj)) (s : Shared) (σ : L2.St) (H : Hp) (Q : Bool → Hp → Prop), 1 ≤ s.toks → Inv X pins σ H s → t σ H Q → wpAny (model X.prog X.w) X.A (isTrue e X.env whole) (TP X pins σ Q) X.xe s
theorem PTT.of {e : Expr} {t : TT} (h : PT X e t) : PTT X e t := fun pins s σ H Q _ I q => h.run pins s σ H Q I q
theorem PWT.ptt {e : Expr} {t : TT} (h : PWT X e t) : PTT X e t := fun pins s σ H Q h0 I q => h _ pins s σ H Q h0 I q
theorem pwt_and1 {a : Expr} {tA : TT} {pos : Pos} (ha : PTT X a tA) : PWT X (.BoolOp .And [a] pos) tA := fun wh pins s σ H Q h0 I h => by
  refine isTrue_and (thn (ha pins s σ H Q h0 I h) fun c s1 e => ?_)
  cases c with
  | true => exact isTrue_and_nil e
  | false => exact e
theorem pwt_and {a b : Expr} {rest : List Expr} {tA tB' : TT} {pos : Pos} (ha : PTT X a tA) (hb : PWT X (.BoolOp .And (b :: rest) pos) tB') : PWT X (.BoolOp .And (a :: b :: rest) pos) (tAnd tA tB') := fun wh pins s σ H Q h0 I h => by
  refine isTrue_and (wtok h0 (ha pins s σ H _ h0 I h) fun c s1 k ⟨H1, I1, q1⟩ => ?_)
  cases c with
  | true => exact hb wh pins s1 σ H1 Q k I1 q1
  | false => exact ⟨H1, I1, q1⟩
theorem ptt_cmpR {a b : Expr} {ta tb : TE} {pos : Pos} {op : CmpOp} {r : R2} (ho : OpR X (compareOp op) r) (ha : PET X a ta) (hb : PET X b tb) (hm : behindInMarks op b = false) : PTT X (.Compare a [op] [b] pos) (tTest (tOp r ta tb)) := fun pins s σ H Q h0 I h => by
  refine wpAny_isTrue_Compare1 (wtok h0 (ha pins s σ H _ h0 I h) fun v s1 k1 ⟨x, H1, I1, r1, q1⟩ => wtok k1 (hb pins s1 σ H1 _ k1 I1 q1) fun u s2 k2 ⟨y, H2, I2, r2, q2⟩ =>
    thn (ho pins s2 σ H2 x y v u _ I2 r1 r2 q2) fun c s3 ⟨z, H3, I3, r3, k, e, q3⟩ => ?_) hm
  subst e
  cases r3
  exact wpAny_truthy_bool ⟨H3, I3, q3⟩
theorem pst_ifT {c : Expr} {a b : List Stmt} {tc : TT} {t u : TS} {pos : Pos} (hc : PTT X c tc) (ha : PSsT X a t) (hb : PSsT X b u) : PST X (.If c a b pos) (tIfS tc t u) := fun pins s σ H D h0 I h => by
  refine wpAny_If (wtok h0 (hc pins s σ H _ h0 I h) fun d s1 k ⟨H1, I1, q1⟩ => ?_)
  cases d with
  | true => exact ha pins s1 σ H1 D k I1 q1
  | false => exact hb pins s1 σ H1 D k I1 q1
theorem pst_set {i : Nat} {x : Str} {e : Expr} {te : TE} {pos' pos : Pos} (hN : X.N.Nodup) (hi : X.N[i]? = some x) (hx : Loc X.env.scope x) (he : PET X e te) (hs : swapsWith e (some (.Name x pos')) pos.line X.env = pure false := by rfl) (hf : X.fn x = true ∨ X.env.scope.names.lookup x = some .local := by first | exact .inl rfl | exact .inr rfl | assumption) :
    PST X (.Assign [.Name x pos'] e pos) (tAsg te (gName i)) := fun pins s σ H D h0 I h => by
  refine wpAny_Assign_Name (thn (he pins s σ H _ h0 I h) fun v s1 ⟨y, H1, I1, r1, q1⟩ => ?_) hs
  exact store_ok I1 hN hi hx r1 (fun s2 I2 => ⟨_, H1, I2, q1⟩) hf
theorem pet_split {o e : Expr} {to te : TE} {apos pos : Pos} (ho : PET X o to) (he : PE X e te) (hs : starEach [e] X.env = [(false, eval e X.env)] := by rfl) (hbase : attributeBase o "split" X.env (eval o X.env) = eval o X.env := by rfl) (hline : (apos.endLine == pos.line) = true := by rfl) :
    PET X (.Call (.Attribute o "split" apos) [e] [] pos) (tSplit to te) := fun pins s σ H Q h0 I h => by
  refine PySem.Call_method1 hbase hs hline (thn (ho pins s σ H _ h0 I h) fun v s1 ⟨x, H1, I1, r1, q1⟩ => ?_)
  obtain ⟨⟨a, rfl⟩, q1⟩ := q1
  obtain ⟨t, rfl⟩ := _root_.id r1
  refine ⟨"str", _, F.plainAttrs_str, F.slot_str_split, F.type_str_split, typeIs_str _ _ _, (fun _ e => nomatch e), Calls.callWith_builtin rfl (Calls.evalArgs_plain (Calls.spliced_cons ?_))⟩
  exact thn (he.run pins s1 σ H1 _ I1 q1) fun u s2 ⟨y, H2, I2, r2, q2⟩ => Calls.spliced_nil (mt_split pins s2 σ H2 _ [y] _ [u] Q I2 r1 (.cons r2 .nil) q2)
/-- (i, ..) = (1, ..): behind it a token is out -/
theorem pss_tupT {tg : Expr} {es : List Expr} {ta : TA} {g : TG} {i : Int} {j k : Nat} {q pt pos : Pos} {rest : List Stmt} {u : TS} (ha : PA X es ta) (hg : PG X tg g) (h2 : PSsT X rest u) (hst : starEach (.Constant (.int i) j q :: es) X.env = (false, eval (.Constant (.int i) j q) X.env) :: starEach es X.env := by rfl)
    (hs : swapsWithSole [tg] (.Tuple (.Constant (.int i) j q :: es) k pt) pos.line X.env = pure false := by rfl) (hw : swappedStores [tg] (.Tuple (.Constant (.int i) j q :: es) k pt) X.env = pure none := by rfl)
    (h1 : (assignEach [tg] X.env).map (·.2) = [assign tg X.env] := by rfl) : PSs X (.Assign [tg] (.Tuple (.Constant (.int i) j q :: es) k pt) pos :: rest) (tSeq (tAsg (tTup (tCons (tC (.int i)) ta)) g) u) := by
  refine ⟨fun pins s σ H D I h => ?_⟩
  refine wpAny_execs_cons (wpAny_Assign_stores (wpAny_Tuple_spliced ?_) hs hw)
  rw [hst]
  show wpAny _ _ (spliced ((false, eval (.Constant (.int i) j q) X.env) :: backTo pt (starEach es X.env))) _ _ s
  refine Calls.spliced_cons (wpAny_Constant_int ?_)
  refine wtok (n := 1) (by show 1 ≤ s.toks + 1; omega) (ha.run pt pins { s with toks := s.toks + 1 } σ H _ (I.tok _) h) fun us s1 k1 ⟨xs, H1, I1, r, z, qq⟩ => ?_
  refine ⟨by show (us.length + 1) ≤ sizeLine; rw [← r.length]; exact z, ?_⟩
  have hf : H1 s1.heap.objs.size = none := I1.hok.fresh (Nat.le_refl _)
  have I2 : Inv X pins σ (upd H1 s1.heap.objs.size (.tup (.int i :: xs))) { s1 with heap := s1.heap.push { cls := .type "tuple", data := .seq (Value.int i s.toks :: us).toArray } } := I1.laid (t' := s1.toks) (fun b u e => Heap.get?_push_of_some _ e) (Nat.le_refl _) ⟨z, Value.int i s.toks :: us, .cons ⟨_, rfl⟩ r, ⟨_, Heap.get?_push_size _ rfl, rfl, _, rfl⟩⟩
  rw [h1]
  refine wtok (n := 1) (by exact k1) (hg.run pins _ σ _ (.ref s1.heap.objs.size) _ _ I2 rfl (qq _ hf)) fun _ s3 k3 ⟨σ', H', I3, q3⟩ => ?_
  exact h2 pins s3 σ' H' D k3 I3 q3
/-- an iterable: behind it a token is out -/
def PIS (X : Cx) (tg iter : Expr) (wi : TI) : Prop :=
  ∀ (pins : List (Addr × Obj)) (s : Shared) (σ : L2.St) (H : Hp) (R : It → Hp → Prop), Inv X pins σ H s → wi σ H R →
    wpAny (model X.prog X.w) X.A (eval iter X.env) (fun v s1 => wpAny (model X.prog X.w) X.A (pyIter v) (fun v s2 => 1 ≤ s2.toks ∧ PIE X pins σ tg R v s2) X.xe s1) X.xe s
theorem pis_rangeC {tg : Expr} {n : Int} {j : Nat} {p q pos : Pos} (hg : Gl X "range") (hm : X.mg "range" = none) : PIS X tg (.Call (.Name "range" p) [.Constant (.int n) j q] [] pos) (iRng1 (tCons (tC (.int n)) tNil)) := fun pins s σ H R I h => by
  refine Call_ (ld_blt I hg hm boot_range (PyProof.Rows.callWith_type1 ?_ (he := rfl) (hplain := rfl)))
  show wpAny _ _ (spliced ((false, eval (.Constant (.int n) j q) X.env) :: _)) _ _ s
  refine Calls.spliced_cons (wpAny_Constant_int (Calls.spliced_nil ?_))
  obtain ⟨j', e, q1, q2, q⟩ := h
  cases e
  refine call_range_1 ?_
  exact wtok (n := 1) (by show 1 ≤ _; simp) (range_it (tg := tg) (I.tok (s.toks + 1)) (by omega) (by omega) q1 q2 (by simpa using q)) fun a s' k z => ⟨k, z⟩
theorem ps_forT {tg iter : Expr} {body : List Stmt} {wi : TI} {g : TG} {tb : TS} {pos : Pos} (hp : PassesOwn (model X.prog X.w) X.A X.env X.xe) (hc : X.calm = true) (hi : PIS X tg iter wi) (hg : PG X tg g) (hb : PSsT X body tb)
    (hs : ∀ x, foldedSetIterable iter X.env x = pure x := by intro _; rfl) : PS X (.For tg iter body [] pos) (tFor wi g tb) := by
  refine ⟨fun pins s σ H D I h => ?_⟩
  refine wpAny_For (thn (hi pins s σ H _ I h) fun v s1 h1 => thn h1 fun itv s2 h2 => ?_) hs
  obtain ⟨k2, it, fp, tn, J, H2, e, I2, T, st2, f2, W, ⟨m0, w0⟩, turn⟩ := h2
  subst e
  have stat : ∀ {H' : Hp}, (∀ b ∈ fp, H' b = none) → ∀ b ∈ fp, FpOk X pins H' b := fun hn b hb => ⟨hn b hb, (f2 b hb).2⟩
  refine codeAny_forLoop_any (fun n s' => 1 ≤ s'.toks ∧ ∃ i σ' H', Inv X pins σ' H' s' ∧ tn i s'.heap ∧ (∀ b ∈ fp, H' b = none) ∧ W i n σ' H') ?_ m0 ⟨k2, 0, σ, H2, I2, st2, fun b hb => (f2 b hb).1, w0⟩
  rintro n s3 ⟨k3, i, σ3, H3, I3, st3, fr3, w3⟩
  rcases turn i n σ3 H3 w3 with ⟨stop, qn⟩ | ⟨go, N, hN, step⟩
  · refine wpAny_passesOwn hp (thn (T.done X rfl rfl rfl hc i pins s3 σ3 H3 X.xe I3 (stat fr3) st3 stop) fun r s4 ⟨hr, I4⟩ => ?_)
    subst hr
    exact wpAny_execs_nil ⟨σ3, H3, I4, qn⟩
  · refine wpAny_passesOwn hp (wtok k3 (T.item X rfl rfl rfl hc i pins s3 σ3 H3 X.xe I3 (stat fr3) st3 go) fun r s4 k4 ⟨u, hr, h4⟩ => ?_)
    subst hr
    refine wpAny_passesOwn hp (wtok k4 h4 fun _ s5 k5 ⟨x, H5, I5, r5, y5, st5, fr5⟩ => ?_)
    have I5' := I5.pinned (stat fr5) (T.obj _ _ st5)
    refine wpAny_passesOwn hp (wtok k5 (hg.run _ s5 σ3 H5 x u _ I5' r5 (step x H5 y5)) fun _ s6 k6 ⟨σ6, H6, I6, q6⟩ => ?_)
    refine wpAny_passesOwn hp (wtok k6 (hb _ s6 σ6 H6 _ k6 I6 q6) fun f s7 k7 q7 => ?_)
    have again : ∀ {σ7 : L2.St} {H7 : Hp}, Inv X (pins ++ pinsAt fp s5.heap) σ7 H7 s7 → N σ7 H7 → ∃ m, m < n ∧ 1 ≤ s7.toks ∧ ∃ i σ' H', Inv X pins σ' H' s7 ∧ tn i s7.heap ∧ (∀ b ∈ fp, H' b = none) ∧ W i m σ' H' := fun {σ7 H7} I7 n7 => by
      obtain ⟨m', hm, w7⟩ := hN σ7 H7 n7
      refine ⟨m', hm, k7, i + 1, σ7, H7, I7.unpinned, T.keep _ _ _ st5 fun b hb o e => (I7.pin (b, o) (List.mem_append_right _ (List.mem_append_right _ (mem_pinsAt hb e)))).1, fun b hb => ?_, w7⟩
      obtain ⟨o, e, d⟩ := T.obj _ _ st5 b hb
      exact (I7.pin (b, o) (List.mem_append_right _ (List.mem_append_right _ (mem_pinsAt hb e)))).2.1
    cases f with
    | next => obtain ⟨σ7, H7, I7, n7⟩ := q7; exact again I7 n7
    | cont => obtain ⟨σ7, H7, I7, n7⟩ := q7; exact again I7 n7
    | brk => obtain ⟨σ7, H7, I7, q7⟩ := q7; exact ⟨σ7, H7, I7.unpinned, q7⟩
    | ret v => obtain ⟨x7, σ7, H7, I7, r7, q7⟩ := q7; exact ⟨x7, σ7, H7, I7.unpinned, r7, q7⟩
/-! ### isinstance(e, (C1, ..)) of a caught exception -/
def rIsCT (K : PySem.W.Frag) : List V → Hp → VK → Prop := fun xs H Q => ∃ (a c tp : Addr) (dd : Option Addr) (cs : List V) (us : List Value) (b : Bool), xs = [.ref a, .ref tp] ∧ H a = some (Caught (.ref c) dd a) ∧ (∀ d, dd = some d → ∃ fs, H d = some (.xd fs)) ∧ ExcC K c ∧ H tp = some (.tup cs) ∧ Paired ClsV cs us ∧ PySem.W.kitAny K (.ref c) us = some b ∧ Q (.bl b) H
theorem call_isCT : CallR X (.builtin "isinstance") (rIsCT X.K) := by
  intro pins s σ H xs us Q I r h
  obtain ⟨a, c, tp, dd, cs, ws, b, rfl, ha, hd, C, hT, k, e, q⟩ := h
  obtain ⟨u1, u2, rfl, r1, r2⟩ := vals2 r
  cases (show u1 = Value.ref a from r1)
  cases (show u2 = Value.ref tp from r2)
  obtain ⟨_, its, rv, o, h1, h2, n, h3⟩ := (show ObjOk X.prog X.w H s.heap tp (.tup cs) from I.hok tp _ hT)
  have e3 := ClsV.all k rv
  subst e3
  obtain ⟨oc, od, dt, sl⟩ := o
  simp only at h2 h3
  subst h2 h3
  exact PySem.W.kia_tup (kit_exc C) I.kIn (inst_caught I ha hd) h1 e (fun z => nomatch z) fun tk => ⟨.bl b, H, I.tok tk, rfl, q⟩
end
/-- a tuple of own classes -/
def refsD : List D → Option (List Addr)
  | [] => some []
  | .ref c :: ds => (refsD ds).map (c :: ·)
  | _ :: _ => none
theorem refsD_is {own : Own} {H : Hp} : ∀ {ds : List D} {ns : List Addr} {vs : List V}, IsAll own H vs ds → refsD ds = some ns → Paired ClsV vs (ns.map Value.ref)
  | [], ns, _, h, e => by
    cases h
    cases e
    exact .nil
  | .ref n :: ds, ns, _, h, e => by
    unfold refsD at e
    cases e1 : refsD ds with
    | none => rw [e1] at e; cases e
    | some ms =>
      rw [e1] at e
      cases e
      cases h with
      | cons h1 h2 =>
        cases h1
        exact .cons (.own n) (refsD_is h2 e1)
  | .non :: _, _, _, _, h => by cases h
  | .bl _ :: _, _, _, _, h => by cases h
  | .int _ :: _, _, _, _, h => by cases h
  | .str _ :: _, _, _, _, h => by cases h
  | .tup _ :: _, _, _, _, h => by cases h
  | .lst _ :: _, _, _, _, h => by cases h
  | .dct _ :: _, _, _, _, h => by cases h
  | .ty _ :: _, _, _, _, h => by cases h
  | .exc0 _ :: _, _, _, _, h => by cases h
  | .exc1 _ _ _ :: _, _, _, _, h => by cases h
/-- isinstance(a, (C1, ..)) of an exception -/
def aIsiT (K : PySem.W.Frag) (a b : AE) : AE := fun δ Γ P X => a δ Γ (fun d Γ1 => b δ Γ1 (fun e Γ2 => match d, e with
  | .exc0 c, .tup ts => ExcC K c ∧ ∃ ns z, refsD ts = some ns ∧ PySem.W.kitAny K (.ref c) (ns.map Value.ref) = some z ∧ P (.bl z) Γ2
  | .exc1 c _ _, .tup ts => ExcC K c ∧ ∃ ns z, refsD ts = some ns ∧ PySem.W.kitAny K (.ref c) (ns.map Value.ref) = some z ∧ P (.bl z) Γ2
  | _, _ => False) X) X
theorem se_isiT {K : PySem.W.Frag} {ta tb : WX → TE} {ua ub : AE} (sa : SE ta ua) (sb : SE tb ub) : SE (fun W => tCB (rIsCT K) (tCons (ta W) (tCons (tb W) tNil))) (aIsiT K ua ub) := fun fr H0 W δ Γ P X h σ H E i Q q =>
  sa fr H0 W δ Γ _ X h σ H E i _ fun v d Γ1 H1 k1 i1 is1 p1 => sb fr H0 W δ Γ1 _ X p1 σ H1 (E.kp k1) i1 _ fun u e Γ2 H2 k2 i2 is2 p2 => by
    have fin := fun (z : Bool) (pz : P (.bl z) Γ2) => q (.bl z) (.bl z) Γ2 H2 (k1.trans k2) i2 (.bl z) pz
    split at p2
    · obtain ⟨hc, ns, z, e1, e2, pz⟩ := p2
      cases is2 with
      | tup g1 n1 a1 =>
        cases is1.kp k2 with
        | exc0 ha n => exact ⟨_, _, _, none, _, _, z, rfl, ha, (fun x y => by cases y), hc, g1, refsD_is a1 e1, e2, fin z pz⟩
    · obtain ⟨hc, ns, z, e1, e2, pz⟩ := p2
      cases is2 with
      | tup g1 n1 a1 =>
        cases is1.kp k2 with
        | exc1 ha n hx m iy => exact ⟨_, _, _, _, _, _, z, rfl, ha, (fun x y => by cases y; exact ⟨_, hx⟩), hc, g1, refsD_is a1 e1, e2, fin z pz⟩
    · exact p2.elim
end AL

set_option Elab.async false
set_option linter.all false
set_option maxRecDepth 100000
set_option maxHeartbeats 4000000
/-! Readings, abstract bodies and their soundness (printed by gen3.py). -/
namespace LM
open PySem L2 DL AL
variable [Wd]
def t__law_next (K : PySem.W.Frag) (cs : Cs) (W : WX) : TS :=
  (tSeq (tAsg (tOp (rInB K) (tVar 1) (tC (.str "abcdefghijklmnopqrstuvwxyz"))) (gName 4)) (tSeq (tIfS (tTest (tOp (rEqB K) (tVar 0) (tC (.str "begin")))) (tSeq (tIfS (tOr (tB (tVar 4)) (tTest (tOp (rEqB K) (tVar 1) (tC (.str "?"))))) (tRet (tIf (tB (tVar 4)) (tTup (tCons (tC (.str "name")) (tCons (tC (.int 1)) (tCons (tC (.int 0)) tNil)))) (tTup (tCons (tC (.str "mark")) (tCons (tC (.int 0)) (tCons (tC (.int 0)) tNil)))))) tNext) (tRet (tIf (tTest (tOp (rEqB K) (tVar 1) (tC (.str " ")))) (tTup (tCons (tC (.str "begin")) (tCons (tC (.int 0)) (tCons (tC (.int 0)) tNil)))) (tC .non)))) tNext) (tSeq (tIfS (tAnd (tTest (tOp (rInB K) (tVar 0) (tTup (tCons (tC (.str "mark")) (tCons (tC (.str "hole")) tNil))))) (tB (tVar 4))) (tRet (tIf (tTest (tOp (rLtB K) (tVar 2) (tC (.int 4)))) (tTup (tCons (tC (.str "hole")) (tCons (tOp (rAddA K) (tVar 2) (tC (.int 1))) (tCons (tC (.int 0)) tNil)))) (tC .non))) tNext) (tSeq (tIfS (tTest (tOp (rEqB K) (tVar 0) (tC (.str "mark")))) (tRet (tC .non)) tNext) (tSeq (tIfS (tAnd (tTest (tOp (rEqB K) (tVar 0) (tC (.str "name")))) (tB (tVar 4))) (tRet (tIf (tTest (tOp (rLtB K) (tVar 2) (tC (.int 8)))) (tTup (tCons (tC (.str "name")) (tCons (tOp (rAddA K) (tVar 2) (tC (.int 1))) (tCons (tC (.int 0)) tNil)))) (tC .non))) tNext) (tSeq (tIfS (tTest (tOp (rEqB K) (tVar 1) (tC (.str " ")))) (tRet (tTup (tCons (tIf (tTest (tOp (rInB K) (tVar 0) (tTup (tCons (tC (.str "hole")) (tCons (tC (.str "behind")) tNil))))) (tC (.str "behind")) (tC (.str "head"))) (tCons (tC (.int 0)) (tCons (tC (.int 0)) tNil))))) tNext) (tSeq (tIfS (tAnd (tTest (tOp (rEqB K) (tVar 1) (tC (.str "(")))) (tTest (tOp (rInB K) (tVar 0) (tTup (tCons (tC (.str "name")) (tCons (tC (.str "head")) tNil)))))) (tRet (tTup (tCons (tC (.str "begin")) (tCons (tC (.int 0)) (tCons (tC (.int 1)) tNil))))) tNext) (tSeq (tIfS (tAnd (tTest (tOp (rEqB K) (tVar 1) (tC (.str ",")))) (tAnd (tTest (tOp (rNeB K) (tVar 3) (tLst tNil))) (tTest (tOp (rLtB K) (tOp (rIxB K) (tVar 3) (tUn (rU fun i => .int (-i)) (tC (.int 1)))) (tC (.int 3)))))) (tRet (tTup (tCons (tC (.str "begin")) (tCons (tC (.int 0)) (tCons (tC (.int 2)) tNil))))) tNext) (tRet (tIf (tAnd (tTest (tOp (rEqB K) (tVar 1) (tC (.str ")")))) (tTest (tOp (rNeB K) (tVar 3) (tLst tNil)))) (tTup (tCons (tC (.str "behind")) (tCons (tC (.int 0)) (tCons (tUn (rU fun i => .int (-i)) (tC (.int 1))) tNil)))) (tC .non)))))))))))
def u__law_next_8 (K : PySem.W.Frag) (cs : Cs) : AS :=
  (aRet (aIf (aAnd (aTest (aOp oEqB (aVar 1) (aC (.str ")")))) (aTest (aOp oNeB (aVar 3) (aLst aNil)))) (aTup (aCons (aC (.str "behind")) (aCons (aC (.int 0)) (aCons (aUn oNeg (aC (.int 1))) aNil)))) (aC .non)))
def u__law_next_7 (K : PySem.W.Frag) (cs : Cs) : AS :=
  (aSeq (aIfS (aAnd (aTest (aOp oEqB (aVar 1) (aC (.str ",")))) (aAnd (aTest (aOp oNeB (aVar 3) (aLst aNil))) (aTest (aOp oLtB (aOp oIxB (aVar 3) (aUn oNeg (aC (.int 1)))) (aC (.int 3)))))) (aRet (aTup (aCons (aC (.str "begin")) (aCons (aC (.int 0)) (aCons (aC (.int 2)) aNil))))) aNext)
    (u__law_next_8 K cs))
def u__law_next_6 (K : PySem.W.Frag) (cs : Cs) : AS :=
  (aSeq (aIfS (aAnd (aTest (aOp oEqB (aVar 1) (aC (.str "(")))) (aTest (aOp oInB (aVar 0) (aTup (aCons (aC (.str "name")) (aCons (aC (.str "head")) aNil)))))) (aRet (aTup (aCons (aC (.str "begin")) (aCons (aC (.int 0)) (aCons (aC (.int 1)) aNil))))) aNext)
    (u__law_next_7 K cs))
def u__law_next_5 (K : PySem.W.Frag) (cs : Cs) : AS :=
  (aSeq (aIfS (aTest (aOp oEqB (aVar 1) (aC (.str " ")))) (aRet (aTup (aCons (aIf (aTest (aOp oInB (aVar 0) (aTup (aCons (aC (.str "hole")) (aCons (aC (.str "behind")) aNil))))) (aC (.str "behind")) (aC (.str "head"))) (aCons (aC (.int 0)) (aCons (aC (.int 0)) aNil))))) aNext)
    (u__law_next_6 K cs))
def u__law_next_4 (K : PySem.W.Frag) (cs : Cs) : AS :=
  (aSeq (aIfS (aAnd (aTest (aOp oEqB (aVar 0) (aC (.str "name")))) (aTest (aVar 4))) (aRet (aIf (aTest (aOp oLtB (aVar 2) (aC (.int 8)))) (aTup (aCons (aC (.str "name")) (aCons (aOp oAdd (aVar 2) (aC (.int 1))) (aCons (aC (.int 0)) aNil)))) (aC .non))) aNext)
    (u__law_next_5 K cs))
def u__law_next_3 (K : PySem.W.Frag) (cs : Cs) : AS :=
  (aSeq (aIfS (aTest (aOp oEqB (aVar 0) (aC (.str "mark")))) (aRet (aC .non)) aNext)
    (u__law_next_4 K cs))
def u__law_next_2 (K : PySem.W.Frag) (cs : Cs) : AS :=
  (aSeq (aIfS (aAnd (aTest (aOp oInB (aVar 0) (aTup (aCons (aC (.str "mark")) (aCons (aC (.str "hole")) aNil))))) (aTest (aVar 4))) (aRet (aIf (aTest (aOp oLtB (aVar 2) (aC (.int 4)))) (aTup (aCons (aC (.str "hole")) (aCons (aOp oAdd (aVar 2) (aC (.int 1))) (aCons (aC (.int 0)) aNil)))) (aC .non))) aNext)
    (u__law_next_3 K cs))
def u__law_next_1 (K : PySem.W.Frag) (cs : Cs) : AS :=
  (aSeq (aIfS (aTest (aOp oEqB (aVar 0) (aC (.str "begin")))) (aSeq (aIfS (aOr (aTest (aVar 4)) (aTest (aOp oEqB (aVar 1) (aC (.str "?"))))) (aRet (aIf (aTest (aVar 4)) (aTup (aCons (aC (.str "name")) (aCons (aC (.int 1)) (aCons (aC (.int 0)) aNil)))) (aTup (aCons (aC (.str "mark")) (aCons (aC (.int 0)) (aCons (aC (.int 0)) aNil)))))) aNext)
    (aRet (aIf (aTest (aOp oEqB (aVar 1) (aC (.str " ")))) (aTup (aCons (aC (.str "begin")) (aCons (aC (.int 0)) (aCons (aC (.int 0)) aNil)))) (aC .non)))) aNext)
    (u__law_next_2 K cs))
def u__law_next (K : PySem.W.Frag) (cs : Cs) : AS :=
  (aSeq (aAsg (aOp oInB (aVar 1) (aC (.str "abcdefghijklmnopqrstuvwxyz"))) (agN 4))
    (u__law_next_1 K cs))
theorem ss__law_next {K : PySem.W.Frag} {cs : Cs} : SS (fun W => t__law_next K cs W) (u__law_next K cs) := by
  delta t__law_next u__law_next
  exact (ss_seq (ss_asg (vs := [4]) (se_op so_inB se_var se_str) ag_mono (sg_name (by decide)))
    (ss_seq (ss_ifS (st_test (se_op so_eqB se_var se_str)) (ss_seq (ss_ifS (st_or (st_B se_var) (st_test (se_op so_eqB se_var se_str))) (ss_ret (se_if (st_B se_var) (se_tup (sa_cons se_str (sa_cons se_int (sa_cons se_int sa_nil)))) (se_tup (sa_cons se_str (sa_cons se_int (sa_cons se_int sa_nil)))))) ss_next)
    (ss_ret (se_if (st_test (se_op so_eqB se_var se_str)) (se_tup (sa_cons se_str (sa_cons se_int (sa_cons se_int sa_nil)))) se_non))) ss_next)
    (ss_seq (ss_ifS (st_and (st_test (se_op so_inB se_var (se_tup (sa_cons se_str (sa_cons se_str sa_nil))))) (st_B se_var)) (ss_ret (se_if (st_test (se_op so_ltB se_var se_int)) (se_tup (sa_cons se_str (sa_cons (se_op so_add se_var se_int) (sa_cons se_int sa_nil)))) se_non)) ss_next)
    (ss_seq (ss_ifS (st_test (se_op so_eqB se_var se_str)) (ss_ret se_non) ss_next)
    (ss_seq (ss_ifS (st_and (st_test (se_op so_eqB se_var se_str)) (st_B se_var)) (ss_ret (se_if (st_test (se_op so_ltB se_var se_int)) (se_tup (sa_cons se_str (sa_cons (se_op so_add se_var se_int) (sa_cons se_int sa_nil)))) se_non)) ss_next)
    (ss_seq (ss_ifS (st_test (se_op so_eqB se_var se_str)) (ss_ret (se_tup (sa_cons (se_if (st_test (se_op so_inB se_var (se_tup (sa_cons se_str (sa_cons se_str sa_nil))))) se_str se_str) (sa_cons se_int (sa_cons se_int sa_nil))))) ss_next)
    (ss_seq (ss_ifS (st_and (st_test (se_op so_eqB se_var se_str)) (st_test (se_op so_inB se_var (se_tup (sa_cons se_str (sa_cons se_str sa_nil)))))) (ss_ret (se_tup (sa_cons se_str (sa_cons se_int (sa_cons se_int sa_nil))))) ss_next)
    (ss_seq (ss_ifS (st_and (st_test (se_op so_eqB se_var se_str)) (st_and (st_test (se_op so_neB se_var (se_lst sa_nil))) (st_test (se_op so_ltB (se_op so_ixB se_var (se_un so_neg se_int)) se_int)))) (ss_ret (se_tup (sa_cons se_str (sa_cons se_int (sa_cons se_int sa_nil))))) ss_next)
    (ss_ret (se_if (st_and (st_test (se_op so_eqB se_var se_str)) (st_test (se_op so_neB se_var (se_lst sa_nil)))) (se_tup (sa_cons se_str (sa_cons se_int (sa_cons (se_un so_neg se_int) sa_nil)))) se_non))))))))))

def t__law_walk (K : PySem.W.Frag) (cs : Cs) (F__law_next : AF) (W : WX) : TS :=
  (tSeq (tPar3 1 2 3 (tCons (tC (.str "begin")) (tCons (tC (.int 0)) (tCons (tLst tNil) tNil)))) (tSeq (tFor (iEnumA K (tCons (tVar 0) tNil)) (gTup K 2 (gCons (gName 4) (gCons (gName 5) gNil))) (tSeq (tAsg (tCallS (spA F__law_next) (WE W) (tCons (tVar 1) (tCons (tVar 5) (tCons (tVar 2) (tCons (tVar 3) tNil))))) (gName 6)) (tSeq (tIfS (tTest (tOp rIsN (tVar 6) (tC .non))) (tRet (tTup (tCons (tVar 4) (tCons (tC (.bl false)) tNil)))) tNext) (tSeq (tAsg (tVar 6) (gTup K 3 (gCons (gName 1) (gCons (gName 2) (gCons (gName 7) gNil))))) (tSeq (tIfS (tTest (tOp (rEqB K) (tVar 7) (tC (.int 1)))) (tDrop (tBM K "list" rAppend (tVar 3) (tCons (tC (.int 1)) tNil))) tNext) (tSeq (tIfS (tTest (tOp (rEqB K) (tVar 7) (tC (.int 2)))) (tAsg (tOp (rAddA K) (tOp (rIxB K) (tVar 3) (tUn (rU fun i => .int (-i)) (tC (.int 1)))) (tC (.int 1))) (gSub (tVar 3) (tUn (rU fun i => .int (-i)) (tC (.int 1))) rSetB)) tNext) (tIfS (tTest (tOp (rEqB K) (tVar 7) (tUn (rU fun i => .int (-i)) (tC (.int 1))))) (tDrop (tBM0 K "list" rPop (tVar 3))) tNext))))))) (tRet (tTup (tCons (tC .non) (tCons (tAndV (tOp (rInB K) (tVar 1) (tTup (tCons (tC (.str "name")) (tCons (tC (.str "head")) (tCons (tC (.str "hole")) (tCons (tC (.str "behind")) tNil)))))) (tOp (rEqB K) (tVar 3) (tLst tNil))) tNil))))))
def u__law_walk (K : PySem.W.Frag) (cs : Cs) (F__law_next : AF) : AS :=
  (aSeq (aPar3 1 2 3 (aCons (aC (.str "begin")) (aCons (aC (.int 0)) (aCons (aLstO aNil) aNil))))
    (aSeq (aFor (aEnum (aVar 0)) (agT 2 (agCons (agN 4) (agCons (agN 5) agNil))) (aSeq (aAsg (aCall F__law_next (aCons (aVar 1) (aCons (aVar 5) (aCons (aVar 2) (aCons (aVar 3) aNil))))) (agN 6))
    (aSeq (aIfS (aTest (aOp oIsN (aVar 6) (aC .non))) (aRet (aTup (aCons (aVar 4) (aCons (aC (.bl false)) aNil)))) aNext)
    (aSeq (aAsg (aVar 6) (agT 3 (agCons (agN 1) (agCons (agN 2) (agCons (agN 7) agNil)))))
    (aSeq (aIfS (aTest (aOp oEqB (aVar 7) (aC (.int 1)))) (aDrop (aMu mAppend (aVar 3) (aCons (aC (.int 1)) aNil))) aNext)
    (aSeq (aIfS (aTest (aOp oEqB (aVar 7) (aC (.int 2)))) (aSetI (aOp oAdd (aOp oIxB (aVar 3) (aUn oNeg (aC (.int 1)))) (aC (.int 1))) (aVar 3) (aUn oNeg (aC (.int 1)))) aNext)
    (aIfS (aTest (aOp oEqB (aVar 7) (aUn oNeg (aC (.int 1))))) (aDrop (aMu mPop (aVar 3) aNil)) aNext)))))))
    (aRet (aTup (aCons (aC .non) (aCons (aAndV (aOp oInB (aVar 1) (aTup (aCons (aC (.str "name")) (aCons (aC (.str "head")) (aCons (aC (.str "hole")) (aCons (aC (.str "behind")) aNil)))))) (aOp oEqB (aVar 3) (aLst aNil))) aNil))))))
theorem ss__law_walk {K : PySem.W.Frag} {cs : Cs} {F__law_next : AF} : SS (fun W => t__law_walk K cs F__law_next W) (u__law_walk K cs F__law_next) := by
  delta t__law_walk u__law_walk
  exact (ss_seq (ss_par3 (sa_cons se_str (sa_cons se_int (sa_cons (se_lstO sa_nil) sa_nil))))
    (ss_seq (ss_for (vs := [4, 5]) (si_enum se_var) (agT_mono (agCons_mono ag_mono (agCons_mono ag_mono agNil_mono))) (sg_tup (sg_cons ag_mono (agCons_mono ag_mono agNil_mono) (sg_name (by decide)) (sg_cons ag_mono agNil_mono (sg_name (by decide)) sg_nil))) (ss_seq (ss_asg (vs := [6]) (se_call (sa_cons se_var (sa_cons se_var (sa_cons se_var (sa_cons se_var sa_nil))))) ag_mono (sg_name (by decide)))
    (ss_seq (ss_ifS (st_test (se_op so_isN se_var se_non)) (ss_ret (se_tup (sa_cons se_var (sa_cons se_bl sa_nil)))) ss_next)
    (ss_seq (ss_asg (vs := [1, 2, 7]) se_var (agT_mono (agCons_mono ag_mono (agCons_mono ag_mono (agCons_mono ag_mono agNil_mono)))) (sg_tup (sg_cons ag_mono (agCons_mono ag_mono (agCons_mono ag_mono agNil_mono)) (sg_name (by decide)) (sg_cons ag_mono (agCons_mono ag_mono agNil_mono) (sg_name (by decide)) (sg_cons ag_mono agNil_mono (sg_name (by decide)) sg_nil)))))
    (ss_seq (ss_ifS (st_test (se_op so_eqB se_var se_int)) (ss_drop (se_mu sm_append se_var (sa_cons se_int sa_nil))) ss_next)
    (ss_seq (ss_ifS (st_test (se_op so_eqB se_var se_int)) (ss_setI (se_op so_add (se_op so_ixB se_var (se_un so_neg se_int)) se_int) se_var (se_un so_neg se_int)) ss_next)
    (ss_ifS (st_test (se_op so_eqB se_var (se_un so_neg se_int))) (ss_drop (se_mu0 sm_pop se_var)) ss_next)))))))
    (ss_ret (se_tup (sa_cons se_non (sa_cons (se_andV (se_op so_inB se_var (se_tup (sa_cons se_str (sa_cons se_str (sa_cons se_str (sa_cons se_str sa_nil)))))) (se_op so_eqB se_var (se_lst sa_nil))) sa_nil))))))

def t__law_bounds (K : PySem.W.Frag) (cs : Cs) (W : WX) : TS :=
  (tSeq (tAsg (tTup (tCons (tC (.int 1)) (tCons (tC (.int 1)) tNil))) (gTup K 2 (gCons (gName 3) (gCons (gName 4) gNil)))) (tSeq (tFor (iSeq K (tVar 0)) (gName 1) (tSeq (tAsg (tOp (rAddA K) (tVar 3) (tDGetA (tFrz (tDisp [((tC (.str "(")), (tC (.int 1))), ((tC (.str ")")), (tUn (rU fun i => .int (-i)) (tC (.int 1))))])) (tVar 1) (tC (.int 0)))) (gName 3)) (tAsg (tCB rMax2 (tCons (tVar 4) (tCons (tVar 3) tNil))) (gName 4)))) (tSeq (tAsg (tSplit (CwR.tReplC (CwR.tReplC (CwR.tReplC (tVar 0) "(" " ") ")" " ") "," " ") (tC (.str " "))) (gName 2)) (tRet (tAndV (tOp (rLtB K) (tVar 4) (tC (.int 6))) (tOp (rLtB K) (tCB (rLenA K) (tCons (tLc (iSeq K (tVar 2)) (gName 5) (tTest (tOp (rNeB K) (tVar 5) (tC (.str "")))) (tVar 5) [5]) tNil)) (tC (.int 31))))))))
def u__law_bounds (K : PySem.W.Frag) (cs : Cs) : AS :=
  (aSeq (aAsg (aTup (aCons (aC (.int 1)) (aCons (aC (.int 1)) aNil))) (agT 2 (agCons (agN 3) (agCons (agN 4) agNil))))
    (aSeq (aFor (aSeqI (aVar 0)) (agN 1) (aSeq (aAsg (aOp oAdd (aVar 3) (aDGet2 (aDisp [((aC (.str "(")), (aC (.int 1))), ((aC (.str ")")), (aUn oNeg (aC (.int 1))))]) (aVar 1) (aC (.int 0)))) (agN 3))
    (aAsg (aCB cMax2 (aCons (aVar 4) (aCons (aVar 3) aNil))) (agN 4))))
    (aSeq (aAsg (aSplit (aRepl "," " " (aRepl ")" " " (aRepl "(" " " (aVar 0)))) (aC (.str " "))) (agN 2))
    (aRet (aAndV (aOp oLtB (aVar 4) (aC (.int 6))) (aOp oLtB (aCB cLen (aCons (aLc (aSeqI (aVar 2)) (agN 5) (aTest (aOp oNeB (aVar 5) (aC (.str "")))) (aVar 5) [5]) aNil)) (aC (.int 31))))))))
theorem ss__law_bounds {K : PySem.W.Frag} {cs : Cs} : SS (fun W => t__law_bounds K cs W) (u__law_bounds K cs) := by
  delta t__law_bounds u__law_bounds
  exact (ss_seq (ss_asg (vs := [3, 4]) (se_tup (sa_cons se_int (sa_cons se_int sa_nil))) (agT_mono (agCons_mono ag_mono (agCons_mono ag_mono agNil_mono))) (sg_tup (sg_cons ag_mono (agCons_mono ag_mono agNil_mono) (sg_name (by decide)) (sg_cons ag_mono agNil_mono (sg_name (by decide)) sg_nil))))
    (ss_seq (ss_for (vs := [1]) (si_seq se_var) ag_mono (sg_name (by decide)) (ss_seq (ss_asg (vs := [3]) (se_op so_add se_var (se_dget2 (se_disp (SPr.cons (tk := (fun W => (tC (.str "(")))) (tv := (fun W => (tC (.int 1)))) se_str se_int (SPr.cons (tk := (fun W => (tC (.str ")")))) (tv := (fun W => (tUn (rU fun i => .int (-i)) (tC (.int 1))))) se_str (se_un so_neg se_int) SPr.nil))) se_var se_int)) ag_mono (sg_name (by decide)))
    (ss_asg (vs := [4]) (se_cb so_max2 (sa_cons se_var (sa_cons se_var sa_nil))) ag_mono (sg_name (by decide)))))
    (ss_seq (ss_asg (vs := [2]) (se_split (se_repl (se_repl (se_repl se_var))) se_str) ag_mono (sg_name (by decide)))
    (ss_ret (se_andV (se_op so_ltB se_var se_int) (se_op so_ltB (se_cb so_len (sa_cons (se_lc (tt := (fun W => (tTest (tOp (rNeB K) (tVar 5) (tC (.str "")))))) (te := (fun W => (tVar 5))) (si_seq se_var) ag_mono (sg_name (by decide)) (st_test (se_op so_neB se_var se_str)) se_var) sa_nil)) se_int))))))

def t__law_due_v2 (K : PySem.W.Frag) (cs : Cs) (F__law_walk : AF) (F__law_bounds : AF) (W : WX) : TS :=
  (tSeq (tAsg (tCallS (spA F__law_walk) (WE W) (tCons (tVar 0) tNil)) (gTup K 2 (gCons (gName 1) (gCons (gName 2) gNil)))) (tSeq (tIfS (tTest (tOp rNotN (tVar 1) (tC .non))) (tRet (tVar 1)) tNext) (tRet (tIf (tAnd (tB (tVar 2)) (tB (tCallS (spA F__law_bounds) (WE W) (tCons (tVar 0) tNil)))) (tC .non) (tCB (rLenA K) (tCons (tVar 0) tNil))))))
def u__law_due_v2 (K : PySem.W.Frag) (cs : Cs) (F__law_walk : AF) (F__law_bounds : AF) : AS :=
  (aSeq (aAsg (aCall F__law_walk (aCons (aVar 0) aNil)) (agT 2 (agCons (agN 1) (agCons (agN 2) agNil))))
    (aSeq (aIfS (aTest (aOp oNotN (aVar 1) (aC .non))) (aRet (aVar 1)) aNext)
    (aRet (aIf (aAnd (aTest (aVar 2)) (aTest (aCall F__law_bounds (aCons (aVar 0) aNil)))) (aC .non) (aCB cLen (aCons (aVar 0) aNil))))))
theorem ss__law_due_v2 {K : PySem.W.Frag} {cs : Cs} {F__law_walk : AF} {F__law_bounds : AF} : SS (fun W => t__law_due_v2 K cs F__law_walk F__law_bounds W) (u__law_due_v2 K cs F__law_walk F__law_bounds) := by
  delta t__law_due_v2 u__law_due_v2
  exact (ss_seq (ss_asg (vs := [1, 2]) (se_call (sa_cons se_var sa_nil)) (agT_mono (agCons_mono ag_mono (agCons_mono ag_mono agNil_mono))) (sg_tup (sg_cons ag_mono (agCons_mono ag_mono agNil_mono) (sg_name (by decide)) (sg_cons ag_mono agNil_mono (sg_name (by decide)) sg_nil))))
    (ss_seq (ss_ifS (st_test (se_op so_notN se_var se_non)) (ss_ret se_var) ss_next)
    (ss_ret (se_if (st_and (st_B se_var) (st_B (se_call (sa_cons se_var sa_nil)))) se_non (se_cb so_len (sa_cons se_var sa_nil))))))

def t__law_told_v2 (K : PySem.W.Frag) (cs : Cs) (F_read_pattern : AF) (W : WX) : TS :=
  (tSeq (tAsg (tTup (tCons (tC .non) (tCons (tC .non) tNil))) (gTup K 2 (gCons (gName 2) (gCons (gName 3) gNil)))) (tSeq (tTryAs K (.ref cs.MatchError) 1 (fun W => (tAsg (tCallS (spA F_read_pattern) (WE W) (tCons (tVar 0) tNil)) (gName 2))) (tAsg (tVar 1) (gName 3)) W) (tSeq (tIfS (tTest (tOp rIsN (tVar 3) (tC .non))) (tRet (tVar 2)) tNext) (tSeq (tIfS (tOr (tNot (tB (tCB (rIsiA K) (tCons (tVar 3) (tCons (tC (.ref cs.NoText)) tNil))))) (tOr (tB (tCB (rIsCT K) (tCons (tVar 3) (tCons (tTup (tCons (tC (.ref cs.BadPattern)) (tCons (tC (.ref cs.BadTerm)) tNil))) tNil)))) (tNot (tB (tCB (rIsiA K) (tCons (tVar 3) (tCons (tC (.ty "ValueError")) tNil))))))) (tRet (tC (.str "other"))) tNext) (tRet (tXc K "at" (tVar 3)))))))
def u__law_told_v2 (K : PySem.W.Frag) (cs : Cs) (F_read_pattern : AF) : AS :=
  (aSeq (aAsg (aTup (aCons (aC .non) (aCons (aC .non) aNil))) (agT 2 (agCons (agN 2) (agCons (agN 3) agNil))))
    (aSeq (aTryAs (fun a => PySem.W.exmOne K (.ref a) (.ref cs.MatchError)) 1 (aAsg (aCall F_read_pattern (aCons (aVar 0) aNil)) (agN 2)) (aAsg (aVar 1) (agN 3)))
    (aSeq (aIfS (aTest (aOp oIsN (aVar 3) (aC .non))) (aRet (aVar 2)) aNext)
    (aSeq (aIfS (aOr (aNot (aTest (aIsi K (aVar 3) (aC (.ref cs.NoText))))) (aOr (aTest (aIsiT K (aVar 3) (aTup (aCons (aC (.ref cs.BadPattern)) (aCons (aC (.ref cs.BadTerm)) aNil))))) (aNot (aTest (aIsi K (aVar 3) (aC (.ty "ValueError"))))))) (aRet (aC (.str "other"))) aNext)
    (aRet (aXc K "at" (aVar 3)))))))
theorem ss__law_told_v2 {K : PySem.W.Frag} {cs : Cs} {F_read_pattern : AF} : SS (fun W => t__law_told_v2 K cs F_read_pattern W) (u__law_told_v2 K cs F_read_pattern) := by
  delta t__law_told_v2 u__law_told_v2
  exact (ss_seq (ss_asg (vs := [2, 3]) (se_tup (sa_cons se_non (sa_cons se_non sa_nil))) (agT_mono (agCons_mono ag_mono (agCons_mono ag_mono agNil_mono))) (sg_tup (sg_cons ag_mono (agCons_mono ag_mono agNil_mono) (sg_name (by decide)) (sg_cons ag_mono agNil_mono (sg_name (by decide)) sg_nil))))
    (ss_seq (ss_tryAs (ts := fun W => (tAsg (tCallS (spA F_read_pattern) (WE W) (tCons (tVar 0) tNil)) (gName 2))) (tu := fun _ => (tAsg (tVar 1) (gName 3))) (fun _ _ h => h) (ss_asg (vs := [2]) (se_call (sa_cons se_var sa_nil)) ag_mono (sg_name (by decide))) (ss_asg (vs := [3]) se_var ag_mono (sg_name (by decide))))
    (ss_seq (ss_ifS (st_test (se_op so_isN se_var se_non)) (ss_ret se_var) ss_next)
    (ss_seq (ss_ifS (st_or (st_not (st_B (se_isi se_var se_ref))) (st_or (st_B (se_isiT se_var (se_tup (sa_cons se_ref (sa_cons se_ref sa_nil))))) (st_not (st_B (se_isi se_var se_ty))))) (ss_ret se_str) ss_next)
    (ss_ret (se_xc se_var))))))

def t__law_spoilt (K : PySem.W.Frag) (cs : Cs) (F__law_take : AF) (F__law_pick : AF) (W : WX) : TS :=
  (tSeq (tPar 3 4 (tCons (tCallS (spA F__law_take) (WE W) (tCons (tVar 0) (tCons (tOp (rAddA K) (tCB (rLenA K) (tCons (tVar 1) tNil)) (tC (.int 1))) tNil))) (tCons (tCallS (spA F__law_take) (WE W) (tCons (tVar 0) (tCons (tC (.int 3)) tNil))) tNil))) (tSeq (tAsg (tLst (tCons (tC (.str "a")) (tCons (tC (.str "z")) (tCons (tC (.str "(")) (tCons (tC (.str ")")) (tCons (tC (.str ",")) (tCons (tC (.str "?")) (tCons (tC (.str " ")) (tCons (tC (.str "?x")) (tCons (tC (.str "f(")) (tCons (tC (.str ",a")) (tCons (tC (.str "A")) (tCons (tC (.str "0")) (tCons (tC (.str "-")) (tCons (tC (.str "abcdefgh")) (tCons (tC (.str "?abcd")) (tCons (tC (.str "()")) (tCons (tC (.str ")a")) (tCons (tC (.str "a b")) tNil))))))))))))))))))) (gName 2)) (tSeq (tAsg (tOp (rAddA K) (tVar 2) (tLst (tCons (tC (.str "\n")) (tCons (tC (.str "\t")) tNil)))) (gName 2)) (tSeq (tIfS (tTest (tOp (rEqB K) (tVar 4) (tC (.int 0)))) (tRet (tOp (rAddA K) (tSl (rSlX K) (tVar 1) tNoPart (tPart (tVar 3))) (tSl (rSlX K) (tVar 1) (tPart (tOp (rAddA K) (tVar 3) (tC (.int 1)))) tNoPart))) tNext) (tRet (tOp (rAddA K) (tOp (rAddA K) (tSl (rSlX K) (tVar 1) tNoPart (tPart (tVar 3))) (tCallS (spA F__law_pick) (WE W) (tCons (tVar 0) (tCons (tVar 2) tNil)))) (tSl (rSlX K) (tVar 1) (tPart (tOp (rI0 fun i j => .int (i - j)) (tOp (rAddA K) (tVar 3) (tVar 4)) (tC (.int 1)))) tNoPart)))))))
def u__law_spoilt (K : PySem.W.Frag) (cs : Cs) (F__law_take : AF) (F__law_pick : AF) : AS :=
  (aSeq (aPar 3 4 (aCons (aCall F__law_take (aCons (aVar 0) (aCons (aOp oAdd (aCB cLen (aCons (aVar 1) aNil)) (aC (.int 1))) aNil))) (aCons (aCall F__law_take (aCons (aVar 0) (aCons (aC (.int 3)) aNil))) aNil)))
    (aSeq (aAsg (aLst (aCons (aC (.str "a")) (aCons (aC (.str "z")) (aCons (aC (.str "(")) (aCons (aC (.str ")")) (aCons (aC (.str ",")) (aCons (aC (.str "?")) (aCons (aC (.str " ")) (aCons (aC (.str "?x")) (aCons (aC (.str "f(")) (aCons (aC (.str ",a")) (aCons (aC (.str "A")) (aCons (aC (.str "0")) (aCons (aC (.str "-")) (aCons (aC (.str "abcdefgh")) (aCons (aC (.str "?abcd")) (aCons (aC (.str "()")) (aCons (aC (.str ")a")) (aCons (aC (.str "a b")) aNil))))))))))))))))))) (agN 2))
    (aSeq (aAsg (aOp oAdd (aVar 2) (aLst (aCons (aC (.str "\n")) (aCons (aC (.str "\t")) aNil)))) (agN 2))
    (aSeq (aIfS (aTest (aOp oEqB (aVar 4) (aC (.int 0)))) (aRet (aOp oAdd (aSl oSl (aVar 1) aNoPart (aPart (aVar 3))) (aSl oSl (aVar 1) (aPart (aOp oAdd (aVar 3) (aC (.int 1)))) aNoPart))) aNext)
    (aRet (aOp oAdd (aOp oAdd (aSl oSl (aVar 1) aNoPart (aPart (aVar 3))) (aCall F__law_pick (aCons (aVar 0) (aCons (aVar 2) aNil)))) (aSl oSl (aVar 1) (aPart (aOp (oInt fun i j => i - j) (aOp oAdd (aVar 3) (aVar 4)) (aC (.int 1)))) aNoPart)))))))
theorem ss__law_spoilt {K : PySem.W.Frag} {cs : Cs} {F__law_take : AF} {F__law_pick : AF} : SS (fun W => t__law_spoilt K cs F__law_take F__law_pick W) (u__law_spoilt K cs F__law_take F__law_pick) := by
  delta t__law_spoilt u__law_spoilt
  exact (ss_seq (ss_par (sa_cons (se_call (sa_cons se_var (sa_cons (se_op so_add (se_cb so_len (sa_cons se_var sa_nil)) se_int) sa_nil))) (sa_cons (se_call (sa_cons se_var (sa_cons se_int sa_nil))) sa_nil)))
    (ss_seq (ss_asg (vs := [2]) (se_lst (sa_cons se_str (sa_cons se_str (sa_cons se_str (sa_cons se_str (sa_cons se_str (sa_cons se_str (sa_cons se_str (sa_cons se_str (sa_cons se_str (sa_cons se_str (sa_cons se_str (sa_cons se_str (sa_cons se_str (sa_cons se_str (sa_cons se_str (sa_cons se_str (sa_cons se_str (sa_cons se_str sa_nil))))))))))))))))))) ag_mono (sg_name (by decide)))
    (ss_seq (ss_asg (vs := [2]) (se_op so_add se_var (se_lst (sa_cons se_str (sa_cons se_str sa_nil)))) ag_mono (sg_name (by decide)))
    (ss_seq (ss_ifS (st_test (se_op so_eqB se_var se_int)) (ss_ret (se_op so_add (se_sl so_sl se_var so_none (so_some se_var)) (se_sl so_sl se_var (so_some (se_op so_add se_var se_int)) so_none))) ss_next)
    (ss_ret (se_op so_add (se_op so_add (se_sl so_sl se_var so_none (so_some se_var)) (se_call (sa_cons se_var (sa_cons se_var sa_nil)))) (se_sl so_sl se_var (so_some (se_op so_int (se_op so_add se_var se_var) se_int)) so_none)))))))

def t_law_K05 (K : PySem.W.Frag) (cs : Cs) (F__law_pattern : AF) (F__law_take : AF) (F__law_written : AF) (F__law_spoilt : AF) (F__law_due : AF) (F__law_told : AF) (F__law_pick : AF) (W : WX) : TS :=
  (tSeq (tFor (iRng1 (tCons (tC (.int 8)) tNil)) (gName 2) (tSeq (tAsg (tCallS (spA F__law_pattern) (WE W) (tCons (tVar 1) (tCons (tOp (rAddA K) (tC (.int 1)) (tCallS (spA F__law_take) (WE W) (tCons (tVar 1) (tCons (tC (.int 6)) tNil)))) (tCons (tOp (rEqB K) (tCallS (spA F__law_take) (WE W) (tCons (tVar 1) (tCons (tC (.int 2)) tNil))) (tC (.int 0))) tNil)))) (gName 4)) (tSeq (tAsg (tCallS (spA F__law_written) (WE W) (tCons (tVar 4) tNil)) (gName 5)) (tSeq (tFor (iRng1 (tCons (tOp (rI (fun _ j => 0 < j) fun i j => .int (i % j)) (tCallS (spA F__law_take) (WE W) (tCons (tVar 1) (tCons (tC (.int 4)) tNil))) (tC (.int 3))) tNil)) (gName 6) (tAsg (tCallS (spA F__law_spoilt) (WE W) (tCons (tVar 1) (tCons (tVar 5) tNil))) (gName 5))) (tSeq (tPar 7 8 (tCons (tCallS (spA F__law_due) (WE W) (tCons (tVar 5) tNil)) (tCons (tCallS (spA F__law_told) (WE W) (tCons (tVar 5) tNil)) tNil))) (tSeq (tIfS (tAnd (tTest (tOp rNotN (tVar 7) (tC .non))) (tOr (tTest (tOp (rNeB K) (tVar 8) (tVar 7))) (tNot (tB (tCB (rIsiA K) (tCons (tVar 8) (tCons (tC (.ty "int")) tNil))))))) (tRet (tC (.bl false))) tNext) (tSeq (tIfS (tAnd (tTest (tOp rIsN (tVar 7) (tC .non))) (tNot (tB (tCB (rIsiA K) (tCons (tVar 8) (tCons (tTup (tCons (tC (.ty "tuple")) (tCons (tC (.ty "str")) tNil))) tNil)))))) (tRet (tC (.bl false))) tNext) (tIfS (tAnd (tTest (tOp rIsN (tVar 7) (tC .non))) (tTest (tOp (rNeB K) (tCallS (spA F__law_written) (WE W) (tCons (tVar 8) tNil)) (CwR.tReplC (tVar 5) " " "")))) (tRet (tC (.bl false))) tNext)))))))) (tSeq (tAsg (tCallS (spA F__law_pick) (WE W) (tCons (tVar 1) (tCons (tLst (tCons (tC .non) (tCons (tC (.int 0)) (tCons (tC (.bl true)) (tCons (tTup (tCons (tC (.str "a")) tNil)) (tCons (tLst (tCons (tC (.str "a")) tNil)) (tCons (tFrz tDNewK) (tCons (tTup tNil) (tCons (tC (.int 7)) tNil))))))))) tNil))) (gName 3)) (tSeq (tIfS (tTest (tOp (rNeB K) (tCallS (spA F__law_told) (WE W) (tCons (tVar 3) tNil)) (tC (.int 0)))) (tRet (tC (.bl false))) tNext) (tRet (tAndV (tOp (rEqB K) (tCallS (spA F__law_told) (WE W) (tCons (tOp (rMulB K) (tC (.str "f(")) (tC (.int 900))) tNil)) (tC (.int 1800))) (tOp (rEqB K) (tCallS (spA F__law_told) (WE W) (tCons (tOp (rAddA K) (tOp (rMulB K) (tC (.str "f(")) (tC (.int 900))) (tC (.str ")"))) tNil)) (tC (.int 1800))))))))
def u_law_K05_b1_6 (K : PySem.W.Frag) (cs : Cs) (F__law_pattern : AF) (F__law_take : AF) (F__law_written : AF) (F__law_spoilt : AF) (F__law_due : AF) (F__law_told : AF) (F__law_pick : AF) : AS :=
  (aIfS (aAnd (aTest (aOp oIsN (aVar 7) (aC .non))) (aTest (aOp oNeB (aCall F__law_written (aCons (aVar 8) aNil)) (aRepl " " "" (aVar 5))))) (aRet (aC (.bl false))) aNext)
def u_law_K05_b1_5 (K : PySem.W.Frag) (cs : Cs) (F__law_pattern : AF) (F__law_take : AF) (F__law_written : AF) (F__law_spoilt : AF) (F__law_due : AF) (F__law_told : AF) (F__law_pick : AF) : AS :=
  (aSeq (aIfS (aAnd (aTest (aOp oIsN (aVar 7) (aC .non))) (aNot (aTest (aIsi K (aVar 8) (aTup (aCons (aC (.ty "tuple")) (aCons (aC (.ty "str")) aNil))))))) (aRet (aC (.bl false))) aNext)
    (u_law_K05_b1_6 K cs F__law_pattern F__law_take F__law_written F__law_spoilt F__law_due F__law_told F__law_pick))
def u_law_K05_b1_4 (K : PySem.W.Frag) (cs : Cs) (F__law_pattern : AF) (F__law_take : AF) (F__law_written : AF) (F__law_spoilt : AF) (F__law_due : AF) (F__law_told : AF) (F__law_pick : AF) : AS :=
  (aSeq (aIfS (aAnd (aTest (aOp oNotN (aVar 7) (aC .non))) (aOr (aTest (aOp oNeB (aVar 8) (aVar 7))) (aNot (aTest (aIsi K (aVar 8) (aC (.ty "int"))))))) (aRet (aC (.bl false))) aNext)
    (u_law_K05_b1_5 K cs F__law_pattern F__law_take F__law_written F__law_spoilt F__law_due F__law_told F__law_pick))
def u_law_K05_b1_3 (K : PySem.W.Frag) (cs : Cs) (F__law_pattern : AF) (F__law_take : AF) (F__law_written : AF) (F__law_spoilt : AF) (F__law_due : AF) (F__law_told : AF) (F__law_pick : AF) : AS :=
  (aSeq (aPar 7 8 (aCons (aCall F__law_due (aCons (aVar 5) aNil)) (aCons (aCall F__law_told (aCons (aVar 5) aNil)) aNil)))
    (u_law_K05_b1_4 K cs F__law_pattern F__law_take F__law_written F__law_spoilt F__law_due F__law_told F__law_pick))
def u_law_K05_b1_2 (K : PySem.W.Frag) (cs : Cs) (F__law_pattern : AF) (F__law_take : AF) (F__law_written : AF) (F__law_spoilt : AF) (F__law_due : AF) (F__law_told : AF) (F__law_pick : AF) : AS :=
  (aSeq (aFor (aRng (aCons (aOp (oIntC (fun _ j => 0 < j) fun i j => i % j) (aCall F__law_take (aCons (aVar 1) (aCons (aC (.int 4)) aNil))) (aC (.int 3))) aNil)) (agN 6) (aAsg (aCall F__law_spoilt (aCons (aVar 1) (aCons (aVar 5) aNil))) (agN 5)))
    (u_law_K05_b1_3 K cs F__law_pattern F__law_take F__law_written F__law_spoilt F__law_due F__law_told F__law_pick))
def u_law_K05_b1_1 (K : PySem.W.Frag) (cs : Cs) (F__law_pattern : AF) (F__law_take : AF) (F__law_written : AF) (F__law_spoilt : AF) (F__law_due : AF) (F__law_told : AF) (F__law_pick : AF) : AS :=
  (aSeq (aAsg (aCall F__law_written (aCons (aVar 4) aNil)) (agN 5))
    (u_law_K05_b1_2 K cs F__law_pattern F__law_take F__law_written F__law_spoilt F__law_due F__law_told F__law_pick))
def u_law_K05_b1 (K : PySem.W.Frag) (cs : Cs) (F__law_pattern : AF) (F__law_take : AF) (F__law_written : AF) (F__law_spoilt : AF) (F__law_due : AF) (F__law_told : AF) (F__law_pick : AF) : AS :=
  (aSeq (aAsg (aCall F__law_pattern (aCons (aVar 1) (aCons (aOp oAdd (aC (.int 1)) (aCall F__law_take (aCons (aVar 1) (aCons (aC (.int 6)) aNil)))) (aCons (aOp oEqB (aCall F__law_take (aCons (aVar 1) (aCons (aC (.int 2)) aNil))) (aC (.int 0))) aNil)))) (agN 4))
    (u_law_K05_b1_1 K cs F__law_pattern F__law_take F__law_written F__law_spoilt F__law_due F__law_told F__law_pick))
def u_law_K05_3 (K : PySem.W.Frag) (cs : Cs) (F__law_pattern : AF) (F__law_take : AF) (F__law_written : AF) (F__law_spoilt : AF) (F__law_due : AF) (F__law_told : AF) (F__law_pick : AF) : AS :=
  (aRet (aAndV (aOp oEqB (aCall F__law_told (aCons (aOp oMulB (aC (.str "f(")) (aC (.int 900))) aNil)) (aC (.int 1800))) (aOp oEqB (aCall F__law_told (aCons (aOp oAdd (aOp oMulB (aC (.str "f(")) (aC (.int 900))) (aC (.str ")"))) aNil)) (aC (.int 1800)))))
def u_law_K05_2 (K : PySem.W.Frag) (cs : Cs) (F__law_pattern : AF) (F__law_take : AF) (F__law_written : AF) (F__law_spoilt : AF) (F__law_due : AF) (F__law_told : AF) (F__law_pick : AF) : AS :=
  (aSeq (aIfS (aTest (aOp oNeB (aCall F__law_told (aCons (aVar 3) aNil)) (aC (.int 0)))) (aRet (aC (.bl false))) aNext)
    (u_law_K05_3 K cs F__law_pattern F__law_take F__law_written F__law_spoilt F__law_due F__law_told F__law_pick))
def u_law_K05_1 (K : PySem.W.Frag) (cs : Cs) (F__law_pattern : AF) (F__law_take : AF) (F__law_written : AF) (F__law_spoilt : AF) (F__law_due : AF) (F__law_told : AF) (F__law_pick : AF) : AS :=
  (aSeq (aAsg (aCall F__law_pick (aCons (aVar 1) (aCons (aLst (aCons (aC .non) (aCons (aC (.int 0)) (aCons (aC (.bl true)) (aCons (aTup (aCons (aC (.str "a")) aNil)) (aCons (aLst (aCons (aC (.str "a")) aNil)) (aCons aDNew (aCons (aTup aNil) (aCons (aC (.int 7)) aNil))))))))) aNil))) (agN 3))
    (u_law_K05_2 K cs F__law_pattern F__law_take F__law_written F__law_spoilt F__law_due F__law_told F__law_pick))
def u_law_K05 (K : PySem.W.Frag) (cs : Cs) (F__law_pattern : AF) (F__law_take : AF) (F__law_written : AF) (F__law_spoilt : AF) (F__law_due : AF) (F__law_told : AF) (F__law_pick : AF) : AS :=
  (aSeq (aFor (aRng (aCons (aC (.int 8)) aNil)) (agN 2) (u_law_K05_b1 K cs F__law_pattern F__law_take F__law_written F__law_spoilt F__law_due F__law_told F__law_pick))
    (u_law_K05_1 K cs F__law_pattern F__law_take F__law_written F__law_spoilt F__law_due F__law_told F__law_pick))
theorem ss_law_K05 {K : PySem.W.Frag} {cs : Cs} {F__law_pattern : AF} {F__law_take : AF} {F__law_written : AF} {F__law_spoilt : AF} {F__law_due : AF} {F__law_told : AF} {F__law_pick : AF} : SS (fun W => t_law_K05 K cs F__law_pattern F__law_take F__law_written F__law_spoilt F__law_due F__law_told F__law_pick W) (u_law_K05 K cs F__law_pattern F__law_take F__law_written F__law_spoilt F__law_due F__law_told F__law_pick) := by
  delta t_law_K05 u_law_K05
  exact (ss_seq (ss_for (vs := [2]) (si_rng (sa_cons se_int sa_nil)) ag_mono (sg_name (by decide)) (ss_seq (ss_asg (vs := [4]) (se_call (sa_cons se_var (sa_cons (se_op so_add se_int (se_call (sa_cons se_var (sa_cons se_int sa_nil)))) (sa_cons (se_op so_eqB (se_call (sa_cons se_var (sa_cons se_int sa_nil))) se_int) sa_nil)))) ag_mono (sg_name (by decide)))
    (ss_seq (ss_asg (vs := [5]) (se_call (sa_cons se_var sa_nil)) ag_mono (sg_name (by decide)))
    (ss_seq (ss_for (vs := [6]) (si_rng (sa_cons (se_op so_intC (se_call (sa_cons se_var (sa_cons se_int sa_nil))) se_int) sa_nil)) ag_mono (sg_name (by decide)) (ss_asg (vs := [5]) (se_call (sa_cons se_var (sa_cons se_var sa_nil))) ag_mono (sg_name (by decide))))
    (ss_seq (ss_par (sa_cons (se_call (sa_cons se_var sa_nil)) (sa_cons (se_call (sa_cons se_var sa_nil)) sa_nil)))
    (ss_seq (ss_ifS (st_and (st_test (se_op so_notN se_var se_non)) (st_or (st_test (se_op so_neB se_var se_var)) (st_not (st_B (se_isi se_var se_ty))))) (ss_ret se_bl) ss_next)
    (ss_seq (ss_ifS (st_and (st_test (se_op so_isN se_var se_non)) (st_not (st_B (se_isi se_var (se_tup (sa_cons se_ty (sa_cons se_ty sa_nil))))))) (ss_ret se_bl) ss_next)
    (ss_ifS (st_and (st_test (se_op so_isN se_var se_non)) (st_test (se_op so_neB (se_call (sa_cons se_var sa_nil)) (se_repl se_var)))) (ss_ret se_bl) ss_next))))))))
    (ss_seq (ss_asg (vs := [3]) (se_call (sa_cons se_var (sa_cons (se_lst (sa_cons se_non (sa_cons se_int (sa_cons se_bl (sa_cons (se_tup (sa_cons se_str sa_nil)) (sa_cons (se_lst (sa_cons se_str sa_nil)) (sa_cons se_dnew (sa_cons (se_tup sa_nil) (sa_cons se_int sa_nil))))))))) sa_nil))) ag_mono (sg_name (by decide)))
    (ss_seq (ss_ifS (st_test (se_op so_neB (se_call (sa_cons se_var sa_nil)) se_int)) (ss_ret se_bl) ss_next)
    (ss_ret (se_andV (se_op so_eqB (se_call (sa_cons (se_op so_mulB se_str se_int) sa_nil)) se_int) (se_op so_eqB (se_call (sa_cons (se_op so_add (se_op so_mulB se_str se_int) se_str) sa_nil)) se_int))))))

end LM

set_option Elab.async false
set_option linter.all false
set_option maxRecDepth 100000
set_option maxHeartbeats 4000000
namespace K05
open PySem L2 DL AL LM
abbrev N_are_letters : List Str := ["text", "most", "sign"]
abbrev p_are_letters : List Str := ["text", "most"]
abbrev N_is_name : List Str := ["thing"]
abbrev p_is_name : List Str := ["thing"]
abbrev N_is_hole : List Str := ["thing"]
abbrev p_is_hole : List Str := ["thing"]
abbrev N_measured : List Str := ["thing", "left", "holed", "sizes", "head", "parts", "part"]
abbrev p_measured : List Str := ["thing", "left", "holed"]
abbrev N_is_pattern : List Str := ["thing"]
abbrev p_is_pattern : List Str := ["thing"]
abbrev N_behind_blanks : List Str := ["text", "at"]
abbrev p_behind_blanks : List Str := ["text", "at"]
abbrev N_behind_letters : List Str := ["text", "at", "most", "end"]
abbrev p_behind_letters : List Str := ["text", "at", "most"]
abbrev N_leaf_at : List Str := ["text", "at", "end"]
abbrev p_leaf_at : List Str := ["text", "at"]
abbrev N_closed : List Str := ["text", "at", "part", "open_ones", "sign"]
abbrev p_closed : List Str := ["text", "at", "part", "open_ones"]
abbrev N_read_pattern : List Str := ["text", "open_ones", "found", "at", "leaf"]
abbrev p_read_pattern : List Str := ["text"]
abbrev N__law_begin : List Str := ["_law_script", "_law_cells", "_law_cell"]
abbrev p__law_begin : List Str := ["_law_script"]
abbrev N__law_take : List Str := ["_law_draw", "_law_size", "_law_cells", "_law_at", "_law_cell"]
abbrev p__law_take : List Str := ["_law_draw", "_law_size"]
abbrev N__law_pick : List Str := ["_law_draw", "_law_some"]
abbrev p__law_pick : List Str := ["_law_draw", "_law_some"]
abbrev N__law_word : List Str := ["_law_draw", "_law_way", "_law_word_here", "_law_k"]
abbrev p__law_word : List Str := ["_law_draw"]
abbrev N__law_hole : List Str := ["_law_draw", "_law_word_here", "_law_k"]
abbrev p__law_hole : List Str := ["_law_draw"]
abbrev N__law_pattern : List Str := ["_law_draw", "_law_left", "_law_holed", "_law_many", "_law_k"]
abbrev p__law_pattern : List Str := ["_law_draw", "_law_left", "_law_holed"]
abbrev N__law_written : List Str := ["_law_one", "_law_inner", "_law_part"]
abbrev p__law_written : List Str := ["_law_one"]
abbrev N__law_next : List Str := ["_law_state", "_law_sign", "_law_many", "_law_deep", "_law_small"]
abbrev p__law_next : List Str := ["_law_state", "_law_sign", "_law_many", "_law_deep"]
abbrev N__law_walk : List Str := ["_law_row", "_law_state", "_law_many", "_law_deep", "_law_at", "_law_sign", "_law_found", "_law_way"]
abbrev p__law_walk : List Str := ["_law_row"]
abbrev N__law_bounds : List Str := ["_law_row", "_law_sign", "_law_words", "_law_deep", "_law_most", "_law_word_here"]
abbrev p__law_bounds : List Str := ["_law_row"]
abbrev N__law_due : List Str := ["_law_row", "_law_at", "_law_is_whole"]
abbrev p__law_due : List Str := ["_law_row"]
abbrev N__law_told : List Str := ["_law_row", "e", "_law_found", "_law_error"]
abbrev p__law_told : List Str := ["_law_row"]
abbrev N__law_spoilt : List Str := ["_law_draw", "_law_row", "_law_some", "_law_at", "_law_way"]
abbrev p__law_spoilt : List Str := ["_law_draw", "_law_row"]
abbrev N_law : List Str := ["_law_script", "_law_draw", "_law_turn", "_law_odd", "_law_one", "_law_some", "_law_spoil", "_law_due_here", "_law_told_here"]
abbrev p_law : List Str := ["_law_script"]
/-- the abstract defs -/
structure Fs where
  f_are_letters : AF
  f_is_name : AF
  f_is_hole : AF
  f_measured : AF
  f_is_pattern : AF
  f_behind_blanks : AF
  f_behind_letters : AF
  f_leaf_at : AF
  f_closed : AF
  f_read_pattern : AF
  f__law_take : AF
  f__law_pick : AF
  f__law_word : AF
  f__law_hole : AF
  f__law_pattern : AF
  f__law_written : AF
  f__law_next : AF
  f__law_walk : AF
  f__law_bounds : AF
  f__law_due : AF
  f__law_told : AF
  f__law_spoilt : AF
def fs [Wd] (K : PySem.W.Frag) (cs : Cs) : Nat → Fs
  | 0 => ⟨fun _ _ _ _ => False, fun _ _ _ _ => False, fun _ _ _ _ => False, fun _ _ _ _ => False, fun _ _ _ _ => False, fun _ _ _ _ => False, fun _ _ _ _ => False, fun _ _ _ _ => False, fun _ _ _ _ => False, fun _ _ _ _ => False, fun _ _ _ _ => False, fun _ _ _ _ => False, fun _ _ _ _ => False, fun _ _ _ _ => False, fun _ _ _ _ => False, fun _ _ _ _ => False, fun _ _ _ _ => False, fun _ _ _ _ => False, fun _ _ _ _ => False, fun _ _ _ _ => False, fun _ _ _ _ => False, fun _ _ _ _ => False⟩
  | L + 1 => {
    f_are_letters := afn N_are_letters p_are_letters (u_are_letters K cs),
    f_is_name := afn N_is_name p_is_name (u_is_name K cs (fs K cs L).f_are_letters),
    f_is_hole := afn N_is_hole p_is_hole (u_is_hole K cs (fs K cs L).f_are_letters),
    f_measured := afn N_measured p_measured (u_measured K cs (fs K cs L).f_is_hole (fs K cs L).f_is_name (fs K cs L).f_measured),
    f_is_pattern := afn N_is_pattern p_is_pattern (u_is_pattern K cs (fs K cs L).f_measured),
    f_behind_blanks := afn N_behind_blanks p_behind_blanks (u_behind_blanks K cs),
    f_behind_letters := afn N_behind_letters p_behind_letters (u_behind_letters K cs),
    f_leaf_at := afn N_leaf_at p_leaf_at (u_leaf_at K cs (fs K cs L).f_behind_blanks (fs K cs L).f_behind_letters),
    f_closed := afn N_closed p_closed (u_closed K cs (fs K cs L).f_behind_blanks),
    f_read_pattern := afn N_read_pattern p_read_pattern (u_read_pattern K cs (fs K cs L).f_leaf_at (fs K cs L).f_closed (fs K cs L).f_is_pattern),
    f__law_take := Ftake,
    f__law_pick := afn N__law_pick p__law_pick (u__law_pick K cs (fs K cs L).f__law_take),
    f__law_word := afn N__law_word p__law_word (u__law_word K cs (fs K cs L).f__law_take (fs K cs L).f__law_pick),
    f__law_hole := afn N__law_hole p__law_hole (u__law_hole K cs (fs K cs L).f__law_take (fs K cs L).f__law_pick),
    f__law_pattern := afn N__law_pattern p__law_pattern (u__law_pattern K cs (fs K cs L).f__law_take (fs K cs L).f__law_hole (fs K cs L).f__law_word (fs K cs L).f__law_pattern),
    f__law_written := afn N__law_written p__law_written (u__law_written K cs (fs K cs L).f__law_written),
    f__law_next := afn N__law_next p__law_next (u__law_next K cs),
    f__law_walk := afn N__law_walk p__law_walk (u__law_walk K cs (fs K cs L).f__law_next),
    f__law_bounds := afn N__law_bounds p__law_bounds (u__law_bounds K cs),
    f__law_due := afn N__law_due p__law_due (u__law_due_v2 K cs (fs K cs L).f__law_walk (fs K cs L).f__law_bounds),
    f__law_told := afn N__law_told p__law_told (u__law_told_v2 K cs (fs K cs L).f_read_pattern),
    f__law_spoilt := afn N__law_spoilt p__law_spoilt (u__law_spoilt K cs (fs K cs L).f__law_take (fs K cs L).f__law_pick) }
/-- what is left: the abstract law -/
abbrev Goal [Wd] (K : PySem.W.Frag) (cs : Cs) (L : Nat) (a c : Addr) : Prop := u_law_K05 K cs (fs K cs L).f__law_pattern (fs K cs L).f__law_take (fs K cs L).f__law_written (fs K cs L).f__law_spoilt (fs K cs L).f__law_due (fs K cs L).f__law_told (fs K cs L).f__law_pick endsL (none :: some (.ref a) :: List.replicate 7 none) (sto0 a c)
/-- what the written part says of the exceptions' classes -/
structure Kx (K : PySem.W.Frag) (cs : Cs) : Prop where
  ex_NoText : ExcC K cs.NoText
  o_NoText : OexC K cs.NoText ∧ PySem.W.findIn K (.ref cs.NoText) "at" = some none
  xf_NoText : XfC K cs.NoText
  m_NoText_MatchError : PySem.W.exmOne K (.ref cs.NoText) (.ref cs.MatchError) = some true
  i_NoText_BadPattern : PySem.W.kitOne K (.ref cs.NoText) (.ref cs.BadPattern) = some false
  i_NoText_BadTerm : PySem.W.kitOne K (.ref cs.NoText) (.ref cs.BadTerm) = some false
  i_NoText_NoText : PySem.W.kitOne K (.ref cs.NoText) (.ref cs.NoText) = some true
  v_NoText : PySem.W.kitOne K (.ref cs.NoText) (.type "ValueError") = some true
  z_BadPattern : PySem.W.kitOne K (.type "NoneType") (.ref cs.BadPattern) = some false
  z_BadTerm : PySem.W.kitOne K (.type "NoneType") (.ref cs.BadTerm) = some false
  z_NoText : PySem.W.kitOne K (.type "NoneType") (.ref cs.NoText) = some false
end K05

set_option Elab.async false
set_option linter.all false
set_option maxRecDepth 100000
set_option maxHeartbeats 4000000
/-! Terms and patterns as plain data. -/
namespace Ma
open PySem L2 DL AL
variable [Wd]
def lets : Str := "abcdefghijklmnopqrstuvwxyz"
def isLet (c : Nat) : Bool := decide (c ∈ lets.cps.toList)
def lettersOk (x : Str) (m : Int) : Bool := (decide ((1 : Int) ≤ (x.length : Int)) && decide ((x.length : Int) ≤ m)) && (x.cps.toList.map isLet).all id
def sgF : D → D
  | .str y => .bl (isLet (y.cps.toList.headD 0))
  | d => d
theorem signs_sg (x : Str) : (signs x).map sgF = (x.cps.toList.map isLet).map D.bl := by
  unfold signs
  rw [List.map_map, List.map_map]
  rfl
theorem signs_len (x : Str) : (signs x).length = x.length := by
  unfold signs
  rw [List.length_map, Array.length_toList]
  rfl
theorem mem_signs {x : Str} {d : D} (h : d ∈ signs x) : ∃ c, c ∈ x.cps.toList ∧ d = .str ⟨#[c]⟩ := by
  unfold signs at h
  obtain ⟨c, h1, h2⟩ := List.mem_map.mp h
  exact ⟨c, h1, h2.symm⟩
def isName : D → Bool
  | .str x => lettersOk x 8
  | _ => false
def short : D → Prop
  | .str x => x.length < sizeLine ∧ PyData.strOk x = true
  | .ref _ => False
  | .ty _ => False
  | .exc0 _ => False
  | .exc1 _ _ _ => False
  | _ => True
theorem short.ty {d : D} (h : short d) : tyOf d ≠ "" := by
  cases d with
  | ref _ => exact h.elim
  | ty _ => exact h.elim
  | exc0 _ => exact h.elim
  | exc1 _ _ _ => exact h.elim
  | _ => intro e; simp [tyOf] at e
def isHole : D → Bool
  | .str x => decide (cutS x none (some 1) = "?") && lettersOk (cutS x (some 1) none) 4
  | _ => false
def fit : Nat → D → Prop
  | 0 => fun d => match d with
    | .tup _ => False
    | d => short d
  | n + 1 => fun d => match d with
    | .tup xs => xs.length ≤ 1000 ∧ ∀ x, x ∈ xs → fit n x
    | d => short d
theorem fit.short {n : Nat} {d : D} (h : fit n d) : short d := by
  cases n with
  | zero => cases d <;> first | exact h | trivial
  | succ n => cases d <;> first | exact h | trivial
theorem fit.up : ∀ {n : Nat} {d : D}, fit n d → fit (n + 1) d
  | 0, d, h => by cases d <;> first | exact h | exact h.elim
  | n + 1, d, h => by
    cases d with
    | tup xs => exact ⟨h.1, fun x hx => (h.2 x hx).up⟩
    | _ => exact h
theorem fit.le {n m : Nat} {d : D} (h : fit n d) (hm : n ≤ m) : fit m d := by
  induction hm with
  | refl => exact h
  | step _ ih => exact ih.up
def meas (b : Bool) : Nat → D → Int
  | 0 => fun _ => 0
  | n + 1 => fun d => match d with
    | .str x => if (b && isHole (.str x)) = true then 1 else 0
    | .tup (h :: ps) => if (decide (ps.length ≤ 3) && isName h) = true then (if (ps.map (meas b n)).contains 0 = true then 0 else 1 + (ps.map (meas b n)).sum) else 0
    | _ => 0
theorem at0 {α : Type} {x : α} {xs : List α} : atI (x :: xs) 0 = some x := atI_nat (j := 0) rfl
theorem small {n : Nat} (h : n ≤ 1000) : n < sizeLine := Nat.lt_of_le_of_lt h (by rw [sizeLine_eq]; decide)
def lettersL (x : Str) (m : Int) : Bool := (decide ((0 : Int) < (x.length : Int)) && decide ((x.length : Int) ≤ m)) && (x.cps.toList.filter fun c => !isLet c).isEmpty
theorem lettersL_eq (x : Str) (m : Int) : lettersL x m = lettersOk x m := by
  unfold lettersL lettersOk
  have e1 : decide ((0 : Int) < (x.length : Int)) = decide ((1 : Int) ≤ (x.length : Int)) := decide_eq_decide.mpr (by omega)
  have e2 : ∀ l : List Nat, (l.filter fun c => !isLet c).isEmpty = (l.map isLet).all id := by
    intro l
    induction l with
    | nil => rfl
    | cons c l ih =>
      rw [List.filter_cons, List.map_cons, List.all_cons]
      cases h : isLet c with
      | true => simpa using ih
      | false => simp
  rw [e1, e2]
theorem plains_signs : ∀ l : List Nat, (∀ c ∈ l, c < 0x110000) → plains (l.map fun c => D.str ⟨#[c]⟩) = true
  | [], _ => by simp [plains]
  | c :: l, h => by
    have h1 : PyData.strOk ⟨#[c]⟩ = true := by
      have := h c List.mem_cons_self
      simp [PyData.strOk, this]
    have h2 := plains_signs l fun c hc => h c (List.mem_cons_of_mem _ hc)
    simp only [List.map_cons, plains, DL.plain, h1, h2, Bool.and_self]
theorem deep_signs : ∀ l : List Nat, deepDs (l.map fun c => D.str ⟨#[c]⟩) = 0
  | [] => by simp [deepDs]
  | c :: l => by simp [deepDs, deepD, deep_signs l]
theorem eqD_nil (ds : List D) : eqD (.lst ds) (.lst []) = ds.isEmpty := by
  cases ds <;> simp [eqD, toPy, toPys, PyData.eqv, PyData.eqvAll]
theorem strOk_mem {x : Str} (h : PyData.strOk x = true) : ∀ c ∈ x.cps.toList, c < 0x110000 := by
  intro c hc
  unfold PyData.strOk at h
  rw [Array.all_eq_true_iff_forall_mem] at h
  simpa using h c (by simpa using hc)
theorem cmpOk_nil : cmpOk (.lst []) := ⟨by simp [DL.plain, plains], by simp [deepD, deepDs]⟩
def sgP : D → Bool
  | .str y => !isLet (y.cps.toList.headD 0)
  | _ => false
def shp (b : Bool) : Nat → D → Bool
  | 0 => fun d => match d with
    | .str x => b && isHole (.str x)
    | _ => false
  | n + 1 => fun d => match d with
    | .str x => b && isHole (.str x)
    | .tup (.str h :: ps) => decide (ps.length ≤ 3) && (lettersL h 8 && (ps.map (shp b n)).all id)
    | _ => false
theorem cutS_ok {x : Str} {lo hi : Option Int} (h : PyData.strOk x = true) : PyData.strOk (cutS x lo hi) = true := by
  unfold PyData.strOk
  rw [Array.all_eq_true_iff_forall_mem]
  intro c hc
  have h1 : c ∈ x.cps.toList := by
    unfold cutS at hc
    have h2 : c ∈ (x.cps.toList.drop (HT.sIx x.length 0 lo)).take (HT.sIx x.length x.length hi - HT.sIx x.length 0 lo) := by simpa using hc
    exact List.mem_of_mem_drop (List.mem_of_mem_take h2)
  simpa using strOk_mem h c h1
theorem cut1 {x : D} {xs : List D} : cutD (x :: xs) (some 1) none = xs := by
  unfold cutD
  have e1 : HT.sIx (x :: xs).length 0 (some 1) = 1 := by
    have := HT.sIx_nat (x :: xs).length 0 1
    rw [show ((1 : Nat) : Int) = 1 from rfl] at this
    rw [this, List.length_cons]
    omega
  rw [e1]
  show List.take ((x :: xs).length - 1) xs = xs
  simp
theorem shp_str (b : Bool) (n : Nat) (x : Str) : shp b n (.str x) = (b && isHole (.str x)) := by cases n <;> rfl
def pat : Nat → D → Prop
  | 0 => fun d => match d with
    | .str x => short (.str x)
    | _ => False
  | n + 1 => fun d => match d with
    | .str x => short (.str x)
    | .tup (_ :: ps) => ps.length ≤ 3 ∧ ∀ x, x ∈ ps → pat n x
    | _ => False
def sz : Nat → D → Int
  | 0 => fun _ => 1
  | n + 1 => fun d => match d with
    | .tup (_ :: ps) => 1 + (ps.map (sz n)).sum
    | _ => 1
def dp : Nat → D → Int
  | 0 => fun _ => 1
  | n + 1 => fun d => match d with
    | .tup (_ :: p :: ps) => 1 + maxL ((p :: ps).map (dp n))
    | _ => 1
theorem pat.cases {n : Nat} {d : D} (h : pat n d) : (∃ x, d = .str x ∧ short (.str x)) ∨ ∃ m hd ps, n = m + 1 ∧ d = .tup (hd :: ps) ∧ ps.length ≤ 3 ∧ ∀ x, x ∈ ps → pat m x := by
  cases n with
  | zero => cases d <;> first | exact h.elim | exact .inl ⟨_, rfl, h⟩
  | succ n =>
    cases d with
    | str x => exact .inl ⟨x, rfl, h⟩
    | tup xs =>
      cases xs with
      | nil => exact h.elim
      | cons hd ps => exact .inr ⟨n, hd, ps, rfl, rfl, h.1, h.2⟩
    | _ => exact h.elim
theorem sz_str (n : Nat) (x : Str) : sz n (.str x) = 1 := by cases n <;> rfl
theorem dp_str (n : Nat) (x : Str) : dp n (.str x) = 1 := by cases n <;> rfl
theorem shp_pat {b : Bool} : ∀ {n : Nat} {d : D}, fit n d → shp b n d = true → pat n d
  | 0, d, hf, h => by cases d <;> first | exact hf | cases h | exact hf.elim
  | n + 1, d, hf, h => by
    cases d with
    | str x => exact hf
    | tup xs =>
      cases xs with
      | nil => cases h
      | cons hd ps =>
        cases hd with
        | str y =>
          have h' : (decide (ps.length ≤ 3) && (lettersL y 8 && (ps.map (shp b n)).all id)) = true := h
          simp only [Bool.and_eq_true, decide_eq_true_eq] at h'
          refine ⟨h'.1, fun x hx => shp_pat (b := b) (hf.2 x (List.mem_cons_of_mem _ hx)) ?_⟩
          have := List.all_eq_true.mp h'.2.2 (shp b n x) (List.mem_map.mpr ⟨x, hx, rfl⟩)
          exact this
        | _ => cases h
    | _ => cases h
def due (b : Bool) (n : Nat) (d : D) : Bool := shp b n d && (decide (sz n d < 31) && decide (dp n d < 6))
theorem sz_pos : ∀ (n : Nat) (d : D), 1 ≤ sz n d
  | 0, _ => Int.le_refl 1
  | n + 1, d => by
    cases d with
    | tup xs =>
      cases xs with
      | nil => exact Int.le_refl 1
      | cons hd ps =>
        show 1 ≤ 1 + (ps.map (sz n)).sum
        have : ∀ l : List D, 0 ≤ (l.map (sz n)).sum := by
          intro l
          induction l with
          | nil => exact Int.le_refl 0
          | cons a l ih =>
            rw [List.map_cons, List.sum_cons]
            have := sz_pos n a
            omega
        have := this ps
        omega
    | _ => exact Int.le_refl 1
theorem dp_pos : ∀ (n : Nat) (d : D), 1 ≤ dp n d
  | 0, _ => Int.le_refl 1
  | n + 1, d => by
    cases d with
    | tup xs =>
      cases xs with
      | nil => exact Int.le_refl 1
      | cons hd ps =>
        cases ps with
        | nil => exact Int.le_refl 1
        | cons p ps =>
          show 1 ≤ 1 + maxL ((p :: ps).map (dp n))
          have := (maxL_mem (ns := (p :: ps).map (dp n)) (by simp)).2 (dp n p) (by simp)
          have := dp_pos n p
          omega
    | _ => exact Int.le_refl 1
theorem meas_eq (b : Bool) : ∀ (k n : Nat) (d : D), fit n d → meas b k d = if shp b n d = true ∧ dp n d ≤ (k : Int) then sz n d else 0
  | 0, n, d, hf => by
    have h1 := dp_pos n d
    rw [if_neg (by omega)]
    rfl
  | k + 1, n, d, hf => by
    cases d with
    | str x =>
      rw [shp_str, sz_str, dp_str]
      show (if (b && isHole (.str x)) = true then (1 : Int) else 0) = _
      by_cases h : (b && isHole (.str x)) = true
      · rw [if_pos h, if_pos ⟨h, by omega⟩]
      · rw [if_neg h, if_neg (fun q => h q.1)]
    | tup xs =>
      cases n with
      | zero => exact hf.elim
      | succ n =>
      cases xs with
      | nil => rfl
      | cons hd ps =>
        cases hd with
        | str y =>
          have hp : ∀ x, x ∈ ps → fit n x := fun x hxp => hf.2 x (List.mem_cons_of_mem _ hxp)
          have ih : ∀ x, x ∈ ps → meas b k x = if shp b n x = true ∧ dp n x ≤ (k : Int) then sz n x else 0 := fun x hx => meas_eq b k n x (hp x hx)
          have e1 : isName (.str y) = lettersL y 8 := by rw [lettersL_eq]; rfl
          show (if (decide (ps.length ≤ 3) && isName (.str y)) = true then (if (ps.map (meas b k)).contains 0 = true then (0 : Int) else 1 + (ps.map (meas b k)).sum) else 0)
            = if (decide (ps.length ≤ 3) && (lettersL y 8 && (ps.map (shp b n)).all id)) = true ∧ dp (n + 1) (.tup (.str y :: ps)) ≤ ((k + 1 : Nat) : Int) then 1 + (ps.map (sz n)).sum else 0
          rw [e1]
          by_cases h0 : (decide (ps.length ≤ 3) && lettersL y 8) = true
          · rw [if_pos h0]
            simp only [Bool.and_eq_true] at h0
            have hd' : dp (n + 1) (.tup (.str y :: ps)) ≤ ((k + 1 : Nat) : Int) ↔ ∀ x, x ∈ ps → dp n x ≤ (k : Int) := by
              cases ps with
              | nil =>
                constructor
                · intro _ x hx; cases hx
                · intro _
                  show (1 : Int) ≤ _
                  omega
              | cons p ps =>
                have hm := maxL_mem (ns := (p :: ps).map (dp n)) (by simp)
                constructor
                · intro h x hx
                  have h' : 1 + maxL ((p :: ps).map (dp n)) ≤ ((k + 1 : Nat) : Int) := h
                  have := hm.2 (dp n x) (List.mem_map.mpr ⟨x, hx, rfl⟩)
                  omega
                · intro h
                  obtain ⟨x, hx, e⟩ := List.mem_map.mp hm.1
                  have := h x hx
                  show 1 + maxL ((p :: ps).map (dp n)) ≤ ((k + 1 : Nat) : Int)
                  omega
            by_cases h1 : ∀ x, x ∈ ps → shp b n x = true ∧ dp n x ≤ (k : Int)
            · have e2 : ps.map (meas b k) = ps.map (sz n) := List.map_congr_left fun x hx => by rw [ih x hx, if_pos (h1 x hx)]
              have e3 : (ps.map (meas b k)).contains 0 = false := by
                rw [e2]
                cases hc : (ps.map (sz n)).contains 0 with
                | false => rfl
                | true =>
                  have := List.contains_iff_mem.mp hc
                  obtain ⟨x, hx, e⟩ := List.mem_map.mp this
                  have := sz_pos n x
                  omega
              have e4 : (ps.map (shp b n)).all id = true := List.all_eq_true.mpr fun q hq => by
                obtain ⟨x, hx, e⟩ := List.mem_map.mp hq
                rw [← e]
                exact (h1 x hx).1
              rw [e3, e2, if_neg Bool.false_ne_true, if_pos]
              refine ⟨?_, hd'.mpr fun x hx => (h1 x hx).2⟩
              simp only [Bool.and_eq_true]
              exact ⟨h0.1, h0.2, e4⟩
            · have e3 : (ps.map (meas b k)).contains 0 = true := by
                refine List.contains_iff_mem.mpr ?_
                obtain ⟨x, hx⟩ := Classical.not_forall.mp h1
                obtain ⟨hx, hx2⟩ := Classical.not_imp.mp hx
                exact List.mem_map.mpr ⟨x, hx, by rw [ih x hx, if_neg hx2]⟩
              rw [if_pos e3, if_neg]
              intro ⟨q1, q2⟩
              simp only [Bool.and_eq_true] at q1
              refine h1 fun x hx => ⟨?_, hd'.mp q2 x hx⟩
              exact List.all_eq_true.mp q1.2.2 (shp b n x) (List.mem_map.mpr ⟨x, hx, rfl⟩)
          · rw [if_neg h0, if_neg]
            intro ⟨q1, _⟩
            simp only [Bool.and_eq_true] at q1 h0
            exact h0 ⟨q1.1, q1.2.1⟩
        | _ =>
          show (if (decide (ps.length ≤ 3) && false) = true then _ else (0 : Int)) = _
          rw [Bool.and_false, if_neg Bool.false_ne_true, if_neg]
          intro q
          exact absurd q.1 Bool.false_ne_true
    | _ =>
      show (0 : Int) = _
      rw [if_neg]
      intro q
      cases n <;> exact absurd q.1 Bool.false_ne_true
theorem both_same (b : Bool) {n : Nat} {d : D} (hf : fit n d) : (decide ((1 : Int) ≤ meas b 5 d) && decide (meas b 5 d ≤ 30)) = due b n d := by
  rw [meas_eq b 5 n d hf]
  have h1 := sz_pos n d
  unfold due
  by_cases h : shp b n d = true ∧ dp n d ≤ ((5 : Nat) : Int)
  · rw [if_pos h, h.1]
    have e1 : decide ((1 : Int) ≤ sz n d) = true := decide_eq_true h1
    have e2 : decide (dp n d < 6) = true := decide_eq_true (by have := h.2; omega)
    have e3 : decide (sz n d ≤ 30) = decide (sz n d < 31) := decide_eq_decide.mpr (by omega)
    rw [e1, e2, e3]
    simp
  · rw [if_neg h]
    have e1 : decide ((1 : Int) ≤ 0) = false := by decide
    rw [e1, Bool.false_and]
    cases hs : shp b n d with
    | false => rfl
    | true =>
      have e2 : decide (dp n d < 6) = false := decide_eq_false (fun q => h ⟨hs, by omega⟩)
      rw [e2]
      simp
def allLet (x : Str) : Prop := ∀ c, c ∈ x.cps.toList → isLet c = true
theorem app_toList (x y : Str) : (x ++ y).cps.toList = x.cps.toList ++ y.cps.toList := by
  show (x.cps ++ y.cps).toList = _
  rw [Array.toList_append]
theorem app_length (x y : Str) : (x ++ y).length = x.length + y.length := by
  show (x.cps ++ y.cps).size = _
  rw [Array.size_append]
  rfl
theorem lets_length : lets.length = 26 := by decide +kernel
theorem lets_list : (lets.cps.toList.length : Int) = 26 := by decide +kernel
theorem lettersOk_of {x : Str} {m : Int} (h1 : 1 ≤ x.length) (h2 : (x.length : Int) ≤ m) (h : allLet x) : lettersOk x m = true := by
  unfold lettersOk
  rw [decide_eq_true (by omega), decide_eq_true h2]
  simp only [Bool.and_self, Bool.true_and]
  exact List.all_eq_true.mpr fun b hb => by
    obtain ⟨c, hc, rfl⟩ := List.mem_map.mp hb
    exact h c hc
theorem of_lettersOk {x : Str} {m : Int} (h : lettersOk x m = true) : 1 ≤ x.length ∧ (x.length : Int) ≤ m ∧ allLet x := by
  unfold lettersOk at h
  simp only [Bool.and_eq_true, decide_eq_true_eq] at h
  refine ⟨by omega, h.1.2, fun c hc => ?_⟩
  exact List.all_eq_true.mp h.2 (isLet c) (List.mem_map.mpr ⟨c, hc, rfl⟩)
theorem isLet_small {c : Nat} (h : isLet c = true) : c < 0x110000 := by
  have h' : c ∈ lets.cps.toList := of_decide_eq_true h
  have all : ∀ c, c ∈ lets.cps.toList → c < 0x110000 := by decide +kernel
  exact all c h'
theorem strOk_of {x : Str} (h : ∀ c, c ∈ x.cps.toList → c < 0x110000) : PyData.strOk x = true := by
  unfold PyData.strOk
  rw [Array.all_eq_true_iff_forall_mem]
  intro c hc
  simpa using h c (by simpa using hc)
def isWord (d : D) : Prop := ∃ x, d = .str x ∧ lettersOk x 8 = true
theorem isWord.short {d : D} (h : isWord d) : short d := by
  obtain ⟨x, rfl, h⟩ := h
  obtain ⟨h1, h2, h3⟩ := of_lettersOk h
  exact ⟨by rw [sizeLine_eq]; omega, strOk_of fun c hc => isLet_small (h3 c hc)⟩
def isHoleD (d : D) : Prop := ∃ x, d = .str x ∧ x.length ≤ 5 ∧ isHole (.str x) = true
theorem words_ok : ∀ x, x ∈ (["a", "b", "f", "g"] : List Str) → lettersOk x 8 = true := by decide +kernel
theorem words_ok2 : ∀ x, x ∈ (["told", "back", "then", "parts", "same", "like", "put", "rule", "hole", "z"] : List Str) → lettersOk x 8 = true := by decide +kernel
theorem pick_strs {xs : List Str} {Q : Str → Prop} (h : ∀ x, x ∈ xs → Q x) {d : D} (hd : d ∈ xs.map D.str) : ∃ x, d = .str x ∧ Q x := by
  obtain ⟨x, hx, rfl⟩ := List.mem_map.mp hd
  exact ⟨x, rfl, h x hx⟩
theorem cut_head {x : Str} {c : Nat} {l : List Nat} (h : x.cps.toList = c :: l) : cutS x none (some 1) = ⟨#[c]⟩ := by
  have hx : x.length = l.length + 1 := by
    show x.cps.size = _
    rw [← Array.length_toList, h, List.length_cons]
  unfold cutS
  have e1 : HT.sIx x.length x.length (some 1) = min 1 x.length := HT.sIx_nat _ _ 1
  rw [HT.sIx_none, e1, h, hx]
  have e2 : min 1 (l.length + 1) = 1 := by omega
  rw [e2]
  rfl
theorem cut_tail {x : Str} {c : Nat} {l : List Nat} (h : x.cps.toList = c :: l) : cutS x (some 1) none = ⟨l.toArray⟩ := by
  have hx : x.length = l.length + 1 := by
    show x.cps.size = _
    rw [← Array.length_toList, h, List.length_cons]
  unfold cutS
  have e1 : HT.sIx x.length 0 (some 1) = min 1 x.length := HT.sIx_nat _ _ 1
  rw [HT.sIx_none, e1, h, hx]
  have e2 : min 1 (l.length + 1) = 1 := by omega
  rw [e2]
  show (⟨(List.take (l.length + 1 - 1) l).toArray⟩ : Str) = _
  rw [Nat.add_sub_cancel, List.take_length]
theorem quest : ("?" : Str) = ⟨#[63]⟩ := by decide +kernel
theorem isHole_of {y : Str} (h1 : allLet y) (h2 : 1 ≤ y.length) (h3 : y.length ≤ 4) : isHoleD (.str ("?" ++ y)) := by
  have e : (("?" : Str) ++ y).cps.toList = 63 :: y.cps.toList := by
    rw [app_toList, quest]
    rfl
  refine ⟨_, rfl, ?_, ?_⟩
  · rw [app_length, quest]
    show 1 + y.length ≤ 5
    omega
  · show (decide (cutS (("?" : Str) ++ y) none (some 1) = "?") && lettersOk (cutS (("?" : Str) ++ y) (some 1) none) 4) = true
    rw [cut_head e, cut_tail e, quest]
    have e2 : (⟨y.cps.toList.toArray⟩ : Str) = y := by simp
    rw [e2, lettersOk_of h2 (by omega) h1]
    simp
theorem isHoleD.short {d : D} (h : isHoleD d) : short d := by
  obtain ⟨x, rfl, h1, h2⟩ := h
  refine ⟨by rw [sizeLine_eq]; omega, ?_⟩
  have h2' : (decide (cutS x none (some 1) = "?") && lettersOk (cutS x (some 1) none) 4) = true := h2
  simp only [Bool.and_eq_true, decide_eq_true_eq] at h2'
  refine strOk_of fun c hc => ?_
  cases e : x.cps.toList with
  | nil => rw [e] at hc; cases hc
  | cons c0 l =>
    rw [e] at hc
    have q1 := cut_head e
    have q2 := cut_tail e
    rw [h2'.1, quest] at q1
    have c0' : c0 = 63 := by
      have := congrArg Str.cps q1
      simp at this
      exact this.symm
    rcases List.mem_cons.mp hc with rfl | hc
    · rw [c0']; decide
    · have := (of_lettersOk h2'.2).2.2
      rw [q2] at this
      exact isLet_small (this c (by simpa using hc))
theorem holes_ok : ∀ x, x ∈ (["?x", "?y", "?z"] : List Str) → x.length ≤ 5 ∧ isHole (.str x) = true := by
  intro x hx
  simp at hx
  rcases hx with rfl | rfl | rfl <;> exact ⟨by decide +kernel, by decide +kernel⟩
def gpat (b : Bool) : Nat → D → Prop
  | 0 => fun _ => False
  | n + 1 => fun d => (b = true ∧ isHoleD d) ∨ ∃ h ps, d = .tup (h :: ps) ∧ isWord h ∧ ps.length ≤ 3 ∧ ∀ p, p ∈ ps → gpat b n p
theorem fit_str {n : Nat} {x : Str} (h : short (.str x)) : fit n (.str x) := by cases n <;> exact h
theorem isWord.fit {d : D} {n : Nat} (h : isWord d) : fit n d := by
  have hs := h.short
  obtain ⟨x, rfl, _⟩ := h
  exact fit_str hs
theorem isHoleD.fit {d : D} {n : Nat} (h : isHoleD d) : fit n d := by
  have hs := h.short
  obtain ⟨x, rfl, _⟩ := h
  exact fit_str hs
theorem gpat.fit {b : Bool} : ∀ {n : Nat} {d : D}, gpat b n d → fit n d
  | 0, d, h => h.elim
  | n + 1, d, h => by
    rcases h with ⟨_, h⟩ | ⟨hd, ps, rfl, hw, hl, hp⟩
    · exact h.fit
    · refine ⟨by rw [List.length_cons]; omega, fun x hx => ?_⟩
      rcases List.mem_cons.mp hx with rfl | hx
      · exact hw.fit
      · exact (hp x hx).fit
theorem gpat.cases {b : Bool} {n : Nat} {d : D} (h : gpat b n d) : (∃ x, d = .str x ∧ short (.str x)) ∨ ∃ m hd ps, n = m + 1 ∧ d = .tup (hd :: ps) ∧ isWord hd ∧ ps.length ≤ 3 ∧ ∀ p, p ∈ ps → gpat b m p := by
  cases n with
  | zero => exact h.elim
  | succ n =>
    rcases h with ⟨_, h⟩ | ⟨hd, ps, rfl, hw, hl, hp⟩
    · have hs := h.short
      obtain ⟨x, rfl, _⟩ := h
      exact .inl ⟨x, rfl, hs⟩
    · exact .inr ⟨n, hd, ps, rfl, rfl, hw, hl, hp⟩
theorem short_lit (x : Str) (h : (decide (x.length < 1000) && PyData.strOk x) = true) : short (.str x) := by
  simp only [Bool.and_eq_true, decide_eq_true_eq] at h
  exact ⟨by rw [sizeLine_eq]; omega, h.2⟩
theorem fit_tup1 {n : Nat} {d : D} (h : fit n d) : fit (n + 1) (.tup [d]) := ⟨by simp, fun x hx => by rw [List.mem_singleton.mp hx]; exact h⟩
theorem sl1 {n : Nat} (h : n ≤ 1000) : n ≤ sizeLine := Nat.le_of_lt (small h)
theorem mem_cut {xs : List D} {lo hi : Option Int} {x : D} (h : x ∈ cutD xs lo hi) : x ∈ xs := List.mem_of_mem_drop (List.mem_of_mem_take h)
theorem len_cut (xs : List D) (lo hi : Option Int) : (cutD xs lo hi).length ≤ xs.length := by
  unfold cutD
  rw [List.length_take, List.length_drop]
  omega
end Ma

set_option Elab.async false
set_option linter.all false
set_option maxRecDepth 100000
set_option maxHeartbeats 4000000
/-! What the abstract defs of the first stage give. -/
namespace LMs
open PySem L2 DL AL LM Ma
variable [Wd]
/-- F gives z, nothing being changed; F raises x -/
def Pu (F : AF) (ds : List D) (z : D) : Prop := ∀ Γ P X, P z Γ → F ds Γ P X
def Er (F : AF) (ds : List D) (x : D) : Prop := ∀ Γ P X, X x Γ → F ds Γ P X
theorem lcL_map {j : Nat} {e : AE} {δ : DL.Env} {f : D → D} {Γ : Sto} : ∀ (xs acc : List D) {P : List D → Sto → Prop}, (∀ x, x ∈ xs → ∀ P X, P (f x) Γ → e (δ.set j (some x)) Γ P X) → P (acc ++ xs.map f) Γ → aLcL (agN j) aYes e δ xs acc Γ P
  | [], acc, P, _, h => by rw [List.map_nil, List.append_nil] at h; exact h
  | x :: xs, acc, P, he, h => ⟨fun _ => he x List.mem_cons_self _ _ (lcL_map xs (acc ++ [f x]) (fun y hy => he y (List.mem_cons_of_mem _ hy)) (by rw [List.append_assoc]; exact h)), fun z => by cases z⟩
variable {K : PySem.W.Frag} {cs : Cs}
def Slet (F : AF) : Prop := ∀ (x : Str) (m : Int), x.length < sizeLine → Pu F [.str x, .int m] (.bl (lettersOk x m))
def Sname (F : AF) : Prop := ∀ d, short d → Pu F [d] (.bl (isName d))
def Shole (F : AF) : Prop := ∀ d, short d → Pu F [d] (.bl (isHole d))
def Smeas (n : Nat) (F : AF) : Prop := ∀ d m b k, k < n → fit m d → Pu F [d, .int ((k : Nat) : Int), .bl b] (.int (meas b k d))
def isPat (d : D) : Bool := decide ((1 : Int) ≤ meas true 5 d) && decide (meas true 5 d ≤ 30)
def Sisp (F : AF) : Prop := ∀ d m, fit m d → Pu F [d] (.bl (isPat d))
def Sneed (cs : Cs) (F : AF) : Prop := ∀ d m, fit m d → (isPat d = true → Pu F [d] .non) ∧ (isPat d = false → Er F [d] (.exc0 cs.BadPattern))
theorem s_letters : Slet (afn ["text", "most", "sign"] ["text", "most"] (u_are_letters K cs)) := fun x m hx Γ P X hP => by
  refine ⟨rfl, ?_⟩
  show u_are_letters K cs _ [some (.str x), some (.int m), none] Γ
  dsimp only [u_are_letters, aRet, aAndV, aChain, aC, aCB, aCons, aNil, aVar, cLen, List.map, rs, oCmp, onB, by2, List.getElem?_cons_zero, List.getElem?_cons_succ, aLc, aSeqI, itemsOf, wipeD, List.set, cAll]
  unfold lettersOk at hP
  refine ⟨Nat.le_of_lt hx, fun h1 => ⟨fun h2 => ⟨by rw [signs_len]; exact hx, ?_⟩, fun h2 => ?_⟩, fun h1 => ⟨fun z => (by cases z), fun _ => ?_⟩⟩
  · refine lcL_map (f := sgF) _ _ (fun y hy P X h => ?_) ⟨x.cps.toList.map isLet, ?_, ?_⟩
    · obtain ⟨c, _, rfl⟩ := mem_signs hy
      refine ⟨c, rfl, ?_⟩
      rw [Bool.false_xor]
      exact h
    · rw [List.nil_append, signs_sg]
      exact blsD_of _
    · rw [h1, h2] at hP
      exact hP
  · rw [h1, h2] at hP
    exact hP
  · rw [h1] at hP
    exact hP
theorem isTy_str {d : D} (h : short d) : isTyD "str" d = some (isStr d) := by
  unfold isTyD
  rw [if_neg h.ty]
  cases d with
  | ref _ => exact h.elim
  | ty _ => exact h.elim
  | exc0 _ => exact h.elim
  | exc1 _ _ _ => exact h.elim
  | str _ => exact (by decide +kernel : kitB "str" "str" = some true)
  | non => exact (by decide +kernel : kitB "NoneType" "str" = some false)
  | bl _ => exact (by decide +kernel : kitB "bool" "str" = some false)
  | int _ => exact (by decide +kernel : kitB "int" "str" = some false)
  | tup _ => exact (by decide +kernel : kitB "tuple" "str" = some false)
  | lst _ => exact (by decide +kernel : kitB "list" "str" = some false)
  | dct _ => exact (by decide +kernel : kitB "dict" "str" = some false)
theorem isTy_tup {d : D} (h : short d) : isTyD "tuple" d = some (isTup d) := by
  unfold isTyD
  rw [if_neg h.ty]
  cases d with
  | ref _ => exact h.elim
  | ty _ => exact h.elim
  | exc0 _ => exact h.elim
  | exc1 _ _ _ => exact h.elim
  | str _ => exact (by decide +kernel : kitB "str" "tuple" = some false)
  | non => exact (by decide +kernel : kitB "NoneType" "tuple" = some false)
  | bl _ => exact (by decide +kernel : kitB "bool" "tuple" = some false)
  | int _ => exact (by decide +kernel : kitB "int" "tuple" = some false)
  | tup _ => exact (by decide +kernel : kitB "tuple" "tuple" = some true)
  | lst _ => exact (by decide +kernel : kitB "list" "tuple" = some false)
  | dct _ => exact (by decide +kernel : kitB "dict" "tuple" = some false)
/-- isinstance(x, T) of plain data -/
theorem isi_at {d : D} {n : String} {b : Bool} {Γ : Sto} {Q : D → Prop} (hs : short d) (e : isTyD n d = some b) (q : Q (.bl b)) : cIsi K [rs Γ d, .ty n] Q := by
  cases d with
  | ref _ => exact hs.elim
  | ty _ => exact hs.elim
  | exc0 _ => exact hs.elim
  | exc1 _ _ _ => exact hs.elim
  | _ => exact ⟨b, e, q⟩
theorem s_name {F : AF} (hl : Slet F) : Sname (afn ["thing"] ["thing"] (u_is_name K cs F)) := fun d hd Γ P X hP => by
  refine ⟨rfl, ?_⟩
  show u_is_name K cs F _ [some d] Γ
  dsimp only [u_is_name, aRet, aAndV, aIsi, aCB, aCons, aNil, aVar, aC, List.map, List.getElem?_cons_zero, aCall]
  refine isi_at hd (isTy_str hd) ⟨fun h => ?_, fun h => ?_⟩
  · cases d with
    | str x => exact hl x 8 hd.1 Γ _ _ hP
    | _ => cases h
  · cases d with
    | str x => cases h
    | _ => exact hP
theorem s_hole {F : AF} (hl : Slet F) : Shole (afn ["thing"] ["thing"] (u_is_hole K cs F)) := fun d hd Γ P X hP => by
  refine ⟨rfl, ?_⟩
  show u_is_hole K cs F _ [some d] Γ
  dsimp only [u_is_hole, aRet, aAndV, aIsi, aCB, aCons, aNil, aVar, aC, List.map, List.getElem?_cons_zero, aCall, aOp, aSl, aPart, aNoPart]
  refine isi_at hd (isTy_str hd) ⟨fun h => ?_, fun h => ?_⟩
  · cases d with
    | str x =>
      have hx := hd.1
      refine ⟨Nat.le_of_lt hx, ⟨fun h1 => ⟨Nat.le_of_lt hx, ?_⟩, fun h1 => ?_⟩⟩
      · refine hl _ 4 (Nat.lt_of_le_of_lt (cutS_length x _ _) hx) Γ _ _ ?_
        have e : isHole (.str x) = lettersOk (cutS x (some 1) none) 4 := by
          show (decide _ && _) = _
          have h1' : decide (cutS x none (some 1) = "?") = true := h1
          rw [h1', Bool.true_and]
        rw [← e]
        exact hP
      · have e : isHole (.str x) = false := by
          show (decide _ && _) = _
          have h1' : decide (cutS x none (some 1) = "?") = false := h1
          rw [h1', Bool.false_and]
        rw [e] at hP
        exact hP
    | _ => cases h
  · cases d with
    | str x => cases h
    | _ => exact hP
end LMs

set_option Elab.async false
set_option linter.all false
set_option maxRecDepth 100000
set_option maxHeartbeats 4000000
namespace LMs
open PySem L2 DL AL LM Ma
variable [Wd]
local macro_rules | `(tactic| walk_at "al") => `(tactic| dsimp only [aSeq, aIfS, aRet, aRetN, aNext, aDrop, aAsg, aTest, aNot, aAnd, aOr, aYes, aOp, aUn, aC, aVar, aCB, aCons, aNil, aTup, aLst, aChain, aAndV, aOrV, aNotV, aIf, aSl, aPart, aNoPart, aCall, aCallK, aStar, aPar, aAug, aFor, aRng, aSeqI, aLc, aLc2, aDc, aListO, aRel, aLstO, aMaxD, aJoin, aRaise0, aIsi, agN, itemsOf, wipeD, List.map, List.set, List.getElem?_cons_zero, List.getElem?_cons_succ, List.append, List.length, oCmp, oInt, onB, by2, oIxB, oIx, oEqB, oEq, oAdd, cLen, cSum, cInt, rs])
variable {K : PySem.W.Frag} {cs : Cs}
theorem ft {p : Prop} (z : false = true) : p := by cases z
theorem tf {p : Prop} (z : true = false) : p := by cases z
theorem inV_zero (ns : List Int) : inV (.int 0) (ns.map V.int) = ns.contains 0 := inV_ints 0 ns
theorem flatDs_ints : ∀ ns : List Int, flatDs (ns.map D.int) = some (ns.map V.int)
  | [] => rfl
  | n :: ns => by
    show (match flatD (.int n), flatDs (ns.map D.int) with | some v, some vs => some (v :: vs) | _, _ => none) = _
    rw [flatDs_ints ns]
    rfl
theorem s_meas {Fh Fn Fm : AF} {n : Nat} (hh : Shole Fh) (hn : Sname Fn) (hm : Smeas n Fm) : Smeas (n + 1) (afn ["thing", "left", "holed", "sizes", "head", "parts", "part"] ["thing", "left", "holed"] (u_measured K cs Fh Fn Fm)) := fun d m b k hk hf Γ P X hP => by
  refine ⟨rfl, ?_⟩
  show u_measured K cs Fh Fn Fm _ [some d, some (.int ((k : Nat) : Int)), some (.bl b), none, none, none, none] Γ
  have hs := hf.short
  cases k with
  | zero =>
    delta u_measured
    walk_at "al"
    exact ⟨fun _ => hP, fun z => by simp at z⟩
  | succ k =>
    have e0 : decide (((k + 1 : Nat) : Int) = 0) = false := decide_eq_false (by omega)
    have other : isStr d = false → (∀ h ps, d ≠ .tup (h :: ps)) → meas b (k + 1) d = 0 := fun h1 h2 => by
      cases d with
      | str x => cases h1
      | tup xs =>
        cases xs with
        | nil => rfl
        | cons h ps => exact absurd rfl (h2 h ps)
      | _ => rfl
    cases hd : isStr d with
    | true =>
      cases d with
      | str x =>
        delta u_measured
        walk_at "al"
        rw [e0]
        refine ⟨ft, fun _ => isi_at (Γ := Γ) (d := .str x) hs (isTy_str hs) ⟨fun _ => ⟨fun hb => ?_, fun hb => ?_⟩, tf⟩⟩
        · subst hb
          refine hh (.str x) hs Γ _ _ ?_
          exact hP
        · subst hb
          exact hP
      | _ => cases hd
    | false =>
      cases ht : isTup d with
      | false =>
        rw [other hd (fun h ps e => by rw [e] at ht; cases ht)] at hP
        delta u_measured
        walk_at "al"
        rw [e0]
        refine ⟨ft, fun _ => ?_⟩
        refine isi_at (Γ := Γ) hs (isTy_str hs) ?_
        rw [hd]
        refine ⟨ft, fun _ => ?_⟩
        refine isi_at (Γ := Γ) hs (isTy_tup hs) ?_
        rw [ht]
        exact ⟨fun _ => ⟨fun _ => hP, tf⟩, tf⟩
      | true =>
        cases d with
        | tup xs =>
          delta u_measured
          walk_at "al"
          rw [e0]
          refine ⟨ft, fun _ => ?_⟩
          refine isi_at (Γ := Γ) (d := .tup xs) hs (isTy_str hs) ⟨ft, fun _ => ?_⟩
          refine isi_at (Γ := Γ) (d := .tup xs) hs (isTy_tup hs) ⟨ft, fun _ => ?_⟩
          cases xs with
          | nil => exact ⟨fun z => absurd z (by decide), fun _ => ⟨fun _ => ⟨fun _ => hP, tf⟩, tf⟩⟩
          | cons h ps =>
            have e1 : decide ((1 : Int) ≤ (((h :: ps).length : Nat) : Int)) = true := decide_eq_true (by rw [List.length_cons]; omega)
            have hfit : ∀ x, x ∈ h :: ps → fit (m - 1) x ∧ fit m x := fun x hx => by
              cases m with
              | zero => exact hf.elim
              | succ m => exact ⟨hf.2 x hx, (hf.2 x hx).up⟩
            refine ⟨fun _ => ?_, fun z => by rw [e1] at z; cases z⟩
            by_cases hl : ps.length ≤ 3
            · have e2 : decide (((((h :: ps).length : Nat) : Int)) ≤ 3 + 1) = true := decide_eq_true (by rw [List.length_cons]; omega)
              rw [e2]
              refine ⟨ft, fun _ => ⟨h, at0, hn h (hfit h List.mem_cons_self).2.short Γ _ _ ?_⟩⟩
              cases hnm : isName h with
              | false =>
                have e3 : meas b (k + 1) (.tup (h :: ps)) = 0 := by
                  show (if (decide (ps.length ≤ 3) && isName h) = true then _ else 0) = 0
                  rw [hnm, Bool.and_false, if_neg Bool.false_ne_true]
                rw [e3] at hP
                exact ⟨fun _ => hP, tf⟩
              | true =>
                have e3 : meas b (k + 1) (.tup (h :: ps)) = if (ps.map (meas b k)).contains 0 = true then 0 else 1 + (ps.map (meas b k)).sum := by
                  show (if (decide (ps.length ≤ 3) && isName h) = true then _ else 0) = _
                  rw [hnm, decide_eq_true hl, if_pos (by rfl)]
                rw [e3] at hP
                refine ⟨ft, fun _ => ⟨small (by omega), lcL_map (f := fun x => .int (meas b k x)) _ _ (fun x hx P X h => ?_) ?_⟩⟩
                · refine ⟨rfl, rfl, ?_⟩
                  have e4 : (((k + 1 : Nat) : Int)) - 1 = ((k : Nat) : Int) := by omega
                  show Fm [x, .int ((((k + 1 : Nat) : Int)) - 1), .bl b] Γ P _
                  rw [e4]
                  exact hm x m b k (by omega) (hfit x (List.mem_cons_of_mem _ hx)).2 Γ P _ h
                · have e5 : ps.map (fun x => D.int (meas b k x)) = (ps.map (meas b k)).map D.int := by rw [List.map_map]; rfl
                  rw [List.nil_append, e5]
                  refine ⟨.int 0, _, rfl, flatDs_ints _, ?_⟩
                  rw [Bool.false_xor, inV_zero]
                  refine ⟨fun z => ?_, fun z => ⟨_, intsD_of _, ?_⟩⟩
                  · rw [if_pos z] at hP; exact hP
                  · rw [if_neg (by rw [z]; exact Bool.false_ne_true)] at hP; exact hP
            · have e2 : decide (((((h :: ps).length : Nat) : Int)) ≤ 3 + 1) = false := decide_eq_false (by rw [List.length_cons]; omega)
              rw [e2]
              have e3 : meas b (k + 1) (.tup (h :: ps)) = 0 := by
                show (if (decide (ps.length ≤ 3) && isName h) = true then _ else 0) = 0
                rw [decide_eq_false hl, Bool.false_and, if_neg Bool.false_ne_true]
              rw [e3] at hP
              exact ⟨fun _ => ⟨fun _ => hP, tf⟩, tf⟩
        | _ => cases ht
theorem s_isp {Fm : AF} (hm : Smeas 6 Fm) : Sisp (afn ["thing"] ["thing"] (u_is_pattern K cs Fm)) := fun d m hf Γ P X hP => by
  refine ⟨rfl, ?_⟩
  show u_is_pattern K cs Fm _ [some d] Γ
  delta u_is_pattern
  walk_at "al"
  refine ⟨rfl, rfl, hm d m true 5 (by decide) hf Γ _ _ ?_⟩
  unfold isPat at hP
  refine ⟨fun h1 => ?_, fun h1 => ?_⟩
  · have h1' : decide ((1 : Int) ≤ meas true 5 d) = true := h1
    rw [h1', Bool.true_and] at hP
    exact hP
  · have h1' : decide ((1 : Int) ≤ meas true 5 d) = false := h1
    rw [h1', Bool.false_and] at hP
    exact hP
theorem s_need {Fp : AF} (hp : Sisp Fp) : Sneed cs (afn ["thing"] ["thing"] (u_need_pattern K cs Fp)) := fun d m hf => ⟨fun hi Γ P X hP => by
  refine ⟨rfl, ?_⟩
  show u_need_pattern K cs Fp _ [some d] Γ
  delta u_need_pattern
  walk_at "al"
  refine hp d m hf Γ _ _ ?_
  rw [hi]
  exact ⟨ft, fun _ => hP⟩, fun hi Γ P X hX => by
  refine ⟨rfl, ?_⟩
  show u_need_pattern K cs Fp _ [some d] Γ
  delta u_need_pattern
  walk_at "al"
  refine hp d m hf Γ _ _ ?_
  rw [hi]
  exact ⟨fun _ => hX, tf⟩⟩
end LMs

set_option Elab.async false
set_option linter.all false
set_option maxRecDepth 100000
set_option maxHeartbeats 4000000
namespace LMs
open PySem L2 DL AL LM Ma
variable [Wd]
local macro_rules | `(tactic| walk_at "al") => `(tactic| dsimp only [aSeq, aIfS, aRet, aRetN, aNext, aDrop, aAsg, aTest, aNot, aAnd, aOr, aYes, aOp, aUn, aC, aVar, aCB, aCons, aNil, aTup, aLst, aChain, aAndV, aOrV, aNotV, aIf, aSl, aPart, aNoPart, aCall, aCallK, aStar, aPar, aAug, aFor, aRng, aSeqI, aLc, aLc2, aDc, aListO, aRel, aLstO, aMaxD, aJoin, aRaise0, aIsi, agN, itemsOf, wipeD, List.map, List.set, List.getElem?_cons_zero, List.getElem?_cons_succ, List.append, List.length, oCmp, oInt, onB, by2, oIxB, oIx, oEqB, oEq, oAdd, cLen, cSum, cInt, rs, oSl])
variable {K : PySem.W.Frag} {cs : Cs}
def Scnt (n : Nat) (F : AF) : Prop := ∀ d k, k < n → pat k d → Pu F [d] (.int (sz k d))
def Slev (n : Nat) (F : AF) : Prop := ∀ d k, k < n → pat k d → Pu F [d] (.int (dp k d))
theorem s_cnt {F : AF} {n : Nat} (h : Scnt n F) : Scnt (n + 1) (afn ["pattern", "part"] ["pattern"] (u_counted K cs F)) := fun d k hk hp Γ P X hP => by
  refine ⟨rfl, ?_⟩
  show u_counted K cs F _ [some d, none] Γ
  delta u_counted
  walk_at "al"
  rcases hp.cases with ⟨x, rfl, hs⟩ | ⟨m, hd, ps, rfl, rfl, hl, hps⟩
  · rw [sz_str] at hP
    exact isi_at (Γ := Γ) (d := .str x) hs (isTy_str hs) ⟨fun _ => hP, tf⟩
  · refine isi_at (Γ := Γ) (d := .tup (hd :: ps)) trivial (isTy_str trivial) ⟨ft, fun _ => ?_⟩
    dsimp only
    rw [cut1]
    refine ⟨small (by omega), lcL_map (f := fun x => .int (sz m x)) _ _ (fun x hx P X h' => h x m (by omega) (hps x hx) Γ P _ h') ⟨ps.map (sz m), ?_, ?_⟩⟩
    · have e5 : ps.map (fun x => D.int (sz m x)) = (ps.map (sz m)).map D.int := by rw [List.map_map]; rfl
      rw [List.nil_append, e5]
      exact intsD_of _
    · exact hP
theorem maxI_maxL : ∀ (ns : List Int) (n : Int), maxI (n :: ns) = maxL (n :: ns)
  | [], n => rfl
  | m :: ns, n => by
    show ns.foldl max (max n m) = max n (maxL (m :: ns))
    have e := maxI_maxL ns (max n m)
    have e2 : maxI (max n m :: ns) = ns.foldl max (max n m) := rfl
    rw [← e2, e]
    cases ns with
    | nil => rfl
    | cons k ks =>
      show max (max n m) (maxL (k :: ks)) = max n (max m (maxL (k :: ks)))
      omega
theorem s_lev {F : AF} {n : Nat} (h : Slev n F) : Slev (n + 1) (afn ["pattern", "part"] ["pattern"] (u_levelled K cs F)) := fun d k hk hp Γ P X hP => by
  refine ⟨rfl, ?_⟩
  show u_levelled K cs F _ [some d, none] Γ
  delta u_levelled
  walk_at "al"
  rcases hp.cases with ⟨x, rfl, hs⟩ | ⟨m, hd, ps, rfl, rfl, hl, hps⟩
  · rw [dp_str] at hP
    exact isi_at (Γ := Γ) (d := .str x) hs (isTy_str hs) ⟨fun _ => hP, tf⟩
  · refine isi_at (Γ := Γ) (d := .tup (hd :: ps)) trivial (isTy_str trivial) ⟨ft, fun _ => ?_⟩
    dsimp only
    rw [cut1]
    refine ⟨small (by omega), lcL_map (f := fun x => .int (dp m x)) _ _ (fun x hx P X h' => h x m (by omega) (hps x hx) Γ P _ h') ⟨ps.map (dp m), ?_, ?_⟩⟩
    · have e5 : ps.map (fun x => D.int (dp m x)) = (ps.map (dp m)).map D.int := by rw [List.map_map]; rfl
      rw [List.nil_append, e5]
      exact intsD_of _
    · cases ps with
      | nil => exact hP
      | cons p ps =>
        rw [List.map_cons, maxI_maxL]
        exact hP
/-! ### the holes as they stand -/
def hol : Nat → D → List Str
  | 0 => fun d => match d with
    | .str x => [x]
    | _ => []
  | n + 1 => fun d => match d with
    | .str x => [x]
    | .tup (_ :: ps) => (ps.map (hol n)).flatten
    | _ => []
theorem hol_str (n : Nat) (x : Str) : hol n (.str x) = [x] := by cases n <;> rfl
theorem flat_le : ∀ (ps : List D) (f : D → List Str) (b : Nat), (∀ x, x ∈ ps → (f x).length ≤ b) → ((ps.map f).flatten).length ≤ ps.length * b
  | [], f, b, _ => by simp
  | p :: ps, f, b, h => by
    rw [List.map_cons, List.flatten_cons, List.length_append, List.length_cons, Nat.add_mul, Nat.one_mul]
    have h1 := h p List.mem_cons_self
    have h2 := flat_le ps f b fun x hx => h x (List.mem_cons_of_mem _ hx)
    omega
theorem hol_len : ∀ {n : Nat} {d : D}, pat n d → (hol n d).length ≤ 3 ^ n
  | n, d, h => by
    rcases h.cases with ⟨x, rfl, hs⟩ | ⟨m, hd, ps, rfl, rfl, hl, hps⟩
    · rw [hol_str]
      exact Nat.one_le_pow n 3 (by decide)
    · have h1 := flat_le ps (hol m) (3 ^ m) fun x hx => hol_len (hps x hx)
      show ((ps.map (hol m)).flatten).length ≤ 3 ^ (m + 1)
      rw [Nat.pow_succ]
      have h2 : ps.length * 3 ^ m ≤ 3 * 3 ^ m := Nat.mul_le_mul_right _ hl
      omega
theorem lc2L_flat {δ : DL.Env} {j q : Nat} {i1 : AI} {f : D → List D} {Γ : Sto} (hq : q < δ.length) : ∀ (xs acc : List D) {P : List D → Sto → Prop}, (∀ x, x ∈ xs → ∀ P X, P (f x) Γ → i1 (δ.set j (some x)) Γ P X) → acc.length + ((xs.map f).flatten).length < sizeLine → P (acc ++ (xs.map f).flatten) Γ →
    aLc2L (agN j) aYes i1 (agN q) aYes (aVar q) [q] δ xs acc Γ P
  | [], acc, P, _, _, h => by
    rw [List.map_nil, List.flatten_nil, List.append_nil] at h
    exact h
  | x :: xs, acc, P, he, hl, h => ⟨fun _ => he x List.mem_cons_self _ _ (by
      rw [List.map_cons, List.flatten_cons, List.length_append] at hl
      refine ⟨by omega, lcL_map (f := id) _ _ (fun y hy P X h' => ?_) ?_⟩
      · show aVar q _ Γ P X
        unfold aVar
        rw [List.getElem?_set_self (by show q < ((δ.set j (some x)).set q none).length; rw [List.length_set, List.length_set]; exact hq)]
        exact h'
      · rw [List.map_id]
        refine lc2L_flat hq xs (acc ++ f x) (fun y hy => he y (List.mem_cons_of_mem _ hy)) (by rw [List.length_append]; omega) ?_
        rw [List.append_assoc, ← List.flatten_cons, ← List.map_cons]
        exact h), tf⟩
def Shol (n : Nat) (F : AF) : Prop := ∀ d k, k < n → k ≤ 12 → pat k d → Pu F [d] (.lst ((hol k d).map D.str))
theorem pow_small {k : Nat} (h : k ≤ 12) : 3 ^ k < sizeLine := Nat.lt_of_le_of_lt (Nat.pow_le_pow_right (by decide) h) (by rw [sizeLine_eq]; decide)
theorem s_hol {F : AF} {n : Nat} (h : Shol n F) : Shol (n + 1) (afn ["pattern", "part", "hole"] ["pattern"] (u_standing_holes K cs F)) := fun d k hk h12 hp Γ P X hP => by
  refine ⟨rfl, ?_⟩
  show u_standing_holes K cs F _ [some d, none, none] Γ
  delta u_standing_holes
  walk_at "al"
  have hlen := hol_len hp
  have hsm := pow_small h12
  rcases hp.cases with ⟨x, rfl, hs⟩ | ⟨m, hd, ps, rfl, rfl, hl, hps⟩
  · rw [hol_str] at hP
    exact isi_at (Γ := Γ) (d := .str x) hs (isTy_str hs) ⟨fun _ => ⟨Nat.le_of_lt (small (by decide)), hP⟩, tf⟩
  · refine isi_at (Γ := Γ) (d := .tup (hd :: ps)) trivial (isTy_str trivial) ⟨ft, fun _ => ?_⟩
    dsimp only
    rw [cut1]
    have e : (ps.map fun x => (hol m x).map D.str).flatten = (hol (m + 1) (.tup (hd :: ps))).map D.str := by
      show _ = ((ps.map (hol m)).flatten).map D.str
      rw [List.map_flatten, List.map_map]
      rfl
    refine lc2L_flat (f := fun x => (hol m x).map D.str) (by show 2 < 3; decide) _ _ (fun x hx P X h' => ?_) ?_ ?_
    · exact h x m (by omega) (by omega) (hps x hx) Γ _ _ h'
    · rw [e, List.length_map]
      show 0 + _ < _
      omega
    · rw [e]
      exact hP
end LMs

set_option Elab.async false
set_option linter.all false
set_option maxRecDepth 100000
set_option maxHeartbeats 4000000
namespace LMs
open PySem L2 DL AL LM Ma
variable [Wd]
local macro_rules | `(tactic| walk_at "al") => `(tactic| dsimp only [aSeq, aIfS, aRet, aRetN, aNext, aDrop, aAsg, aTest, aNot, aAnd, aOr, aYes, aOp, aUn, aC, aVar, aCB, aCons, aNil, aTup, aLst, aChain, aAndV, aOrV, aNotV, aIf, aSl, aPart, aNoPart, aCall, aCallK, aStar, aPar, aAug, aFor, aRng, aSeqI, aLc, aLc2, aDc, aListO, aRel, aLstO, aMaxD, aJoin, aRaise0, aIsi, agN, itemsOf, wipeD, List.map, List.set, List.getElem?_cons_zero, List.getElem?_cons_succ, List.append, List.length, oCmp, oInt, onB, by2, oIxB, oIx, oEqB, oEq, oAdd, cLen, cSum, cInt, rs, oSl])
variable {K : PySem.W.Frag} {cs : Cs}
/-- a pattern: heads are names, holes are holes -/
def wf : Nat → D → Prop
  | 0 => fun d => match d with
    | .str x => short (.str x) ∧ x.length ≤ 5 ∧ isHole (.str x) = true
    | _ => False
  | n + 1 => fun d => match d with
    | .str x => short (.str x) ∧ x.length ≤ 5 ∧ isHole (.str x) = true
    | .tup (.str w :: ps) => lettersOk w 8 = true ∧ ps.length ≤ 3 ∧ ∀ p, p ∈ ps → wf n p
    | _ => False
theorem wf.cases {n : Nat} {d : D} (h : wf n d) : (∃ x, d = .str x ∧ short (.str x) ∧ x.length ≤ 5 ∧ isHole (.str x) = true) ∨ ∃ m w ps, n = m + 1 ∧ d = .tup (.str w :: ps) ∧ lettersOk w 8 = true ∧ ps.length ≤ 3 ∧ ∀ p, p ∈ ps → wf m p := by
  cases n with
  | zero => cases d <;> first | exact h.elim | exact .inl ⟨_, rfl, h⟩
  | succ n =>
    cases d with
    | str x => exact .inl ⟨x, rfl, h⟩
    | tup xs =>
      cases xs with
      | nil => exact h.elim
      | cons hd ps =>
        cases hd with
        | str w => exact .inr ⟨n, w, ps, rfl, rfl, h.1, h.2.1, h.2.2⟩
        | _ => exact h.elim
    | _ => exact h.elim
theorem wf.pat : ∀ {n : Nat} {d : D}, wf n d → pat n d
  | n, d, h => by
    rcases h.cases with ⟨x, rfl, hs, _⟩ | ⟨m, w, ps, rfl, rfl, _, hl, hps⟩
    · cases n <;> exact hs
    · exact ⟨hl, fun x hx => (hps x hx).pat⟩
def txt : Nat → D → Str
  | 0 => fun d => match d with
    | .str x => x
    | _ => ""
  | n + 1 => fun d => match d with
    | .str x => x
    | .tup [.str h] => h
    | .tup (.str h :: ps) => ((h ++ "(") ++ Txt.join "," (ps.map (txt n))) ++ ")"
    | _ => ""
theorem txt_str (n : Nat) (x : Str) : txt n (.str x) = x := by cases n <;> rfl
theorem txt_cons (n : Nat) (h : Str) (p : D) (ps : List D) : txt (n + 1) (.tup (.str h :: p :: ps)) = ((h ++ "(") ++ Txt.join "," ((p :: ps).map (txt n))) ++ ")" := rfl
/-! ### joined texts -/
theorem join_list (y : Str) (parts : List Str) : (Txt.join y parts).cps.toList = TL.joinL y.cps.toList (parts.map fun p => p.cps.toList) := by
  rw [TL.join_eq]
  exact TL.tl_join y parts
theorem joinL_len (S : List Nat) : ∀ ps : List (List Nat), (TL.joinL S ps).length ≤ (ps.map (·.length)).sum + ps.length * S.length
  | [] => by simp [TL.joinL]
  | [p] => by simp [TL.joinL]
  | p :: q :: r => by
    have ih := joinL_len S (q :: r)
    show (p ++ (S ++ TL.joinL S (q :: r))).length ≤ _
    rw [List.length_append, List.length_append, List.map_cons, List.sum_cons, List.length_cons, Nat.add_mul, Nat.one_mul]
    omega
theorem joinL_mem {S : List Nat} {c : Nat} : ∀ {ps : List (List Nat)}, c ∈ TL.joinL S ps → c ∈ S ∨ ∃ p, p ∈ ps ∧ c ∈ p
  | [], h => by simp [TL.joinL] at h
  | [p], h => .inr ⟨p, List.mem_cons_self, h⟩
  | p :: q :: r, h => by
    have h' : c ∈ p ++ (S ++ TL.joinL S (q :: r)) := h
    rcases List.mem_append.mp h' with h | h
    · exact .inr ⟨p, List.mem_cons_self, h⟩
    · rcases List.mem_append.mp h with h | h
      · exact .inl h
      · rcases joinL_mem h with h | ⟨p', h1, h2⟩
        · exact .inl h
        · exact .inr ⟨p', List.mem_cons_of_mem _ h1, h2⟩
theorem len_toList (x : Str) : x.cps.toList.length = x.length := Array.length_toList
theorem sum_le (B : Nat) : ∀ l : List Nat, (∀ x, x ∈ l → x ≤ B) → l.sum ≤ l.length * B
  | [], _ => by simp
  | x :: l, h => by
    rw [List.sum_cons, List.length_cons, Nat.add_mul, Nat.one_mul]
    have h1 := h x List.mem_cons_self
    have h2 := sum_le B l fun y hy => h y (List.mem_cons_of_mem _ hy)
    omega
theorem join_len {ys : List Str} {B : Nat} (h : ∀ y, y ∈ ys → y.length ≤ B) : (Txt.join "," ys).length ≤ ys.length * (B + 1) ∧ (ys.map (·.length)).sum + ys.length * (("," : Str)).length ≤ ys.length * (B + 1) := by
  have h1 := sum_le B (ys.map (·.length)) fun x hx => by
    obtain ⟨y, hy, rfl⟩ := List.mem_map.mp hx
    exact h y hy
  rw [List.length_map] at h1
  have e : (("," : Str)).length = 1 := by decide +kernel
  have h2 := joinL_len (("," : Str)).cps.toList (ys.map fun p => p.cps.toList)
  rw [← join_list, len_toList, len_toList, e, List.length_map, List.map_map] at h2
  have e2 : ys.map ((fun x : List Nat => x.length) ∘ fun p : Str => p.cps.toList) = ys.map (·.length) := List.map_congr_left fun y _ => len_toList y
  rw [e2] at h2
  rw [e, Nat.mul_add, Nat.mul_one]
  omega
/-- texts of patterns are not long -/
def tB : Nat → Nat
  | 0 => 8
  | n + 1 => 3 * (tB n + 1) + 10
theorem tB_ge : ∀ n, 8 ≤ tB n
  | 0 => Nat.le_refl _
  | n + 1 => by show 8 ≤ 3 * (tB n + 1) + 10; omega
theorem txt_len : ∀ {n : Nat} {d : D}, wf n d → (txt n d).length ≤ tB n
  | n, d, h => by
    rcases h.cases with ⟨x, rfl, hs, h5, _⟩ | ⟨m, w, ps, rfl, rfl, hw, hl, hps⟩
    · rw [txt_str]
      have := tB_ge n
      omega
    · have hw8 : w.length ≤ 8 := by
        have := (of_lettersOk hw).2.1
        omega
      cases ps with
      | nil =>
        show w.length ≤ 3 * (tB m + 1) + 10
        omega
      | cons p ps =>
        have ih : ∀ y, y ∈ (p :: ps).map (txt m) → y.length ≤ tB m := fun y hy => by
          obtain ⟨x, hx, rfl⟩ := List.mem_map.mp hy
          exact txt_len (hps x hx)
        have hj := (join_len ih).1
        rw [List.length_map] at hj
        have h3 : (p :: ps).length * (tB m + 1) ≤ 3 * (tB m + 1) := Nat.mul_le_mul_right _ hl
        rw [txt_cons, app_length, app_length, app_length]
        have e1 : (("(" : Str)).length = 1 := by decide +kernel
        have e2 : ((")" : Str)).length = 1 := by decide +kernel
        rw [e1, e2]
        show _ ≤ 3 * (tB m + 1) + 10
        omega
end LMs

set_option Elab.async false
set_option linter.all false
set_option maxRecDepth 100000
set_option maxHeartbeats 4000000
namespace LMs
open PySem L2 DL AL LM Ma
variable [Wd]
local macro_rules | `(tactic| walk_at "al") => `(tactic| dsimp only [aSeq, aIfS, aRet, aRetN, aNext, aDrop, aAsg, aTest, aNot, aAnd, aOr, aYes, aOp, aUn, aC, aVar, aCB, aCons, aNil, aTup, aLst, aChain, aAndV, aOrV, aNotV, aIf, aSl, aPart, aNoPart, aCall, aCallK, aStar, aPar, aAug, aFor, aRng, aSeqI, aLc, aLc2, aDc, aListO, aRel, aLstO, aMaxD, aJoin, aRaise0, aIsi, agN, itemsOf, wipeD, List.map, List.set, List.getElem?_cons_zero, List.getElem?_cons_succ, List.append, List.length, oCmp, oInt, onB, by2, oIxB, oIx, oEqB, oEq, oAdd, cLen, cSum, cInt, rs, oSl])
variable {K : PySem.W.Frag} {cs : Cs}
theorem tB_mono : ∀ {n m : Nat}, n ≤ m → tB n ≤ tB m
  | n, 0, h => by
    have : n = 0 := by omega
    subst this
    exact Nat.le_refl _
  | 0, m + 1, h => by
    have := tB_ge (m + 1)
    exact this
  | n + 1, m + 1, h => by
    have := tB_mono (n := n) (m := m) (by omega)
    show 3 * (tB n + 1) + 10 ≤ 3 * (tB m + 1) + 10
    omega
theorem tB_small {n : Nat} (h : n ≤ 10) : tB n ≤ 2000000 := Nat.le_trans (tB_mono h) (by decide)
/-- signs of texts -/
theorem txt_ok : ∀ {n : Nat} {d : D}, wf n d → PyData.strOk (txt n d) = true
  | n, d, h => by
    rcases h.cases with ⟨x, rfl, hs, h5, _⟩ | ⟨m, w, ps, rfl, rfl, hw, hl, hps⟩
    · rw [txt_str]
      exact hs.2
    · have hw8 : ∀ c, c ∈ w.cps.toList → c < 0x110000 := fun c hc => isLet_small ((of_lettersOk hw).2.2 c hc)
      cases ps with
      | nil => exact strOk_of hw8
      | cons p ps =>
        rw [txt_cons]
        refine strOk_of fun c hc => ?_
        rw [app_toList, app_toList, app_toList, List.mem_append, List.mem_append, List.mem_append] at hc
        have k1 : ∀ c, c ∈ (("(" : Str)).cps.toList → c < 0x110000 := by decide +kernel
        have k2 : ∀ c, c ∈ ((")" : Str)).cps.toList → c < 0x110000 := by decide +kernel
        have k3 : ∀ c, c ∈ (("," : Str)).cps.toList → c < 0x110000 := by decide +kernel
        rcases hc with ((hc | hc) | hc) | hc
        · exact hw8 c hc
        · exact k1 c hc
        · rw [join_list] at hc
          rcases joinL_mem hc with hc | ⟨q, hq, hc⟩
          · exact k3 c hc
          · obtain ⟨y, hy, rfl⟩ := List.mem_map.mp hq
            obtain ⟨x, hx, rfl⟩ := List.mem_map.mp hy
            exact strOk_mem (txt_ok (hps x hx)) c hc
        · exact k2 c hc
def Stxt (n : Nat) (F : AF) : Prop := ∀ d k, k < n → k ≤ 10 → wf k d → Pu F [d] (.str (txt k d))
theorem strs_map (f : D → Str) (ps : List D) : strsD (ps.map fun x => D.str (f x)) = some (ps.map f) := by
  have e : ps.map (fun x => D.str (f x)) = (ps.map f).map D.str := by rw [List.map_map]; rfl
  rw [e]
  exact strsD_of _
/-- a head and its parts' texts put together -/
theorem text_sizes {m : Nat} {w : Str} {ps : List D} (hm : m ≤ 9) (hw : lettersOk w 8 = true) (hl : ps.length ≤ 3) (hps : ∀ p, p ∈ ps → wf m p) :
    w.length + (("(" : Str)).length ≤ sizeLine ∧ ((ps.map (txt m)).map (·.length)).sum + (ps.map (txt m)).length * (("," : Str)).length ≤ 16777216 ∧ (w ++ "(").length + (Txt.join "," (ps.map (txt m))).length ≤ sizeLine ∧ ((w ++ "(") ++ Txt.join "," (ps.map (txt m))).length + ((")" : Str)).length ≤ sizeLine := by
  have hw8 : w.length ≤ 8 := by
    have := (of_lettersOk hw).2.1
    omega
  have ih : ∀ y, y ∈ ps.map (txt m) → y.length ≤ tB m := fun y hy => by
    obtain ⟨x, hx, rfl⟩ := List.mem_map.mp hy
    exact txt_len (hps x hx)
  obtain ⟨hj, hs⟩ := join_len ih
  rw [List.length_map] at hj hs
  have h3 : ps.length * (tB m + 1) ≤ 3 * (tB m + 1) := Nat.mul_le_mul_right _ hl
  have hb := tB_small (n := m) (by omega)
  have e1 : (("(" : Str)).length = 1 := by decide +kernel
  have e2 : ((")" : Str)).length = 1 := by decide +kernel
  rw [app_length, app_length, app_length, e1, e2, sizeLine_eq, List.length_map]
  refine ⟨by omega, by omega, by omega, by omega⟩
theorem plains_strs : ∀ ps : List Str, (∀ p, p ∈ ps → PyData.strOk p = true) → plains (ps.map D.str) = true
  | [], _ => by simp [plains]
  | p :: ps, h => by
    simp only [List.map_cons, plains, DL.plain]
    rw [h p List.mem_cons_self, plains_strs ps fun q hq => h q (List.mem_cons_of_mem _ hq)]
    rfl
mutual
theorem wf_plain : ∀ {n : Nat} {d : D}, wf n d → DL.plain d = true
  | 0, d, h => by
    rcases h.cases with ⟨x, rfl, hs, h5, _⟩ | ⟨m, w, ps, e, _⟩
    · simp only [DL.plain]; exact hs.2
    · cases e
  | n + 1, d, h => by
    rcases h.cases with ⟨x, rfl, hs, h5, _⟩ | ⟨m, w, ps, e, rfl, hw, hl, hps⟩
    · simp only [DL.plain]; exact hs.2
    · cases e
      simp only [DL.plain, plains]
      rw [wf_plains ps hps, strOk_of fun c hc => isLet_small ((of_lettersOk hw).2.2 c hc)]
      rfl
theorem wf_plains : ∀ {n : Nat} (ps : List D), (∀ p, p ∈ ps → wf n p) → plains ps = true
  | n, [], _ => by simp [plains]
  | n, p :: ps, h => by
    simp only [plains]
    rw [wf_plain (h p List.mem_cons_self), wf_plains ps fun q hq => h q (List.mem_cons_of_mem _ hq)]
    rfl
end
mutual
theorem wf_deep : ∀ {n : Nat} {d : D}, wf n d → deepD d ≤ n
  | 0, d, h => by
    rcases h.cases with ⟨x, rfl, hs, h5, _⟩ | ⟨m, w, ps, e, _⟩
    · simp [deepD]
    · cases e
  | n + 1, d, h => by
    rcases h.cases with ⟨x, rfl, hs, h5, _⟩ | ⟨m, w, ps, e, rfl, hw, hl, hps⟩
    · simp [deepD]
    · cases e
      have := wf_deeps ps hps
      simp only [deepD, deepDs]
      omega
theorem wf_deeps : ∀ {n : Nat} (ps : List D), (∀ p, p ∈ ps → wf n p) → deepDs ps ≤ n
  | n, [], _ => by simp [deepDs]
  | n, p :: ps, h => by
    have h1 := wf_deep (h p List.mem_cons_self)
    have h2 := wf_deeps ps fun q hq => h q (List.mem_cons_of_mem _ hq)
    simp only [deepDs]
    omega
end
theorem s_txt {F : AF} {n : Nat} (h : Stxt n F) : Stxt (n + 1) (afn ["pattern", "head", "parts", "part"] ["pattern"] (u_text_of K cs F)) := fun d k hk h10 hp Γ P X hP => by
  refine ⟨rfl, ?_⟩
  show u_text_of K cs F _ [some d, none, none, none] Γ
  rcases hp.cases with ⟨x, rfl, hs, _⟩ | ⟨m, w, ps, rfl, rfl, hw, hl, hps⟩
  · delta u_text_of
    walk_at "al"
    rw [txt_str] at hP
    exact isi_at (Γ := Γ) (d := .str x) hs (isTy_str hs) ⟨fun _ => hP, tf⟩
  · delta u_text_of
    walk_at "al"
    refine isi_at (Γ := Γ) (d := .tup (.str w :: ps)) trivial (isTy_str trivial) ⟨ft, fun _ => ?_⟩
    have hc : cmpOk (.lst ps) := ⟨by simp only [DL.plain]; exact wf_plains ps hps, by
      have := wf_deeps ps hps
      simp only [deepD]
      omega⟩
    refine ⟨Nat.zero_le _, hc, cmpOk_nil, ?_⟩
    rw [eqD_nil]
    cases ps with
    | nil => exact ⟨fun _ => hP, tf⟩
    | cons p ps =>
      refine ⟨ft, fun _ => ?_⟩
      obtain ⟨z1, z2, z3, z4⟩ := text_sizes (m := m) (by omega) hw hl hps
      refine ⟨z1, small (by omega), lcL_map (f := fun x => .str (txt m x)) _ _ (fun x hx P X h' => h x m (by omega) (by omega) (hps x hx) Γ P _ h') ⟨_, by rw [List.nil_append]; exact strs_map (txt m) (p :: ps), z2, z3, z4, hP⟩⟩
end LMs

set_option Elab.async false
set_option linter.all false
set_option maxRecDepth 100000
set_option maxHeartbeats 4000000
namespace LMs
open PySem L2 DL AL LM Ma
variable [Wd]
local macro_rules | `(tactic| walk_at "al") => `(tactic| dsimp only [aSeq, aIfS, aRet, aRetN, aNext, aDrop, aAsg, aTest, aNot, aAnd, aOr, aYes, aOp, aUn, aC, aVar, aCB, aCons, aNil, aTup, aLst, aChain, aAndV, aOrV, aNotV, aIf, aSl, aPart, aNoPart, aCall, aCallK, aStar, aPar, aAug, aFor, aRng, aSeqI, aLc, aLc2, aDc, aListO, aRel, aLstO, aMaxD, aJoin, aRaise0, aIsi, agN, itemsOf, wipeD, List.map, List.set, List.getElem?_cons_zero, List.getElem?_cons_succ, List.append, List.length, oCmp, oInt, onB, by2, oIxB, oIx, oEqB, oEq, oAdd, cLen, cSum, cInt, rs, oSl])
variable {K : PySem.W.Frag} {cs : Cs}
def keyOf (k : Nat) (d : D) : D := .tup [.int (sz k d), .str (txt k d)]
def Skey (n : Nat) (F : AF) : Prop := ∀ d k, k < n → k ≤ 10 → wf k d → Pu F [d] (keyOf k d)
theorem s_key {Fc Ft : AF} {n : Nat} (hc : Scnt n Fc) (ht : Stxt n Ft) : Skey n (afn ["pattern"] ["pattern"] (u_order_key K cs Fc Ft)) := fun d k hk h10 hw Γ P X hP => by
  refine ⟨rfl, ?_⟩
  show u_order_key K cs Fc Ft _ [some d] Γ
  delta u_order_key
  walk_at "al"
  exact hc d k hk hw.pat Γ _ _ (ht d k hk h10 hw Γ _ _ ⟨by rw [sizeLine_eq]; decide, hP⟩)
/-- a def that asks for a pattern first -/
def Sask (cs : Cs) (F : AF) : Prop := ∀ d m, fit m d → isPat d = false → Er F [d] (.exc0 cs.BadPattern)
def Ssize (n : Nat) (F : AF) : Prop := ∀ d k m, k < n → fit m d → isPat d = true → pat k d → Pu F [d] (.int (sz k d))
def Sdeep (n : Nat) (F : AF) : Prop := ∀ d k m, k < n → fit m d → isPat d = true → pat k d → Pu F [d] (.int (dp k d))
theorem s_size {Fp Fc : AF} {n : Nat} (hp : Sneed cs Fp) (hc : Scnt n Fc) : Sask cs (afn ["pattern"] ["pattern"] (u_size_of K cs Fp Fc)) ∧ Ssize n (afn ["pattern"] ["pattern"] (u_size_of K cs Fp Fc)) := by
  refine ⟨fun d m hf hi Γ P X hX => ⟨rfl, ?_⟩, fun d k m hk hf hi hpt Γ P X hP => ⟨rfl, ?_⟩⟩
  · show u_size_of K cs Fp Fc _ [some d] Γ
    delta u_size_of
    walk_at "al"
    exact (hp d m hf).2 hi Γ _ _ hX
  · show u_size_of K cs Fp Fc _ [some d] Γ
    delta u_size_of
    walk_at "al"
    exact (hp d m hf).1 hi Γ _ _ (hc d k hk hpt Γ _ _ hP)
theorem s_deep {Fp Fc : AF} {n : Nat} (hp : Sneed cs Fp) (hc : Slev n Fc) : Sask cs (afn ["pattern"] ["pattern"] (u_deep_of K cs Fp Fc)) ∧ Sdeep n (afn ["pattern"] ["pattern"] (u_deep_of K cs Fp Fc)) := by
  refine ⟨fun d m hf hi Γ P X hX => ⟨rfl, ?_⟩, fun d k m hk hf hi hpt Γ P X hP => ⟨rfl, ?_⟩⟩
  · show u_deep_of K cs Fp Fc _ [some d] Γ
    delta u_deep_of
    walk_at "al"
    exact (hp d m hf).2 hi Γ _ _ hX
  · show u_deep_of K cs Fp Fc _ [some d] Γ
    delta u_deep_of
    walk_at "al"
    exact (hp d m hf).1 hi Γ _ _ (hc d k hk hpt Γ _ _ hP)
/-! ### lesser -/
def Sless (n : Nat) (F : AF) : Prop := ∀ d e k l m, k < n → l < n → k ≤ 10 → l ≤ 10 → fit m d → fit m e → isPat d = true → isPat e = true → wf k d → wf l e → Pu F [d, e] (.bl (ltD (keyOf k d) (keyOf l e)))
theorem key_ok {k : Nat} {d : D} (h : wf k d) : cmpOk (keyOf k d) := ⟨by simp only [keyOf, DL.plain, plains]; rw [txt_ok h]; rfl, by simp [keyOf, deepD, deepDs]⟩
theorem key_alike (k l : Nat) (d e : D) : alikeD (keyOf k d) (keyOf l e) = true := rfl
theorem s_less {Fp Fk : AF} {n : Nat} (hp : Sneed cs Fp) (hk : Skey n Fk) : (∀ d e m, fit m d → isPat d = false → Er (afn ["one", "other"] ["one", "other"] (u_lesser K cs Fp Fk)) [d, e] (.exc0 cs.BadPattern)) ∧ (∀ d e m, fit m d → fit m e → isPat d = true → isPat e = false → Er (afn ["one", "other"] ["one", "other"] (u_lesser K cs Fp Fk)) [d, e] (.exc0 cs.BadPattern)) ∧
    Sless n (afn ["one", "other"] ["one", "other"] (u_lesser K cs Fp Fk)) := by
  refine ⟨fun d e m hf hi Γ P X hX => ⟨rfl, ?_⟩, fun d e m hf hg hi hj Γ P X hX => ⟨rfl, ?_⟩, fun d e k l m h1 h2 h3 h4 hf hg hi hj hw hv Γ P X hP => ⟨rfl, ?_⟩⟩
  · show u_lesser K cs Fp Fk _ [some d, some e] Γ
    delta u_lesser
    walk_at "al"
    exact (hp d m hf).2 hi Γ _ _ hX
  · show u_lesser K cs Fp Fk _ [some d, some e] Γ
    delta u_lesser
    walk_at "al"
    exact (hp d m hf).1 hi Γ _ _ ((hp e m hg).2 hj Γ _ _ hX)
  · show u_lesser K cs Fp Fk _ [some d, some e] Γ
    delta u_lesser
    walk_at "al"
    exact (hp d m hf).1 hi Γ _ _ ((hp e m hg).1 hj Γ _ _ (hk d k h1 h3 hw Γ _ _ (hk e l h2 h4 hv Γ _ _ ⟨key_ok hw, key_ok hv, key_alike k l d e, hP⟩)))
/-! ### the holes, each once -/
def addK (l : List Str) (x : Str) : List Str := if x ∈ l then l else l ++ [x]
def dd (l : List Str) : List Str := l.foldl addK []
def kvs (l : List Str) : List (D × D) := l.map fun x => (D.str x, D.bl true)
theorem putD_kvs (l : List Str) (x : Str) : putD (kvs l) (.str x) (.bl true) = kvs (addK l x) := by
  have e : ((kvs l).any fun kv => decide (kv.1 = D.str x)) = decide (x ∈ l) := by
    unfold kvs
    rw [List.any_map, Bool.eq_iff_iff]
    simp [List.any_eq_true]
  unfold putD addK
  rw [e]
  by_cases h : x ∈ l
  · rw [if_pos h, if_pos (decide_eq_true h)]
    unfold kvs
    rw [List.map_map]
    apply List.map_congr_left
    intro y _
    show (if (D.str y) = D.str x then ((D.str y), D.bl true) else (D.str y, D.bl true)) = _
    split <;> rfl
  · rw [if_neg h, if_neg (by rw [decide_eq_false h]; exact Bool.false_ne_true)]
    simp [kvs]
theorem dcL_keys {δ : DL.Env} {q : Nat} {Γ : Sto} (hq : q < δ.length) : ∀ (xs acc : List Str) {P : List (D × D) → Sto → Prop}, P (kvs (xs.foldl addK acc)) Γ → aDcL (agN q) aYes (aVar q) (aC (.bl true)) δ (xs.map D.str) (kvs acc) Γ P
  | [], acc, P, h => h
  | x :: xs, acc, P, h => ⟨fun _ => by
      show aVar q _ Γ _ _
      unfold aVar
      rw [List.getElem?_set_self hq]
      exact ⟨rfl, by rw [putD_kvs]; exact dcL_keys hq xs (addK acc x) h⟩, tf⟩
def Sholes (n : Nat) (F : AF) : Prop := ∀ d k m, k < n → k ≤ 12 → fit m d → isPat d = true → pat k d → ∀ Γ (P : QV) X, (∀ p, Γ p = none → P (.ref p) (upS Γ p (.lst ((dd (hol k d)).map D.str)))) → F [d] Γ P X
theorem s_holes {Fp Fh : AF} {n : Nat} (hp : Sneed cs Fp) (hh : Shol n Fh) : Sask cs (afn ["pattern", "hole"] ["pattern"] (u_holes_of K cs Fp Fh)) ∧ Sholes n (afn ["pattern", "hole"] ["pattern"] (u_holes_of K cs Fp Fh)) := by
  refine ⟨fun d m hf hi Γ P X hX => ⟨rfl, ?_⟩, fun d k m hk h12 hf hi hpt Γ P X hP => ⟨rfl, ?_⟩⟩
  · show u_holes_of K cs Fp Fh _ [some d, none] Γ
    delta u_holes_of
    walk_at "al"
    exact (hp d m hf).2 hi Γ _ _ hX
  · show u_holes_of K cs Fp Fh _ [some d, none] Γ
    delta u_holes_of
    walk_at "al"
    refine (hp d m hf).1 hi Γ _ _ (hh d k hk h12 hpt Γ _ _ ⟨?_, ?_⟩)
    · rw [List.length_map]
      exact Nat.lt_of_le_of_lt (hol_len hpt) (pow_small h12)
    · refine dcL_keys (acc := []) (by show 1 < 2; decide) (hol k d) ?_
      have e : (kvs ((hol k d).foldl addK [])).map (fun kv => kv.1) = (dd (hol k d)).map D.str := by
        unfold kvs dd
        rw [List.map_map]
        rfl
      show ∀ p, Γ p = none → P (.ref p) (upS Γ p (.lst ((kvs ((hol k d).foldl addK [])).map fun kv => kv.1)))
      rw [e]
      exact hP
end LMs

set_option Elab.async false
set_option linter.all false
set_option maxRecDepth 100000
set_option maxHeartbeats 4000000
namespace LMs
open PySem L2 DL AL LM Ma
variable [Wd]
local macro_rules | `(tactic| walk_at "al") => `(tactic| dsimp only [aSeq, aIfS, aRet, aRetN, aNext, aDrop, aAsg, aTest, aNot, aAnd, aOr, aYes, aOp, aUn, aC, aVar, aCB, aCons, aNil, aTup, aLst, aChain, aAndV, aOrV, aNotV, aIf, aSl, aPart, aNoPart, aCall, aCallK, aStar, aPar, aAug, aFor, aRng, aSeqI, aLc, aLc2, aDc, aListO, aRel, aLstO, aMaxD, aJoin, aRaise0, aIsi, agN, itemsOf, wipeD, List.map, List.set, List.getElem?_cons_zero, List.getElem?_cons_succ, List.append, List.length, oCmp, oInt, onB, by2, oIxB, oIx, oEqB, oEq, oAdd, cLen, cSum, cInt, rs, oSl, oLtB, oTup])
variable {K : PySem.W.Frag} {cs : Cs}
def Dr (Γ : Sto) (a : Addr) : Prop := ∃ c, Γ a = some (.draw c)
def Stk (F : AF) : Prop := ∀ (Γ : Sto) (a : Addr) (n : Int) (P : QV) X, Dr Γ a → 0 < n → n ≤ 1000000 → (∀ i : Int, 0 ≤ i → i < n → P (.int i) Γ) → F [.ref a, .int n] Γ P X
theorem s_take : Stk Ftake := fun Γ a n P X hd h0 h1 h => ⟨hd, h0, h1, h⟩
def Spk (F : AF) : Prop := ∀ (Γ : Sto) (a : Addr) (xs : List D) (P : QV) X, Dr Γ a → xs ≠ [] → xs.length ≤ 1000000 → (∀ x, x ∈ xs → P x Γ) → F [.ref a, .lst xs] Γ P X
theorem s_pick {F : AF} (ht : Stk F) : Spk (afn ["_law_draw", "_law_some"] ["_law_draw", "_law_some"] (u__law_pick K cs F)) := fun Γ a xs P X hd hne hl h => by
  refine ⟨rfl, ?_⟩
  show u__law_pick K cs F _ [some (.ref a), some (.lst xs)] Γ
  delta u__law_pick
  walk_at "al"
  have hpos := List.length_pos_iff.mpr hne
  refine ht Γ a _ _ _ hd (by omega) (by omega) fun i h0 h1 => ?_
  obtain ⟨x, hx, hm⟩ := atI_of h0 h1
  exact ⟨x, hx, h x hm⟩
theorem lets_eq : (Str.ofString "abcdefghijklmnopqrstuvwxyz") = lets := rfl
theorem let_at {i : Int} (h0 : 0 ≤ i) (h1 : i < 26) : ∃ c, atI (Str.ofString "abcdefghijklmnopqrstuvwxyz").cps.toList i = some c ∧ isLet c = true := by
  rw [lets_eq]
  obtain ⟨x, hx, hm⟩ := atI_of (xs := lets.cps.toList) h0 (by rw [lets_list]; exact h1)
  exact ⟨x, hx, decide_eq_true hm⟩
theorem allLet_snoc {y : Str} {c : Nat} (h : allLet y) (hc : isLet c = true) : allLet (y ++ ⟨#[c]⟩) := fun x hx => by
  rw [app_toList, List.mem_append] at hx
  rcases hx with hx | hx
  · exact h x hx
  · have : x = c := by simpa using hx
    rw [this]; exact hc
/-- a letter more -/
theorem letter {F : AF} (ht : Stk F) {Γ : Sto} {a : Addr} {w : Str} {P : D → Sto → Prop} {X : D → Sto → Prop} (hd : Dr Γ a) (hl : w.length < 1000) (h : ∀ c, isLet c = true → P (.str (w ++ ⟨#[c]⟩)) Γ) :
    F [.ref a, .int 26] Γ (fun e Γ2 => oIx (.str "abcdefghijklmnopqrstuvwxyz") (rs Γ2 e) fun z => oAdd (.str w) (rs Γ2 z) fun z => P z Γ2) X := ht Γ a 26 _ _ hd (by decide) (by decide) fun i h0 h1 => by
  obtain ⟨c, hc, hi⟩ := let_at h0 h1
  refine ⟨Nat.le_of_lt (small (by rw [lets_eq, lets_length]; decide)), c, hc, ?_, h c hi⟩
  show w.length + 1 ≤ sizeLine
  rw [sizeLine_eq]
  omega
theorem word_loop {F : AF} (ht : Stk F) {Γ : Sto} {a : Addr} (hd : Dr Γ a) {Po : AEnds} {s1 : Option D} : ∀ (xs : List D) (w : Str) (t : Option D), w.length + xs.length < 1000 → (∀ y t', allLet y → y.length = xs.length → Po.nx [some (.ref a), s1, some (.str (w ++ y)), t'] Γ) →
    aLoop (agN 3) (aAsg (aOp oAdd (aVar 2) (aOp oIxB (aC (.str "abcdefghijklmnopqrstuvwxyz")) (aCall F (aCons (aVar 0) (aCons (aC (.int 26)) aNil))))) (agN 2)) Po xs [some (.ref a), s1, some (.str w), t] Γ
  | [], w, t, hl, h => by
    have e : w ++ (⟨#[]⟩ : Str) = w := by
      obtain ⟨x⟩ := w
      show (⟨x ++ #[]⟩ : Str) = ⟨x⟩
      rw [Array.append_empty]
    have := h ⟨#[]⟩ t (fun c hc => by simp at hc) rfl
    rw [e] at this
    exact this
  | x :: xs, w, t, hl, h => by
    rw [List.length_cons] at hl
    refine letter ht hd (by omega) fun c hc => ?_
    refine word_loop ht hd xs (w ++ ⟨#[c]⟩) (some x) (by rw [app_length]; show w.length + 1 + xs.length < 1000; omega) fun y t' hy hyl => ?_
    have e : (w ++ (⟨#[c]⟩ : Str)) ++ y = w ++ ((⟨#[c]⟩ : Str) ++ y) := by
      obtain ⟨u⟩ := w
      obtain ⟨v⟩ := y
      show (⟨(u ++ #[c]) ++ v⟩ : Str) = ⟨u ++ (#[c] ++ v)⟩
      rw [Array.append_assoc]
    rw [e]
    refine h _ t' (fun z hz => ?_) (by rw [app_length, hyl, List.length_cons]; show 1 + xs.length = _; omega)
    rw [app_toList, List.mem_append] at hz
    rcases hz with hz | hz
    · have : z = c := by simpa using hz
      rw [this]; exact hc
    · exact hy z hz
def Swd (F : AF) : Prop := ∀ (Γ : Sto) (a : Addr) (P : QV) X, Dr Γ a → (∀ w, lettersOk w 8 = true → P (.str w) Γ) → F [.ref a] Γ P X
theorem s_word {Ft Fk : AF} (ht : Stk Ft) (hk : Spk Fk) : Swd (afn ["_law_draw", "_law_way", "_law_word_here", "_law_k"] ["_law_draw"] (u__law_word K cs Ft Fk)) := fun Γ a P X hd h => by
  refine ⟨rfl, ?_⟩
  show u__law_word K cs Ft Fk _ [some (.ref a), none, none, none] Γ
  delta u__law_word
  walk_at "al"
  refine ht Γ a 6 _ _ hd (by decide) (by decide) fun i h0 h1 => ⟨fun _ => ?_, fun _ => ⟨fun _ => ?_, fun _ => ?_⟩⟩
  · refine ⟨by rw [sizeLine_eq]; decide, hk Γ a _ _ _ hd (by simp) (by decide) fun x hx => ?_⟩
    obtain ⟨y, rfl, hy⟩ := pick_strs (xs := ["a", "b", "f", "g"]) words_ok hx
    exact h y hy
  · refine ⟨by rw [sizeLine_eq]; decide, hk Γ a _ _ _ hd (by simp) (by decide) fun x hx => ?_⟩
    obtain ⟨y, rfl, hy⟩ := pick_strs (xs := ["told", "back", "then", "parts", "same", "like", "put", "rule", "hole", "z"]) words_ok2 hx
    exact h y hy
  · refine ht Γ a 8 _ _ hd (by decide) (by decide) fun j j0 j1 => ⟨by omega, by omega, ?_⟩
    refine word_loop ht hd _ (Str.ofString "") _ (by rw [rng_length]; show 0 + _ < 1000; omega) fun y t' hy hyl => ?_
    rw [rng_length] at hyl
    have e : (Str.ofString "") ++ y = y := by
      obtain ⟨v⟩ := y
      show (⟨#[] ++ v⟩ : Str) = ⟨v⟩
      rw [Array.empty_append]
    show P (.str ((Str.ofString "") ++ y)) Γ
    rw [e]
    exact h y (lettersOk_of (by omega) (by omega) hy)
end LMs

set_option Elab.async false
set_option linter.all false
set_option maxRecDepth 100000
set_option maxHeartbeats 4000000
namespace LMs
open PySem L2 DL AL LM Ma
variable [Wd]
local macro_rules | `(tactic| walk_at "al") => `(tactic| dsimp only [aSeq, aIfS, aRet, aRetN, aNext, aDrop, aAsg, aTest, aNot, aAnd, aOr, aYes, aOp, aUn, aC, aVar, aCB, aCons, aNil, aTup, aLst, aChain, aAndV, aOrV, aNotV, aIf, aSl, aPart, aNoPart, aCall, aCallK, aStar, aPar, aAug, aFor, aRng, aSeqI, aLc, aLc2, aDc, aListO, aRel, aLstO, aMaxD, aJoin, aRaise0, aIsi, agN, itemsOf, wipeD, List.map, List.set, List.getElem?_cons_zero, List.getElem?_cons_succ, List.append, List.length, oCmp, oInt, onB, by2, oIxB, oIx, oEqB, oEq, oAdd, cLen, cSum, cInt, rs, oSl, oLtB, oTup])
variable {K : PySem.W.Frag} {cs : Cs}
theorem hole_loop {F : AF} (ht : Stk F) {Γ : Sto} {a : Addr} (hd : Dr Γ a) {Po : AEnds} : ∀ (xs : List D) (w : Str) (t : Option D), w.length + xs.length < 1000 → (∀ y t', allLet y → y.length = xs.length → Po.nx [some (.ref a), some (.str (w ++ y)), t'] Γ) →
    aLoop (agN 2) (aAsg (aOp oAdd (aVar 1) (aOp oIxB (aC (.str "abcdefghijklmnopqrstuvwxyz")) (aCall F (aCons (aVar 0) (aCons (aC (.int 26)) aNil))))) (agN 1)) Po xs [some (.ref a), some (.str w), t] Γ
  | [], w, t, hl, h => by
    have e : w ++ (⟨#[]⟩ : Str) = w := by
      obtain ⟨x⟩ := w
      show (⟨x ++ #[]⟩ : Str) = ⟨x⟩
      rw [Array.append_empty]
    have := h ⟨#[]⟩ t (fun c hc => by simp at hc) rfl
    rw [e] at this
    exact this
  | x :: xs, w, t, hl, h => by
    rw [List.length_cons] at hl
    refine letter ht hd (by omega) fun c hc => ?_
    refine hole_loop ht hd xs (w ++ ⟨#[c]⟩) (some x) (by rw [app_length]; show w.length + 1 + xs.length < 1000; omega) fun y t' hy hyl => ?_
    have e : (w ++ (⟨#[c]⟩ : Str)) ++ y = w ++ ((⟨#[c]⟩ : Str) ++ y) := by
      obtain ⟨u⟩ := w
      obtain ⟨v⟩ := y
      show (⟨(u ++ #[c]) ++ v⟩ : Str) = ⟨u ++ (#[c] ++ v)⟩
      rw [Array.append_assoc]
    rw [e]
    refine h _ t' (fun z hz => ?_) (by rw [app_length, hyl, List.length_cons]; show 1 + xs.length = _; omega)
    rw [app_toList, List.mem_append] at hz
    rcases hz with hz | hz
    · have : z = c := by simpa using hz
      rw [this]; exact hc
    · exact hy z hz
def Shl (F : AF) : Prop := ∀ (Γ : Sto) (a : Addr) (P : QV) X, Dr Γ a → (∀ d, isHoleD d → P d Γ) → F [.ref a] Γ P X
theorem s_holeL {Ft Fk : AF} (ht : Stk Ft) (hk : Spk Fk) : Shl (afn ["_law_draw", "_law_word_here", "_law_k"] ["_law_draw"] (u__law_hole K cs Ft Fk)) := fun Γ a P X hd h => by
  refine ⟨rfl, ?_⟩
  show u__law_hole K cs Ft Fk _ [some (.ref a), none, none] Γ
  delta u__law_hole
  walk_at "al"
  refine ht Γ a 4 _ _ hd (by decide) (by decide) fun i h0 h1 => ⟨fun _ => ?_, fun _ => ?_⟩
  · refine ⟨by rw [sizeLine_eq]; decide, hk Γ a _ _ _ hd (by simp) (by decide) fun x hx => ?_⟩
    obtain ⟨y, rfl, hy⟩ := pick_strs (xs := ["?x", "?y", "?z"]) holes_ok hx
    exact h _ ⟨y, rfl, hy⟩
  · refine ht Γ a 4 _ _ hd (by decide) (by decide) fun j j0 j1 => ⟨by omega, by omega, ?_⟩
    refine hole_loop ht hd _ (Str.ofString "?") _ (by rw [rng_length]; show 1 + _ < 1000; omega) fun y t' hy hyl => ?_
    rw [rng_length] at hyl
    exact h _ (isHole_of hy (by omega) (by omega))
/-! ### patterns that are drawn -/
def Spat (n : Nat) (F : AF) : Prop := ∀ (Γ : Sto) (a : Addr) (k : Nat) (b : Bool) (P : QV) X, 1 ≤ k → k < n → Dr Γ a → (∀ d, gpat b k d → P d Γ) → F [.ref a, .int ((k : Nat) : Int), .bl b] Γ P X
/-- a comprehension over anything that tells nothing exact: what holds of the list so far -/
theorem lcL_inv {j : Nat} {e : AE} {δ : DL.Env} {Γ : Sto} (I : List D → Prop) : ∀ (xs acc : List D) {P : List D → Sto → Prop}, I acc → (∀ x acc, x ∈ xs → I acc → ∀ P X, (∀ d, I (acc ++ [d]) → P d Γ) → e (δ.set j (some x)) Γ P X) → (∀ acc', I acc' → acc'.length ≤ acc.length + xs.length → P acc' Γ) → aLcL (agN j) aYes e δ xs acc Γ P
  | [], acc, P, h0, _, h => h acc h0 (Nat.le_refl _)
  | x :: xs, acc, P, h0, he, h => ⟨fun _ => he x acc List.mem_cons_self h0 _ _ fun d hd => lcL_inv I xs (acc ++ [d]) hd (fun y acc' hy => he y acc' (List.mem_cons_of_mem _ hy)) fun acc' hI hl => h acc' hI (by
      rw [List.length_append, List.length_singleton] at hl
      rw [List.length_cons]
      omega), tf⟩
theorem s_patL {Ft Fh Fw Fp : AF} {n : Nat} (ht : Stk Ft) (hh : Shl Fh) (hw : Swd Fw) (hp : Spat n Fp) : Spat (n + 1) (afn ["_law_draw", "_law_left", "_law_holed", "_law_many", "_law_k"] ["_law_draw", "_law_left", "_law_holed"] (u__law_pattern K cs Ft Fh Fw Fp)) := fun Γ a k b P X hk1 hk hd h => by
  refine ⟨rfl, ?_⟩
  show u__law_pattern K cs Ft Fh Fw Fp _ [some (.ref a), some (.int ((k : Nat) : Int)), some (.bl b), none, none] Γ
  obtain ⟨m, rfl⟩ : ∃ m, k = m + 1 := ⟨k - 1, by omega⟩
  have tail : ∀ (i : Int), 0 ≤ i → i < 4 → (i = 0 ∨ 1 ≤ m) → Fw [.ref a] Γ (fun d Γ1 => 1 ≤ sizeLine ∧ (-(2 ^ 62) ≤ i ∧ i < 2 ^ 62 ∧ (rng i.toNat).length < sizeLine ∧
      aLcL (agN 4) aYes (aCall Fp (aCons (aVar 0) (aCons (aOp (oInt fun i j => i - j) (aVar 1) (aC (.int 1))) (aCons (aVar 2) aNil)))) [some (.ref a), some (.int (((m + 1 : Nat) : Int))), some (.bl b), some (.int i), none] (rng i.toNat) [] Γ1 fun ds Γ2 => 1 + ds.length ≤ sizeLine ∧ P (.tup ([d] ++ ds)) Γ2)) (fun x Γ' => X x Γ') := fun i i0 i4 hm => by
    refine hw Γ a _ _ hd fun w hwd => ⟨by rw [sizeLine_eq]; decide, by omega, by omega, by rw [rng_length]; exact small (by omega), ?_⟩
    refine lcL_inv (fun acc => ∀ p, p ∈ acc → gpat b m p) _ _ (fun p hp' => by cases hp') (fun x acc hx hI P X hP => ?_) fun acc hI hl => ?_
    · have hmm : 1 ≤ m := by
        rcases hm with rfl | hm
        · exact absurd hx (by simp [rng])
        · exact hm
      show Fp [.ref a, .int ((((m + 1 : Nat) : Int)) - 1), .bl b] Γ P _
      have e4 : (((m + 1 : Nat) : Int)) - 1 = ((m : Nat) : Int) := by omega
      rw [e4]
      refine hp Γ a m b P _ hmm (by omega) hd fun d hg => hP d fun p hp' => ?_
      rcases List.mem_append.mp hp' with z | z
      · exact hI p z
      · rw [List.mem_singleton.mp z]; exact hg
    · rw [rng_length] at hl
      simp only [List.length_nil] at hl
      exact ⟨by rw [sizeLine_eq]; omega, h _ (.inr ⟨.str w, acc, rfl, ⟨w, rfl, hwd⟩, by omega, hI⟩)⟩
  have rest : (aSeq (aAsg (aIf (aTest (aOp (oCmp fun i j => decide (j < i)) (aVar 1) (aC (.int 1)))) (aCall Ft (aCons (aVar 0) (aCons (aC (.int 4)) aNil))) (aC (.int 0))) (agN 3))
    (aRet (aUn oTup (aOp oAdd (aLst (aCons (aCall Fw (aCons (aVar 0) aNil)) aNil)) (aLc (aRng (aCons (aVar 3) aNil)) (agN 4) aYes (aCall Fp (aCons (aVar 0) (aCons (aOp (oInt fun i j => i - j) (aVar 1) (aC (.int 1))) (aCons (aVar 2) aNil)))) [4]))))) { nx := fun _ Γ' => P .non Γ', rt := P, bk := fun _ _ => False, ct := fun _ _ => False, ex := fun x _ Γ' => X x Γ' } [some (.ref a), some (.int (((m + 1 : Nat) : Int))), some (.bl b), none, none] Γ := by
    walk_at "al"
    refine ⟨fun hlt => ?_, fun hlt => ?_⟩
    · refine ht Γ a 4 _ _ hd (by decide) (by decide) fun i i0 i4 => ?_
      have : 1 ≤ m := by
        have := of_decide_eq_true hlt
        omega
      exact tail i i0 i4 (.inr this)
    · exact tail 0 (by decide) (by decide) (.inl rfl)
  refine ⟨fun hb => ?_, fun hb => ⟨ft, fun _ => rest⟩⟩
  refine ht Γ a 4 _ _ hd (by decide) (by decide) fun i i0 i4 => ⟨fun _ => ?_, fun _ => rest⟩
  exact hh Γ a _ _ hd fun d hhd => h d (.inl ⟨hb, hhd⟩)
theorem gpat.wf {b : Bool} : ∀ {n : Nat} {d : D}, gpat b n d → wf n d
  | 0, d, h => h.elim
  | n + 1, d, h => by
    rcases h with ⟨_, x, rfl, h5, hx⟩ | ⟨hd, ps, rfl, ⟨w, rfl, hw⟩, hl, hps⟩
    · exact ⟨isHoleD.short ⟨x, rfl, h5, hx⟩, h5, hx⟩
    · exact ⟨hw, hl, fun p hp => gpat.wf (hps p hp)⟩
end LMs

set_option Elab.async false
set_option linter.all false
set_option maxRecDepth 100000
set_option maxHeartbeats 4000000
namespace LMs
open PySem L2 DL AL LM Ma
variable [Wd]
local macro_rules | `(tactic| walk_at "al") => `(tactic| dsimp only [aSeq, aIfS, aRet, aRetN, aNext, aDrop, aAsg, aTest, aNot, aAnd, aOr, aYes, aOp, aUn, aC, aVar, aCB, aCons, aNil, aTup, aLst, aChain, aAndV, aOrV, aNotV, aIf, aSl, aPart, aNoPart, aCall, aCallK, aStar, aPar, aAug, aFor, aRng, aSeqI, aLc, aLc2, aDc, aListO, aRel, aLstO, aMaxD, aJoin, aRaise0, aIsi, agN, itemsOf, wipeD, List.map, List.set, List.getElem?_cons_zero, List.getElem?_cons_succ, List.append, List.length, oCmp, oInt, onB, by2, oIxB, oIx, oEqB, oEq, oAdd, cLen, cSum, cInt, rs, oSl, oLtB, oTup, cMax])
variable {K : PySem.W.Frag} {cs : Cs}
theorem s_sizeL {F : AF} {n : Nat} (h : Scnt n F) : Scnt (n + 1) (afn ["_law_piece", "_law_part"] ["_law_piece"] (u__law_size K cs F)) := s_cnt (K := K) (cs := cs) h
theorem s_keyL {Fc Ft : AF} {n : Nat} (hc : Scnt n Fc) (ht : Stxt n Ft) : Skey n (afn ["_law_piece"] ["_law_piece"] (u__law_key K cs Fc Ft)) := s_key (K := K) (cs := cs) hc ht
theorem s_depthL {F : AF} {n : Nat} (h : Slev n F) : Slev (n + 1) (afn ["_law_piece", "_law_part"] ["_law_piece"] (u__law_depth K cs F)) := fun d k hk hp Γ P X hP => by
  refine ⟨rfl, ?_⟩
  show u__law_depth K cs F _ [some d, none] Γ
  rcases hp.cases with ⟨x, rfl, hs⟩ | ⟨m, hd, ps, rfl, rfl, hl, hps⟩
  · delta u__law_depth
    walk_at "al"
    rw [dp_str] at hP
    exact isi_at (Γ := Γ) (d := .str x) hs (isTy_str hs) ⟨fun _ => ⟨fun _ => hP, tf⟩, tf⟩
  · delta u__law_depth
    walk_at "al"
    refine isi_at (Γ := Γ) (d := .tup (hd :: ps)) trivial (isTy_str trivial) ⟨ft, fun _ => ?_⟩
    cases ps with
    | nil => exact ⟨fun _ => hP, fun z => absurd (of_decide_eq_false z) (by simp)⟩
    | cons p ps =>
      refine ⟨fun z => absurd (of_decide_eq_true z) (by simp only [List.length_cons]; omega), fun _ => ?_⟩
      rw [cut1]
      refine ⟨small (by omega), lcL_map (f := fun x => .int (dp m x)) _ _ (fun x hx P X h' => h x m (by omega) (hps x hx) Γ P _ h') ⟨(p :: ps).map (dp m), ?_, by simp, hP⟩⟩
      have e5 : (p :: ps).map (fun x => D.int (dp m x)) = ((p :: ps).map (dp m)).map D.int := by rw [List.map_map]; rfl
      rw [List.nil_append, e5]
      exact intsD_of _
theorem s_writtenL {F : AF} {n : Nat} (h : Stxt n F) : Stxt (n + 1) (afn ["_law_piece", "_law_inner", "_law_part"] ["_law_piece"] (u__law_written K cs F)) := fun d k hk h10 hp Γ P X hP => by
  refine ⟨rfl, ?_⟩
  show u__law_written K cs F _ [some d, none, none] Γ
  rcases hp.cases with ⟨x, rfl, hs, _⟩ | ⟨m, w, ps, rfl, rfl, hw, hl, hps⟩
  · delta u__law_written
    walk_at "al"
    rw [txt_str] at hP
    exact isi_at (Γ := Γ) (d := .str x) hs (isTy_str hs) ⟨fun _ => hP, tf⟩
  · delta u__law_written
    walk_at "al"
    refine isi_at (Γ := Γ) (d := .tup (.str w :: ps)) trivial (isTy_str trivial) ⟨ft, fun _ => ?_⟩
    rw [cut1]
    obtain ⟨z1, z2, z3, z4⟩ := text_sizes (m := m) (by omega) hw hl hps
    refine ⟨small (by omega), lcL_map (f := fun x => .str (txt m x)) _ _ (fun x hx P X h' => h x m (by omega) (by omega) (hps x hx) Γ P _ h') ⟨_, by rw [List.nil_append]; exact strs_map (txt m) ps, z2, ?_⟩⟩
    cases ps with
    | nil => exact ⟨fun z => absurd (of_decide_eq_true z) (by simp), fun _ => ⟨_, at0, hP⟩⟩
    | cons p ps =>
      refine ⟨fun _ => ⟨_, at0, z1, z3, z4, hP⟩, fun z => absurd (of_decide_eq_false z) (by simp only [List.length_cons]; omega)⟩
/-! ### the holes by the law's walk -/
theorem foldl_snoc (l : List Str) (x : Str) (acc : List Str) : (l ++ [x]).foldl addK acc = addK (l.foldl addK acc) x := by rw [List.foldl_append]; rfl
theorem mem_fold {x : Str} : ∀ (l acc : List Str), x ∈ l.foldl addK acc ↔ x ∈ acc ∨ x ∈ l
  | [], acc => by simp
  | y :: l, acc => by
    show x ∈ l.foldl addK (addK acc y) ↔ _
    rw [mem_fold l]
    unfold addK
    by_cases h : y ∈ acc
    · rw [if_pos h]
      constructor
      · rintro (h1 | h1)
        · exact .inl h1
        · exact .inr (List.mem_cons_of_mem _ h1)
      · rintro (h1 | h1)
        · exact .inl h1
        · rcases List.mem_cons.mp h1 with rfl | h2
          · exact .inl h
          · exact .inr h2
    · rw [if_neg h, List.mem_append, List.mem_singleton, List.mem_cons]
      constructor
      · rintro ((h1 | h1) | h1)
        · exact .inl h1
        · exact .inr (.inl h1)
        · exact .inr (.inr h1)
      · rintro (h1 | h1 | h1)
        · exact .inl (.inl h1)
        · exact .inl (.inr h1)
        · exact .inr h1
theorem fold_eq (acc : List Str) (l : List Str) : l.foldl addK acc = acc ++ (dd l).filter fun x => decide (x ∉ acc) := by
  have key : ∀ (n : Nat) (l : List Str), l.length = n → l.foldl addK acc = acc ++ (dd l).filter fun x => decide (x ∉ acc) := by
    intro n
    induction n with
    | zero =>
      intro l h
      rw [List.length_eq_zero_iff.mp h]
      simp [dd]
    | succ n ih =>
      intro l h
      have hne : l ≠ [] := fun e => by rw [e] at h; cases h
      have e := (List.dropLast_concat_getLast hne).symm
      have ih' := ih l.dropLast (by rw [List.length_dropLast, h]; rfl)
      generalize l.dropLast = l' at e ih'
      generalize l.getLast hne = x at e
      subst e
      rw [foldl_snoc, ih']
      have ed : dd (l' ++ [x]) = addK (dd l') x := foldl_snoc l' x []
      rw [ed]
      have m1 : x ∈ dd l' ↔ x ∈ l' := by
        have := mem_fold (x := x) l' []
        simpa [dd] using this
      unfold addK
      by_cases hx : x ∈ dd l'
      · rw [if_pos hx]
        have : x ∈ acc ++ (dd l').filter fun x => decide (x ∉ acc) := by
          by_cases ha : x ∈ acc
          · exact List.mem_append_left _ ha
          · exact List.mem_append_right _ (List.mem_filter.mpr ⟨hx, decide_eq_true ha⟩)
        rw [if_pos this]
      · rw [if_neg hx, List.filter_append]
        by_cases ha : x ∈ acc
        · rw [if_pos (List.mem_append_left _ ha)]
          simp [ha]
        · have : ¬ x ∈ acc ++ (dd l').filter fun x => decide (x ∉ acc) := fun z => by
            rcases List.mem_append.mp z with z | z
            · exact ha z
            · exact hx (List.mem_filter.mp z).1
          rw [if_neg this, List.append_assoc]
          simp [ha]
  exact key l.length l rfl
theorem dd_flat : ∀ (ls : List (List Str)) (acc : List Str), ls.flatten.foldl addK acc = ls.foldl (fun a l => a ++ (dd l).filter fun x => decide (x ∉ a)) acc
  | [], acc => rfl
  | l :: ls, acc => by
    rw [List.flatten_cons, List.foldl_append, dd_flat ls, List.foldl_cons, fold_eq acc l]
end LMs

set_option Elab.async false
set_option linter.all false
set_option maxRecDepth 100000
set_option maxHeartbeats 4000000
namespace LMs
open PySem L2 DL AL LM Ma
variable [Wd]
local macro_rules | `(tactic| walk_at "al") => `(tactic| dsimp only [aSeq, aIfS, aRet, aRetN, aNext, aDrop, aAsg, aTest, aNot, aAnd, aOr, aYes, aOp, aUn, aC, aVar, aCB, aCons, aNil, aTup, aLst, aChain, aAndV, aOrV, aNotV, aIf, aSl, aPart, aNoPart, aCall, aCallK, aStar, aPar, aAug, aFor, aRng, aSeqI, aLc, aLc2, aDc, aListO, aRel, aLstO, aMaxD, aJoin, aRaise0, aIsi, agN, itemsOf, wipeD, List.map, List.set, List.getElem?_cons_zero, List.getElem?_cons_succ, List.append, List.length, oCmp, oInt, onB, by2, oIxB, oIx, oEqB, oEq, oAdd, cLen, cSum, cInt, rs, oSl, oLtB, oTup, cMax])
variable {K : PySem.W.Frag} {cs : Cs}
theorem flatDs_strs : ∀ ns : List Str, flatDs (ns.map D.str) = some (ns.map V.str)
  | [] => rfl
  | n :: ns => by
    show (match flatD (.str n), flatDs (ns.map D.str) with | some v, some vs => some (v :: vs) | _, _ => none) = _
    rw [flatDs_strs ns]
    rfl
theorem inV_strs (x : Str) : ∀ ns : List Str, inV (.str x) (ns.map V.str) = decide (x ∈ ns)
  | [] => by simp [inV]
  | n :: ns => by
    have ih := inV_strs x ns
    unfold inV at ih ⊢
    rw [List.map_cons, List.any_cons, ih]
    have e : eqV (.str n) (.str x) = decide (x = n) := by
      rw [Bool.eq_iff_iff]
      simp [eqV]
      exact eq_comm
    rw [e, Bool.eq_iff_iff]
    simp
theorem lcL_filter {j : Nat} {t : AT} {δ : DL.Env} {Γ : Sto} {p : D → Bool} (hj : j < δ.length) : ∀ (xs acc : List D) {P : List D → Sto → Prop}, (∀ x, x ∈ xs → ∀ P X, P (p x) Γ → t (δ.set j (some x)) Γ P X) → P (acc ++ xs.filter p) Γ → aLcL (agN j) t (aVar j) δ xs acc Γ P
  | [], acc, P, _, h => by
    rw [List.filter_nil, List.append_nil] at h
    exact h
  | x :: xs, acc, P, ht, h => by
    refine ht x List.mem_cons_self _ _ ⟨fun hp => ?_, fun hp => ?_⟩
    · show aVar j (δ.set j (some x)) Γ _ _
      unfold aVar
      rw [List.getElem?_set_self hj]
      refine lcL_filter hj xs (acc ++ [x]) (fun y hy => ht y (List.mem_cons_of_mem _ hy)) ?_
      rw [List.filter_cons_of_pos hp] at h
      rw [List.append_assoc]
      exact h
    · rw [List.filter_cons_of_neg (by rw [hp]; exact Bool.false_ne_true)] at h
      exact lcL_filter hj xs acc (fun y hy => ht y (List.mem_cons_of_mem _ hy)) h
theorem fold_len : ∀ (l acc : List Str), (l.foldl addK acc).length ≤ acc.length + l.length
  | [], acc => Nat.le_refl _
  | x :: l, acc => by
    have ih := fold_len l (addK acc x)
    have e : (addK acc x).length ≤ acc.length + 1 := by
      unfold addK
      split
      · omega
      · rw [List.length_append]; exact Nat.le_refl _
    rw [List.length_cons]
    show (l.foldl addK (addK acc x)).length ≤ _
    omega
theorem dd_len (l : List Str) : (dd l).length ≤ l.length := by
  have := fold_len l []
  simpa [dd] using this
def SholL (n : Nat) (F : AF) : Prop := ∀ d k, k < n → k ≤ 12 → pat k d → Pu F [d] (.lst ((dd (hol k d)).map D.str))
abbrev stepH (m : Nat) (a : List Str) (p : D) : List Str := a ++ (dd (hol m p)).filter fun x => decide (x ∉ a)
theorem holes_loop {F : AF} {n m : Nat} (h : SholL n F) (hm : m < n) (h12 : m ≤ 11) {Γ : Sto} {Po : AEnds} {d : D} : ∀ (ps : List D) (acc : List Str) (t : Option D), (∀ p, p ∈ ps → pat m p) → acc.length + ps.length * 3 ^ m < 1000000 → (∀ t', Po.nx [some d, some (.lst ((ps.foldl (stepH m) acc).map D.str)), t', none] Γ) →
    aLoop (agN 2) (aAsg (aOp oAdd (aVar 1) (aLc (aSeqI (aCall F (aCons (aVar 2) aNil))) (agN 3) (aTest (aOp oNotInB (aVar 3) (aVar 1))) (aVar 3) [3])) (agN 1)) Po ps [some d, some (.lst (acc.map D.str)), t, none] Γ
  | [], acc, t, _, _, hn => hn t
  | p :: ps, acc, t, hp, hl, hn => by
    have hpp := hp p List.mem_cons_self
    have hb := Nat.le_trans (dd_len (hol m p)) (hol_len hpp)
    rw [List.length_cons, Nat.add_mul, Nat.one_mul] at hl
    refine h p m hm (by omega) hpp Γ _ _ ⟨by rw [List.length_map, sizeLine_eq]; omega, ?_⟩
    refine lcL_filter (p := fun x => match x with | .str y => decide (y ∉ acc) | _ => false) (by show 3 < 4; decide) _ _ (fun x hx P X hP => ?_) ?_
    · obtain ⟨y, _, rfl⟩ := List.mem_map.mp hx
      refine ⟨.str y, acc.map V.str, rfl, flatDs_strs acc, ?_⟩
      rw [inV_strs]
      have e : (true ^^ decide (y ∈ acc)) = decide (y ∉ acc) := by
        rw [Bool.eq_iff_iff]; simp
      show P (true ^^ decide (y ∈ acc)) Γ
      rw [e]
      exact hP
    · have e : ((dd (hol m p)).map D.str).filter (fun x => match x with | .str y => decide (y ∉ acc) | _ => false) = ((dd (hol m p)).filter fun y => decide (y ∉ acc)).map D.str := by
        rw [List.filter_map]
        rfl
      rw [List.nil_append, e]
      have hf := List.length_filter_le (fun y => decide (y ∉ acc)) (dd (hol m p))
      refine ⟨by rw [List.length_map, List.length_map, sizeLine_eq]; omega, ?_⟩
      rw [← List.map_append]
      refine holes_loop h hm h12 ps (stepH m acc p) (some p) (fun q hq => hp q (List.mem_cons_of_mem _ hq)) ?_ hn
      show (acc ++ (dd (hol m p)).filter fun x => decide (x ∉ acc)).length + _ < _
      rw [List.length_append]
      omega
theorem s_holesL {F : AF} {n : Nat} (h : SholL n F) : SholL (n + 1) (afn ["_law_piece", "_law_found", "_law_part", "_law_hole_here"] ["_law_piece"] (u__law_holes K cs F)) := fun d k hk h12 hp Γ P X hP => by
  refine ⟨rfl, ?_⟩
  show u__law_holes K cs F _ [some d, none, none, none] Γ
  rcases hp.cases with ⟨x, rfl, hs⟩ | ⟨m, hd, ps, rfl, rfl, hl, hps⟩
  · delta u__law_holes
    walk_at "al"
    rw [hol_str] at hP
    exact isi_at (Γ := Γ) (d := .str x) hs (isTy_str hs) ⟨fun _ => ⟨Nat.le_of_lt (small (by decide)), hP⟩, tf⟩
  · delta u__law_holes
    walk_at "al"
    refine isi_at (Γ := Γ) (d := .tup (hd :: ps)) trivial (isTy_str trivial) ⟨ft, fun _ => ⟨Nat.zero_le _, ?_⟩⟩
    rw [cut1]
    have e : ps.foldl (stepH m) [] = dd (hol (m + 1) (.tup (hd :: ps))) := by
      show _ = ((ps.map (hol m)).flatten).foldl addK []
      rw [dd_flat, List.foldl_map]
    have h3 : 3 ^ m ≤ 3 ^ 11 := Nat.pow_le_pow_right (by decide) (by omega)
    have h4 : ps.length * 3 ^ m ≤ 3 * 3 ^ 11 := Nat.mul_le_mul hl h3
    have h5 : 3 * 3 ^ 11 < 1000000 := by decide
    exact holes_loop (n := n) h (by omega) (by omega) ps [] none hps (by show 0 + _ < _; omega) fun t' => by rw [e]; exact hP
end LMs

set_option Elab.async false
set_option linter.all false
set_option maxRecDepth 100000
set_option maxHeartbeats 4000000
/-! Helps for the laws' own bodies. -/
namespace LMs
open PySem L2 DL AL LM Ma
variable [Wd]
theorem eqD_self {d : D} (h : DL.plain d = true) : eqD d d = true := PySem.SeqAt.eqv_refl _ (canLay_toPy d h)
theorem dr_up {Γ : Sto} {a p : Addr} {c : Cell} (h : Dr Γ a) (hp : Γ p = none) : Dr (upS Γ p c) a := by
  obtain ⟨b, hb⟩ := h
  exact ⟨b, by rw [upS_ne (fun z => by rw [z, hp] at hb; cases hb)]; exact hb⟩
theorem dr_chg {Γ : Sto} {a p : Addr} {c c0 : Cell} (h : Dr Γ a) (hp : Γ p = some c0) (h0 : ∀ b, c0 ≠ .draw b) : Dr (upS Γ p c) a := by
  obtain ⟨b, hb⟩ := h
  exact ⟨b, by rw [upS_ne (fun z => by rw [z, hp] at hb; cases hb; exact h0 b rfl)]; exact hb⟩
theorem dr_era {Γ : Sto} {a p : Addr} {c0 : Cell} (h : Dr Γ a) (hp : Γ p = some c0) (h0 : ∀ b, c0 ≠ .draw b) : Dr (era Γ p) a := by
  obtain ⟨b, hb⟩ := h
  exact ⟨b, by rw [era_ne (fun z => by rw [z, hp] at hb; cases hb; exact h0 b rfl)]; exact hb⟩
theorem sz1000 {n : Nat} (h : n ≤ 1000) : n ≤ sizeLine := Nat.le_of_lt (small h)
theorem hol_ok : ∀ {n : Nat} {d : D}, wf n d → ∀ x, x ∈ hol n d → PyData.strOk x = true
  | n, d, h, x, hx => by
    rcases h.cases with ⟨y, rfl, hs, _⟩ | ⟨m, w, ps, rfl, rfl, hw, hl, hps⟩
    · rw [hol_str] at hx
      rw [List.mem_singleton.mp hx]
      exact hs.2
    · have hx' : x ∈ (ps.map (hol m)).flatten := hx
      obtain ⟨l, hl1, hl2⟩ := List.mem_flatten.mp hx'
      obtain ⟨q, hq1, hq2⟩ := List.mem_map.mp hl1
      rw [← hq2] at hl2
      exact hol_ok (hps q hq1) x hl2
theorem deep_strs : ∀ l : List Str, deepDs (l.map D.str) = 0
  | [] => rfl
  | x :: l => by simp [deepDs, deepD, deep_strs l]
theorem holes_cmp {n : Nat} {d : D} (h : wf n d) : cmpOk (.lst ((dd (hol n d)).map D.str)) := by
  refine ⟨?_, by simp [deepD, deep_strs]⟩
  simp only [DL.plain]
  refine plains_strs _ fun x hx => hol_ok h x ?_
  have := (mem_fold (x := x) (hol n d) []).mp hx
  simpa using this
theorem eqD_same {d : D} (h : cmpOk d) : eqD d d = true := eqD_self h.1
theorem upS_upS {Γ : Sto} {p : Addr} {c c' : Cell} : upS (upS Γ p c) p c' = upS Γ p c' := by
  funext b
  unfold upS
  split <;> rfl
theorem era_upS {Γ : Sto} {p : Addr} {c : Cell} (h : Γ p = none) : era (upS Γ p c) p = Γ := by
  funext b
  unfold upS era
  by_cases e : b = p
  · rw [if_pos e, e, h]
  · rw [if_neg e]
    show (if b = p then some c else Γ b) = Γ b
    rw [if_neg e]
end LMs

set_option Elab.async false
set_option linter.all false
set_option maxRecDepth 100000
set_option maxHeartbeats 4000000
/-! Terms, and patterns filled. -/
namespace LMs
open PySem L2 DL AL LM Ma
variable [Wd]
local macro_rules | `(tactic| walk_at "al") => `(tactic| dsimp only [aSeq, aIfS, aRet, aRetN, aNext, aDrop, aAsg, aTest, aNot, aAnd, aOr, aYes, aOp, aUn, aC, aVar, aCB, aCons, aNil, aTup, aLst, aChain, aAndV, aOrV, aNotV, aIf, aSl, aPart, aNoPart, aCall, aCallK, aStar, aPar, aAug, aFor, aRng, aSeqI, aLc, aLc2, aDc, aListO, aRel, aLstO, aMaxD, aJoin, aRaise0, aRaise1, aIsi, agN, agT, agCons, agNil, itemsOf, wipeD, List.map, List.set, List.getElem?_cons_zero, List.getElem?_cons_succ, List.append, List.length, oCmp, oInt, onB, by2, oIxC, oIxB, oIx, oEqC, oEqB, oEq, oNeC, oNeB, oNe, oInC, oNotInC, oAdd, cLen, cSum, cInt, rs, oSl, oLtB, oTup, cMax, aTryAs, clsD, aMu, onL, mAppend, mReverse, aFree, aDNew, oMulB, oMul, AL.pick, List.filterMap])
variable {K : PySem.W.Frag} {cs : Cs}
def isTrm (d : D) : Bool := decide ((1 : Int) ≤ meas false 5 d) && decide (meas false 5 d ≤ 30)
def Sist (F : AF) : Prop := ∀ d m, fit m d → Pu F [d] (.bl (isTrm d))
theorem s_ist {Fm : AF} (hm : Smeas 6 Fm) : Sist (afn ["thing"] ["thing"] (u_is_term K cs Fm)) := fun d m hf Γ P X hP => by
  refine ⟨rfl, ?_⟩
  show u_is_term K cs Fm _ [some d] Γ
  delta u_is_term
  walk_at "al"
  refine ⟨rfl, rfl, hm d m false 5 (by decide) hf Γ _ _ ?_⟩
  unfold isTrm at hP
  refine ⟨fun h1 => ?_, fun h1 => ?_⟩
  · have h1' : decide ((1 : Int) ≤ meas false 5 d) = true := h1
    rw [h1', Bool.true_and] at hP
    exact hP
  · have h1' : decide ((1 : Int) ≤ meas false 5 d) = false := h1
    rw [h1', Bool.false_and] at hP
    exact hP
def Sntm (cs : Cs) (F : AF) : Prop := ∀ d m, fit m d → (isTrm d = true → Pu F [d] .non) ∧ (isTrm d = false → Er F [d] (.exc0 cs.BadTerm))
theorem s_ntm {Fp : AF} (hp : Sist Fp) : Sntm cs (afn ["thing"] ["thing"] (u_need_term K cs Fp)) := fun d m hf => ⟨fun hi Γ P X hP => by
  refine ⟨rfl, ?_⟩
  show u_need_term K cs Fp _ [some d] Γ
  delta u_need_term
  walk_at "al"
  refine hp d m hf Γ _ _ ?_
  rw [hi]
  exact ⟨ft, fun _ => hP⟩, fun hi Γ P X hX => by
  refine ⟨rfl, ?_⟩
  show u_need_term K cs Fp _ [some d] Γ
  delta u_need_term
  walk_at "al"
  refine hp d m hf Γ _ _ ?_
  rw [hi]
  exact ⟨fun _ => hX, tf⟩⟩
/-! ### fills -/
/-- a fill: keys texts -/
def strK (kvs : List (D × D)) : Prop := ∀ kv, kv ∈ kvs → ∃ x, kv.1 = .str x
theorem strK.ok {kvs : List (D × D)} (h : strK kvs) (x : Str) : okK kvs (.str x) := .inl ⟨rfl, fun kv hk => by
  obtain ⟨y, hy⟩ := h kv hk
  rw [hy]
  rfl⟩
def gv (kvs : List (D × D)) (x : Str) : D := (lkD kvs (.str x)).getD .non
def has (kvs : List (D × D)) (x : Str) : Bool := (lkD kvs (.str x)).isSome
theorem has_gv {kvs : List (D × D)} {x : Str} (h : has kvs x = true) : lkD kvs (.str x) = some (gv kvs x) := by
  unfold has at h
  unfold gv
  cases e : lkD kvs (.str x) with
  | none => rw [e] at h; cases h
  | some z => rfl
def putIn (kvs : List (D × D)) : Nat → D → D
  | 0 => fun d => match d with
    | .str x => gv kvs x
    | d => d
  | n + 1 => fun d => match d with
    | .str x => gv kvs x
    | .tup (h :: ps) => .tup (h :: ps.map (putIn kvs n))
    | d => d
theorem putIn_str (kvs : List (D × D)) (n : Nat) (x : Str) : putIn kvs n (.str x) = gv kvs x := by cases n <;> rfl
def Spi (n : Nat) (F : AF) : Prop := ∀ d k kvs, k < n → pat k d → strK kvs → (∀ x, x ∈ hol k d → has kvs x = true) → Pu F [d, .dct kvs] (putIn kvs k d)
theorem hol_part {m : Nat} {hd : D} {ps : List D} {p : D} {x : Str} (hp : p ∈ ps) (hx : x ∈ hol m p) : x ∈ hol (m + 1) (.tup (hd :: ps)) := List.mem_flatten.mpr ⟨_, List.mem_map.mpr ⟨p, hp, rfl⟩, hx⟩
theorem s_pi {F : AF} {n : Nat} (h : Spi n F) : Spi (n + 1) (afn ["pattern", "fill", "head", "parts", "part"] ["pattern", "fill"] (u_put_in K cs F)) := fun d k kvs hk hp hs hh Γ P X hP => by
  refine ⟨rfl, ?_⟩
  show u_put_in K cs F _ [some d, some (.dct kvs), none, none, none] Γ
  rcases hp.cases with ⟨x, rfl, hx⟩ | ⟨m, hd, ps, rfl, rfl, hl, hps⟩
  · delta u_put_in
    walk_at "al"
    rw [putIn_str] at hP
    refine isi_at (Γ := Γ) (d := .str x) hx (isTy_str hx) ⟨fun _ => ⟨hs.ok x, gv kvs x, has_gv (hh x (by rw [hol_str]; exact List.mem_singleton.mpr rfl)), hP⟩, tf⟩
  · delta u_put_in
    walk_at "al"
    refine isi_at (Γ := Γ) (d := .tup (hd :: ps)) trivial (isTy_str trivial) ⟨ft, fun _ => ⟨sz1000 (by decide), small (by omega), ?_⟩⟩
    refine lcL_map (f := putIn kvs m) _ _ (fun p hp' P X h' => h p m kvs (by omega) (hps p hp') hs (fun x hx => hh x (hol_part hp' hx)) Γ P _ h') ?_
    exact ⟨sz1000 (by rw [List.nil_append, List.length_map]; omega), hP⟩
theorem cut0 {x : D} {xs : List D} : cutD (x :: xs) none (some 1) = [x] := by
  unfold cutD
  have e1 : HT.sIx (x :: xs).length (x :: xs).length (some 1) = 1 := by
    have := HT.sIx_nat (x :: xs).length (x :: xs).length 1
    rw [show ((1 : Nat) : Int) = 1 from rfl] at this
    rw [this, List.length_cons]
    omega
  have e2 : HT.sIx (x :: xs).length 0 none = 0 := rfl
  rw [e1, e2]
  simp
theorem s_piL {F : AF} {n : Nat} (h : Spi n F) : Spi (n + 1) (afn ["_law_one", "_law_given", "_law_part"] ["_law_one", "_law_given"] (u__law_put_in K cs F)) := fun d k kvs hk hp hs hh Γ P X hP => by
  refine ⟨rfl, ?_⟩
  show u__law_put_in K cs F _ [some d, some (.dct kvs), none] Γ
  rcases hp.cases with ⟨x, rfl, hx⟩ | ⟨m, hd, ps, rfl, rfl, hl, hps⟩
  · delta u__law_put_in
    walk_at "al"
    rw [putIn_str] at hP
    refine isi_at (Γ := Γ) (d := .str x) hx (isTy_str hx) ⟨fun _ => ⟨hs.ok x, gv kvs x, has_gv (hh x (by rw [hol_str]; exact List.mem_singleton.mpr rfl)), hP⟩, tf⟩
  · delta u__law_put_in
    walk_at "al"
    refine isi_at (Γ := Γ) (d := .tup (hd :: ps)) trivial (isTy_str trivial) ⟨ft, fun _ => ?_⟩
    rw [cut0, cut1]
    refine ⟨small (by omega), ?_⟩
    refine lcL_map (f := putIn kvs m) _ _ (fun p hp' P X h' => h p m kvs (by omega) (hps p hp') hs (fun x hx => hh x (hol_part hp' hx)) Γ P _ h') ?_
    exact ⟨sz1000 (by rw [List.nil_append, List.length_map, List.length_singleton]; omega), hP⟩
/-! ### filled -/
/-- the first hole that lacks -/
def lack (kvs : List (D × D)) (l : List Str) : Option Str := l.find? fun x => !has kvs x
def allT (kvs : List (D × D)) (l : List Str) : Bool := l.all fun x => isTrm (gv kvs x)
theorem fl_loop1 {kvs : List (D × D)} (hs : strK kvs) {d : D} {Γ : Sto} {t3 : Option D} {Po : AEnds} : ∀ (xs : List Str) (t2 : Option D), (∀ x, lack kvs xs = some x → ∀ δ, Po.ex (.exc1 cs.NoHole "hole" (.str x)) δ Γ) → (lack kvs xs = none → ∀ t2, Po.nx [some d, some (.dct kvs), t2, t3] Γ) →
    aLoop (agN 2) (aIfS (aTest (aOp oNotInC (aVar 2) (aVar 1))) (aRaise1 cs.NoHole "hole" (aVar 2)) aNext) Po (xs.map D.str) [some d, some (.dct kvs), t2, t3] Γ
  | [], t2, _, h2 => h2 rfl t2
  | x :: xs, t2, h1, h2 => by
    show aIfS _ _ _ _ [some d, some (.dct kvs), some (.str x), t3] Γ
    walk_at "al"
    refine ⟨hs.ok x, fun z => ?_, fun z => ?_⟩
    · refine h1 x ?_ _
      unfold lack has
      rw [List.find?_cons, z]
    · have e : lack kvs (x :: xs) = lack kvs xs := by
        unfold lack has
        rw [List.find?_cons, z]
      rw [e] at h1 h2
      exact fl_loop1 hs xs _ h1 h2
theorem fl_loop2 {kvs : List (D × D)} (hs : strK kvs) {Fn : AF} (hn : Sntm cs Fn) {d : D} {Γ : Sto} {t3 : Option D} {Po : AEnds} {m : Nat} (hfit : ∀ x, has kvs x = true → fit m (gv kvs x)) : ∀ (xs : List Str) (t2 : Option D), (∀ x, x ∈ xs → has kvs x = true) → (allT kvs xs = false → ∀ δ, Po.ex (.exc0 cs.BadTerm) δ Γ) → (allT kvs xs = true → ∀ t2, Po.nx [some d, some (.dct kvs), t2, t3] Γ) →
    aLoop (agN 2) (aDrop (aCall Fn (aCons (aOp oIxC (aVar 1) (aVar 2)) aNil))) Po (xs.map D.str) [some d, some (.dct kvs), t2, t3] Γ
  | [], t2, _, _, h2 => h2 rfl t2
  | x :: xs, t2, hh, h1, h2 => by
    have hx := hh x List.mem_cons_self
    have e : allT kvs (x :: xs) = (isTrm (gv kvs x) && allT kvs xs) := rfl
    show aDrop _ _ [some d, some (.dct kvs), some (.str x), t3] Γ
    walk_at "al"
    refine ⟨hs.ok x, gv kvs x, has_gv hx, ?_⟩
    cases ht : isTrm (gv kvs x) with
    | false =>
      rw [ht, Bool.false_and] at e
      exact (hn _ m (hfit x hx)).2 ht Γ _ _ (h1 e _)
    | true =>
      rw [ht, Bool.true_and] at e
      rw [e] at h1 h2
      exact (hn _ m (hfit x hx)).1 ht Γ _ _ (fl_loop2 hs hn hfit xs _ (fun y hy => hh y (List.mem_cons_of_mem _ hy)) h1 h2)
/-- what filled does -/
def FlEnd (cs : Cs) (kvs : List (D × D)) (k : Nat) (d : D) (F : AF) : Prop :=
  (∀ x, lack kvs (hol k d) = some x → Er F [d, .dct kvs] (.exc1 cs.NoHole "hole" (.str x))) ∧ (lack kvs (hol k d) = none → allT kvs (hol k d) = false → Er F [d, .dct kvs] (.exc0 cs.BadTerm)) ∧
  (lack kvs (hol k d) = none → allT kvs (hol k d) = true → isTrm (putIn kvs k d) = false → Er F [d, .dct kvs] (.exc0 cs.TooGreat)) ∧ (lack kvs (hol k d) = none → allT kvs (hol k d) = true → isTrm (putIn kvs k d) = true → Pu F [d, .dct kvs] (putIn kvs k d))
def Sfl (cs : Cs) (n : Nat) (F : AF) : Prop := (∀ d m kvs, fit m d → isPat d = false → Er F [d, .dct kvs] (.exc0 cs.BadPattern)) ∧ ∀ d k m kvs q, k < n → k ≤ 12 → fit m d → isPat d = true → pat k d → strK kvs → (∀ x, has kvs x = true → fit q (gv kvs x)) → fit (k + q) (putIn kvs k d) → FlEnd cs kvs k d F
theorem lack_none {kvs : List (D × D)} {l : List Str} (h : lack kvs l = none) : ∀ x, x ∈ l → has kvs x = true := fun x hx => by
  unfold lack at h
  have := List.find?_eq_none.mp h x hx
  simpa using this
theorem s_fl {Fp Fh Fn Fi Ft : AF} {n : Nat} (hp : Sneed cs Fp) (hh : Shol n Fh) (hn : Sntm cs Fn) (hi : Spi n Fi) (ht : Sist Ft) : Sfl cs n (afn ["pattern", "fill", "hole", "found"] ["pattern", "fill"] (u_filled K cs Fp Fh Fn Fi Ft)) := by
  refine ⟨fun d m kvs hf hpat Γ P X hX => ⟨rfl, ?_⟩, fun d k m kvs q hk h12 hf hpat hpt hs hfit hw => ?_⟩
  · show u_filled K cs Fp Fh Fn Fi Ft _ [some d, some (.dct kvs), none, none] Γ
    delta u_filled
    walk_at "al"
    exact (hp d m hf).2 hpat Γ _ _ hX
  · have go : ∀ Γ (P : QV) (X : D → Sto → Prop), (∀ x, lack kvs (hol k d) = some x → X (.exc1 cs.NoHole "hole" (.str x)) Γ) → (lack kvs (hol k d) = none → allT kvs (hol k d) = false → X (.exc0 cs.BadTerm) Γ) → (lack kvs (hol k d) = none → allT kvs (hol k d) = true → isTrm (putIn kvs k d) = false → X (.exc0 cs.TooGreat) Γ) → (lack kvs (hol k d) = none → allT kvs (hol k d) = true → isTrm (putIn kvs k d) = true → P (putIn kvs k d) Γ) → afn ["pattern", "fill", "hole", "found"] ["pattern", "fill"] (u_filled K cs Fp Fh Fn Fi Ft) [d, .dct kvs] Γ P X := fun Γ P X h1 h2 h3 h4 => by
      refine ⟨rfl, ?_⟩
      show u_filled K cs Fp Fh Fn Fi Ft _ [some d, some (.dct kvs), none, none] Γ
      delta u_filled
      walk_at "al"
      refine (hp d m hf).1 hpat Γ _ _ (hh d k hk h12 hpt Γ _ _ ?_)
      refine fl_loop1 hs (hol k d) none (fun x hx _ => h1 x hx) fun hl t2 => ?_
      refine hh d k hk h12 hpt Γ _ _ ?_
      refine fl_loop2 hs hn hfit (hol k d) t2 (lack_none hl) (fun ha _ => h2 hl ha) fun ha t2 => ?_
      walk_at "al"
      refine hi d k kvs hk hpt hs (lack_none hl) Γ _ _ (ht _ _ hw Γ _ _ ?_)
      cases hz : isTrm (putIn kvs k d) with
      | false => exact ⟨fun _ => h3 hl ha hz, tf⟩
      | true => exact ⟨ft, fun _ => h4 hl ha hz⟩
    refine ⟨fun x hx Γ P X hX => go Γ P X (fun y hy => by rw [hx] at hy; cases hy; exact hX) (fun z => by rw [hx] at z; cases z) (fun z => by rw [hx] at z; cases z) (fun z => by rw [hx] at z; cases z), fun hl ha Γ P X hX => go Γ P X (fun y hy => by rw [hl] at hy; cases hy) (fun _ _ => hX) (fun _ z => by rw [ha] at z; cases z) (fun _ z => by rw [ha] at z; cases z), fun hl ha hz Γ P X hX => go Γ P X (fun y hy => by rw [hl] at hy; cases hy) (fun _ z => by rw [ha] at z; cases z) (fun _ _ _ => hX) (fun _ _ z => by rw [hz] at z; cases z), fun hl ha hz Γ P X hP => go Γ P X (fun y hy => by rw [hl] at hy; cases hy) (fun _ z => by rw [ha] at z; cases z) (fun _ _ z => by rw [hz] at z; cases z) (fun _ _ _ => hP)⟩
end LMs

set_option Elab.async false
set_option linter.all false
set_option maxRecDepth 100000
set_option maxHeartbeats 4000000
/-! The mathematics of filled patterns. -/
namespace LMs
open PySem L2 DL AL LM Ma
variable [Wd]
theorem isPat_shp {n : Nat} {d : D} (hf : fit n d) (h : isPat d = true) : shp true n d = true ∧ dp n d ≤ 5 ∧ sz n d ≤ 30 := by
  unfold isPat at h
  rw [Bool.and_eq_true] at h
  have h1 := of_decide_eq_true h.1
  have h2 := of_decide_eq_true h.2
  have e := meas_eq true 5 n d hf
  rw [e] at h1 h2
  split at h1
  · rename_i c
    rw [if_pos c] at h2
    exact ⟨c.1, by have := c.2; omega, h2⟩
  · omega
theorem isTrm_shp {n : Nat} {d : D} (hf : fit n d) (h : isTrm d = true) : shp false n d = true := by
  unfold isTrm at h
  rw [Bool.and_eq_true] at h
  have h1 := of_decide_eq_true h.1
  have e := meas_eq false 5 n d hf
  rw [e] at h1
  split at h1
  · rename_i c
    exact c.1
  · omega
theorem isTrm_eq {n : Nat} {d : D} (hf : fit n d) (h : shp false n d = true) : isTrm d = (decide (sz n d < 31) && decide (dp n d < 6)) := by
  unfold isTrm
  have e := meas_eq false 5 n d hf
  rw [e]
  have hp := sz_pos n d
  by_cases c : dp n d ≤ 5
  · rw [if_pos ⟨h, by exact_mod_cast c⟩]
    rw [Bool.eq_iff_iff]
    simp only [Bool.and_eq_true, decide_eq_true_eq]
    omega
  · rw [if_neg (fun z => c (by exact_mod_cast z.2))]
    rw [Bool.eq_iff_iff]
    simp only [Bool.and_eq_true, decide_eq_true_eq]
    omega
theorem shp_up {b : Bool} : ∀ {n : Nat} {d : D}, shp b n d = true → shp b (n + 1) d = true
  | n, .str x, h => by rw [shp_str] at h ⊢; exact h
  | 0, .tup _, h => by cases h
  | n + 1, .tup xs, h => by
    cases xs with
    | nil => cases h
    | cons hd ps =>
      cases hd with
      | str w =>
        have h' : (decide (ps.length ≤ 3) && (lettersL w 8 && (ps.map (shp b n)).all id)) = true := h
        show (decide (ps.length ≤ 3) && (lettersL w 8 && (ps.map (shp b (n + 1))).all id)) = true
        simp only [Bool.and_eq_true, List.all_map, List.all_eq_true, Function.comp, id] at h' ⊢
        exact ⟨h'.1, h'.2.1, fun x hx => shp_up (h'.2.2 x hx)⟩
      | _ => cases h
  | 0, .non, h => by cases h
  | 0, .bl _, h => by cases h
  | 0, .int _, h => by cases h
  | 0, .lst _, h => by cases h
  | 0, .dct _, h => by cases h
  | 0, .ref _, h => by cases h
  | 0, .ty _, h => by cases h
  | 0, .exc0 _, h => by cases h
  | 0, .exc1 _ _ _, h => by cases h
  | n + 1, .non, h => by cases h
  | n + 1, .bl _, h => by cases h
  | n + 1, .int _, h => by cases h
  | n + 1, .lst _, h => by cases h
  | n + 1, .dct _, h => by cases h
  | n + 1, .ref _, h => by cases h
  | n + 1, .ty _, h => by cases h
  | n + 1, .exc0 _, h => by cases h
  | n + 1, .exc1 _ _ _, h => by cases h
theorem shp_le {b : Bool} {n m : Nat} {d : D} (h : shp b n d = true) (hm : n ≤ m) : shp b m d = true := by
  induction hm with
  | refl => exact h
  | step _ ih => exact shp_up ih
/-- a pattern's shape: a hole, or a name with parts -/
theorem shp.cases {b : Bool} {n : Nat} {d : D} (h : shp b n d = true) : (∃ x, d = .str x ∧ b = true ∧ isHole (.str x) = true) ∨ ∃ m w ps, n = m + 1 ∧ d = .tup (.str w :: ps) ∧ lettersL w 8 = true ∧ ps.length ≤ 3 ∧ ∀ p, p ∈ ps → shp b m p = true := by
  cases d with
  | str x =>
    rw [shp_str, Bool.and_eq_true] at h
    exact .inl ⟨x, rfl, h.1, h.2⟩
  | tup xs =>
    cases n with
    | zero => cases h
    | succ n =>
      cases xs with
      | nil => cases h
      | cons hd ps =>
        cases hd with
        | str w =>
          have h' : (decide (ps.length ≤ 3) && (lettersL w 8 && (ps.map (shp b n)).all id)) = true := h
          simp only [Bool.and_eq_true, List.all_map, List.all_eq_true, Function.comp, id, decide_eq_true_eq] at h'
          exact .inr ⟨n, w, ps, rfl, rfl, h'.2.1, h'.1, h'.2.2⟩
        | _ => cases h
  | _ => cases n <;> cases h
theorem putIn_shp {kvs : List (D × D)} {q : Nat} : ∀ {n : Nat} {d : D}, shp true n d = true → (∀ x, x ∈ hol n d → shp false q (gv kvs x) = true) → shp false (n + q) (putIn kvs n d) = true
  | n, d, h, hv => by
    rcases shp.cases h with ⟨x, rfl, _, _⟩ | ⟨m, w, ps, rfl, rfl, hw, hl, hps⟩
    · rw [putIn_str]
      exact shp_le (hv x (by rw [hol_str]; exact List.mem_singleton.mpr rfl)) (by omega)
    · have e : m + 1 + q = (m + q) + 1 := by omega
      rw [e]
      show (decide ((ps.map (putIn kvs m)).length ≤ 3) && (lettersL w 8 && ((ps.map (putIn kvs m)).map (shp false (m + q))).all id)) = true
      simp only [Bool.and_eq_true, List.all_map, List.all_eq_true, Function.comp, id, decide_eq_true_eq, List.length_map]
      exact ⟨hl, hw, fun p hp => putIn_shp (hps p hp) fun x hx => hv x (hol_part hp hx)⟩
theorem putIn_fit {kvs : List (D × D)} {q : Nat} (hq : ∀ x, has kvs x = true → fit q (gv kvs x)) : ∀ {n : Nat} {d : D}, fit n d → shp true n d = true → (∀ x, x ∈ hol n d → has kvs x = true) → fit (n + q) (putIn kvs n d)
  | n, d, hf, h, hv => by
    rcases shp.cases h with ⟨x, rfl, _, _⟩ | ⟨m, w, ps, rfl, rfl, hw, hl, hps⟩
    · rw [putIn_str]
      exact (hq x (hv x (by rw [hol_str]; exact List.mem_singleton.mpr rfl))).le (by omega)
    · have e : m + 1 + q = (m + q) + 1 := by omega
      rw [e]
      refine ⟨by simp; omega, fun y hy => ?_⟩
      rcases List.mem_cons.mp hy with rfl | hy
      · exact fit_str ((hf.2 _ List.mem_cons_self).short)
      · obtain ⟨p, hp, rfl⟩ := List.mem_map.mp hy
        exact putIn_fit hq (hf.2 p (List.mem_cons_of_mem _ hp)) (hps p hp) fun x hx => hv x (hol_part hp hx)
/-! ### each once: the same first one, the same all -/
theorem find_dd (p : Str → Bool) : ∀ (l acc : List Str), ((l.foldl addK acc).filter p).head? = match (acc.filter p).head? with
    | some y => some y
    | none => l.find? p
  | [], acc => by
    show (acc.filter p).head? = _
    cases (acc.filter p).head? <;> rfl
  | x :: l, acc => by
    show ((l.foldl addK (addK acc x)).filter p).head? = _
    rw [find_dd p l]
    unfold addK
    by_cases hx : x ∈ acc
    · rw [if_pos hx]
      cases e : (acc.filter p).head? with
      | some y => rfl
      | none =>
        have e0 : acc.filter p = [] := by
          cases h : acc.filter p with
          | nil => rfl
          | cons _ _ => rw [h] at e; cases e
        have np : p x = false := by
          cases hp : p x with
          | false => rfl
          | true =>
            have : x ∈ acc.filter p := List.mem_filter.mpr ⟨hx, hp⟩
            rw [e0] at this
            cases this
        show l.find? p = (x :: l).find? p
        rw [List.find?_cons, np]
    · rw [if_neg hx, List.filter_append]
      cases e : (acc.filter p).head? with
      | some y =>
        cases h : acc.filter p with
        | nil => rw [h] at e; cases e
        | cons z zs => rw [h] at e; cases e; rfl
      | none =>
        have e0 : acc.filter p = [] := by
          cases h : acc.filter p with
          | nil => rfl
          | cons _ _ => rw [h] at e; cases e
        rw [e0, List.nil_append]
        show (match ([x].filter p).head? with | some y => some y | none => l.find? p) = (x :: l).find? p
        rw [List.find?_cons]
        cases hp : p x with
        | true => simp [List.filter, hp]
        | false => simp [List.filter, hp]
theorem head_dd (p : Str → Bool) (l : List Str) : ((dd l).filter p).head? = l.find? p := find_dd p l []
theorem mem_dd {l : List Str} {x : Str} : x ∈ dd l ↔ x ∈ l := by
  have := mem_fold (x := x) l []
  simpa [dd] using this
end LMs

set_option Elab.async false
set_option linter.all false
set_option maxRecDepth 100000
set_option maxHeartbeats 4000000
/-! The reader of texts, in plain Lean. Signs are code points. -/
namespace Rd
open PySem L2 DL AL LM Ma LMs
variable [Wd]
abbrev T := List Nat
/-- behind the blanks -/
def nb (l : T) : Nat := (l.takeWhile fun c => decide (c = 32)).length
def blk (ts : T) (n : Nat) : Nat := n + nb (ts.drop n)
/-- how many letters, at most m -/
def nl (m : Nat) (l : T) : Nat := ((l.take m).takeWhile isLet).length
def hl : Option Nat → Bool
  | some c => isLet c
  | none => false
def bad (m : Nat) (ts : T) (n : Nat) : Bool := decide (nl m (ts.drop n) = 0) || (decide (nl m (ts.drop n) = m) && hl ts[n + m]?)
def en (m : Nat) (ts : T) (n : Nat) : Nat := n + nl m (ts.drop n)
def piece (ts : T) (a b : Nat) : Str := ⟨((ts.take b).drop a).toArray⟩
/-- a leaf: its datum and where it ends, or where it fails -/
def lf (ts : T) (n : Nat) : Except Nat (D × Nat) :=
  if ts[blk ts n]? = some 63 then
    if bad 4 ts (blk ts n + 1) then .error (en 4 ts (blk ts n + 1)) else .ok (.str (piece ts (blk ts n) (en 4 ts (blk ts n + 1))), blk ts (en 4 ts (blk ts n + 1)))
  else if bad 8 ts (blk ts n) then .error (en 8 ts (blk ts n)) else .ok (.tup [.str (piece ts (blk ts n) (en 8 ts (blk ts n)))], blk ts (en 8 ts (blk ts n)))
/-- a part is whole: it is put into the innermost open one -/
def cl (ts : T) : List (List D) → D → Nat → Except Nat (Option D × Nat × List (List D))
  | [], d, n => .ok (some d, n, [])
  | l :: st, d, n => if ts[n]? = some 44 ∧ l.length + 1 ≤ 3 then .ok (none, n + 1, (l ++ [d]) :: st) else if ts[n]? = some 41 then cl ts st (.tup (l ++ [d])) (blk ts (n + 1)) else .error n
def opens : D → Option (List D)
  | .tup xs => some xs
  | _ => none
def rd (ts : T) : Nat → List (List D) → Nat → Except Nat (D × Nat)
  | 0, _, _ => .error 0
  | f + 1, st, n => match lf ts n with
    | .error e => .error e
    | .ok (d, n1) => match (if ts[n1]? = some 40 then opens d else none) with
      | some xs => rd ts f (xs :: st) (n1 + 1)
      | none => match cl ts st d n1 with
        | .error e => .error e
        | .ok (some z, n2, _) => .ok (z, n2)
        | .ok (none, n2, st') => rd ts f st' n2
def read (ts : T) : Except Nat D := match rd ts (ts.length + 1) [] 0 with
  | .error e => .error e
  | .ok (d, n) => if n < ts.length then .error n else if isPat d = true then .ok d else .error ts.length
/-! ### signs of a text -/
theorem cut_ab {x : Str} {a b : Nat} : cutS x (some (a : Int)) (some (b : Int)) = piece x.cps.toList a b := by
  unfold cutS piece
  have hx : x.length = x.cps.toList.length := (Array.length_toList).symm
  rw [HT.sIx_nat, HT.sIx_nat, hx, List.drop_take]
  generalize x.cps.toList = l
  have e : (l.drop (min a l.length)).take (min b l.length - min a l.length) = (l.drop a).take (b - a) := by
    rcases Nat.lt_or_ge a l.length with h | h
    · rw [Nat.min_eq_left (Nat.le_of_lt h)]
      rcases Nat.lt_or_ge b l.length with g | g
      · rw [Nat.min_eq_left (Nat.le_of_lt g)]
      · rw [Nat.min_eq_right g, List.take_of_length_le (by rw [List.length_drop]; omega), List.take_of_length_le (by rw [List.length_drop]; omega)]
    · rw [Nat.min_eq_right h, List.drop_length, List.drop_of_length_le h, List.take_nil, List.take_nil]
  rw [e]
theorem cut_at {x : Str} {n : Nat} : cutS x (some (n : Int)) (some ((n : Int) + 1)) = ⟨(x.cps.toList[n]?.toList).toArray⟩ := by
  have := cut_ab (x := x) (a := n) (b := n + 1)
  rw [show (((n + 1 : Nat) : Int)) = (n : Int) + 1 by omega] at this
  rw [this]
  unfold piece
  rw [List.drop_take]
  generalize x.cps.toList = l
  congr 2
  rw [show n + 1 - n = 1 by omega]
  cases h : l[n]? with
  | none => rw [List.drop_of_length_le (List.getElem?_eq_none_iff.mp h)]; rfl
  | some c =>
    obtain ⟨hi, e⟩ := List.getElem?_eq_some_iff.mp h
    rw [List.drop_eq_getElem_cons hi, e]
    rfl
theorem cut_is {x : Str} {n k : Nat} : decide (cutS x (some (n : Int)) (some ((n : Int) + 1)) = ⟨#[k]⟩) = decide (x.cps.toList[n]? = some k) := by
  rw [cut_at, decide_eq_decide]
  cases x.cps.toList[n]? with
  | none => exact ⟨fun h => absurd (congrArg Str.cps h) (by simp), fun h => (nomatch h)⟩
  | some c =>
    refine ⟨fun h => ?_, fun h => by cases h; rfl⟩
    have : (Option.some c).toList.toArray = #[k] := congrArg Str.cps h
    have e : c = k := by simpa using this
    rw [e]
theorem sp : (" " : Str) = ⟨#[32]⟩ := by decide +kernel
theorem cm : ("," : Str) = ⟨#[44]⟩ := by decide +kernel
theorem cp : (")" : Str) = ⟨#[41]⟩ := by decide +kernel
theorem op : ("(" : Str) = ⟨#[40]⟩ := by decide +kernel
theorem qm : ("?" : Str) = ⟨#[63]⟩ := by decide +kernel
theorem nb_cons {c : Nat} {l : T} : nb (c :: l) = if c = 32 then nb l + 1 else 0 := by
  unfold nb
  rw [List.takeWhile_cons]
  by_cases h : c = 32
  · rw [decide_eq_true h, if_pos h]; rfl
  · rw [decide_eq_false h, if_neg h]; rfl
theorem blk_eq {ts : T} {n : Nat} : blk ts n = if ts[n]? = some 32 then blk ts (n + 1) else n := by
  unfold blk
  cases h : ts[n]? with
  | none =>
    rw [List.drop_of_length_le (List.getElem?_eq_none_iff.mp h), if_neg (fun z => nomatch z)]
    rfl
  | some c =>
    obtain ⟨hi, e⟩ := List.getElem?_eq_some_iff.mp h
    rw [List.drop_eq_getElem_cons hi, e, nb_cons]
    by_cases hc : c = 32
    · rw [if_pos hc, if_pos (by rw [hc])]; omega
    · rw [if_neg hc, if_neg (fun z => hc (Option.some.inj z))]; rfl
theorem blk_le {ts : T} {n : Nat} : n ≤ blk ts n := Nat.le_add_right _ _
theorem blk_len {ts : T} {n : Nat} (h : n ≤ ts.length) : blk ts n ≤ ts.length := by
  unfold blk nb
  have := (List.takeWhile_sublist (l := ts.drop n) fun c => decide (c = 32)).length_le
  rw [List.length_drop] at this
  omega
theorem nl_eq {m : Nat} {ts : T} {n : Nat} : nl m (ts.drop n) = if m = 0 then 0 else if hl ts[n]? = true then nl (m - 1) (ts.drop (n + 1)) + 1 else 0 := by
  unfold nl
  cases m with
  | zero => rfl
  | succ m =>
    rw [if_neg (by omega)]
    cases h : ts[n]? with
    | none =>
      rw [List.drop_of_length_le (List.getElem?_eq_none_iff.mp h)]
      rfl
    | some c =>
      obtain ⟨hi, e⟩ := List.getElem?_eq_some_iff.mp h
      rw [List.drop_eq_getElem_cons hi, e, List.take_succ_cons, List.takeWhile_cons]
      show _ = if isLet c = true then _ else _
      cases hc : isLet c with
      | true => rw [if_pos rfl, if_pos rfl]; rfl
      | false => rw [if_neg (fun z => nomatch z), if_neg (fun z => nomatch z)]; rfl
theorem nl_le {m : Nat} {l : T} : nl m l ≤ m := by
  unfold nl
  exact Nat.le_trans (List.takeWhile_sublist _).length_le (List.length_take_le _ _)
theorem nl_len {m : Nat} {l : T} : nl m l ≤ l.length := by
  unfold nl
  exact Nat.le_trans (List.takeWhile_sublist _).length_le (List.length_take_le' _ _)
theorem en_len {m : Nat} {ts : T} {n : Nat} (h : n ≤ ts.length) : en m ts n ≤ ts.length := by
  unfold en
  have := nl_len (m := m) (l := ts.drop n)
  rw [List.length_drop] at this
  omega
end Rd

set_option Elab.async false
set_option linter.all false
set_option maxRecDepth 100000
set_option maxHeartbeats 4000000
namespace Rd
open PySem L2 DL AL LM Ma LMs
variable [Wd]
local macro_rules | `(tactic| walk_at "al") => `(tactic| dsimp only [aSeq, aIfS, aRet, aRetN, aNext, aDrop, aAsg, aTest, aNot, aAnd, aOr, aYes, aOp, aUn, aC, aVar, aCB, aCons, aNil, aTup, aLst, aChain, aAndV, aOrV, aNotV, aIf, aSl, aPart, aNoPart, aCall, aCallK, aStar, aPar, aPar3, aAug, aFor, aRng, aSeqI, aLc, aListO, aRel, aLstO, aRaise0, aRaise1, aIsi, agN, agT, agCons, agNil, itemsOf, wipeD, List.map, List.set, List.getElem?_cons_zero, List.getElem?_cons_succ, List.append, List.length, oCmp, oInt, onB, by2, oIxB, oIx, oEqB, oEq, oNeB, oNe, oNeE, oIsN, AL.isNon, oAdd, cLen, rs, oSl, oLtB, oTup, oNeg, aMu, onL, mAppend, mPop, aFree, aWhile, aWh])
variable {K : PySem.W.Frag} {cs : Cs}
def Sbk (F : AF) : Prop := ∀ (x : Str) (n : Nat), x.length ≤ sizeLine → Pu F [.str x, .int (n : Int)] (.int (blk x.cps.toList n : Nat))
theorem blanks_loop {x : Str} (hx : x.length ≤ sizeLine) {Γ : Sto} {Po : AEnds} : ∀ (k n : Nat), x.cps.toList.length ≤ n + k → Po.nx [some (.str x), some (.int (blk x.cps.toList n : Nat))] Γ →
    ∃ m, aWh (aTest (aOp oEqB (aSl oSl (aVar 0) (aPart (aVar 1)) (aPart (aOp oAdd (aVar 1) (aC (.int 1))))) (aC (.str " ")))) (aAug 1 (aC (.int 1))) Po m [some (.str x), some (.int (n : Nat))] Γ
  | k, n, hk, h => by
    by_cases e : x.cps.toList[n]? = some 32
    · have hn : n < x.cps.toList.length := (List.getElem?_eq_some_iff.mp e).1
      obtain ⟨k, rfl⟩ : ∃ j, k = j + 1 := ⟨k - 1, by omega⟩
      rw [blk_eq, if_pos e] at h
      obtain ⟨m, hm⟩ := blanks_loop hx k (n + 1) (by omega) h
      refine ⟨m + 1, ?_⟩
      walk_at "al"
      refine ⟨hx, ?_⟩
      rw [sp, cut_is, decide_eq_true e]
      exact ⟨fun _ => by rw [show ((n : Int) + 1) = ((n + 1 : Nat) : Int) by omega]; exact hm, tf⟩
    · rw [blk_eq, if_neg e] at h
      refine ⟨1, ?_⟩
      walk_at "al"
      refine ⟨hx, ?_⟩
      rw [sp, cut_is, decide_eq_false e]
      exact ⟨ft, fun _ => h⟩
theorem s_blanks : Sbk (afn ["text", "at"] ["text", "at"] (u_behind_blanks K cs)) := fun x n hx Γ P X hP => by
  refine ⟨rfl, ?_⟩
  show u_behind_blanks K cs _ [some (.str x), some (.int (n : Int))] Γ
  delta u_behind_blanks
  exact blanks_loop hx x.cps.toList.length n (by omega) hP
def Slt (cs : Cs) (F : AF) : Prop := ∀ (x : Str) (n m : Nat), x.length ≤ sizeLine → (bad m x.cps.toList n = false → Pu F [.str x, .int (n : Int), .int (m : Int)] (.int (en m x.cps.toList n : Nat))) ∧ (bad m x.cps.toList n = true → Er F [.str x, .int (n : Int), .int (m : Int)] (.exc1 cs.NoText "at" (.int (en m x.cps.toList n : Nat))))
theorem hl_some {ts : T} {n : Nat} (h : hl ts[n]? = true) : ∃ c, ts[n]? = some c ∧ isLet c = true := by
  cases e : ts[n]? with
  | none => rw [e] at h; cases h
  | some c => rw [e] at h; exact ⟨c, rfl, h⟩
theorem letters_loop {x : Str} (hx : x.length ≤ sizeLine) {n0 m0 : Nat} {Γ : Sto} {Po : AEnds} : ∀ (m n : Nat), n + m = n0 + m0 → Po.nx [some (.str x), some (.int (n0 : Int)), some (.int (m0 : Int)), some (.int (en m x.cps.toList n : Nat))] Γ →
    ∃ k, aWh (aAnd (aTest (aOp oLtB (aVar 3) (aOp oAdd (aVar 1) (aVar 2)))) (aAnd (aTest (aOp oLtB (aVar 3) (aCB cLen (aCons (aVar 0) aNil)))) (aTest (aOp oInB (aOp oIxB (aVar 0) (aVar 3)) (aC (.str "abcdefghijklmnopqrstuvwxyz")))))) (aAug 3 (aC (.int 1))) Po k [some (.str x), some (.int (n0 : Int)), some (.int (m0 : Int)), some (.int (n : Nat))] Γ
  | m, n, e, h => by
    unfold en at h
    rw [nl_eq] at h
    by_cases h0 : m = 0
    · rw [if_pos h0] at h
      refine ⟨1, ?_⟩
      walk_at "al"
      refine ⟨fun z => ?_, fun _ => ⟨ft, fun _ => h⟩⟩
      have := of_decide_eq_true z
      omega
    · rw [if_neg h0] at h
      obtain ⟨m, rfl⟩ : ∃ j, m = j + 1 := ⟨m - 1, by omega⟩
      by_cases hc : hl x.cps.toList[n]? = true
      · rw [if_pos hc] at h
        obtain ⟨c, hc1, hc2⟩ := hl_some hc
        have hn : n < x.cps.toList.length := (List.getElem?_eq_some_iff.mp hc1).1
        have hn' : n < x.length := by rw [Array.length_toList] at hn; exact hn
        obtain ⟨k, hk⟩ := letters_loop hx (n0 := n0) (m0 := m0) m (n + 1) (by omega) (by
          unfold en
          rw [show n + 1 + nl m (x.cps.toList.drop (n + 1)) = n + (nl (m + 1 - 1) (x.cps.toList.drop (n + 1)) + 1) by rw [Nat.add_sub_cancel]; omega]
          exact h)
        refine ⟨k + 1, ?_⟩
        walk_at "al"
        refine ⟨fun _ => ⟨hx, fun _ => ⟨hx, c, ?_, c, rfl, ?_⟩, fun z => ?_⟩, fun z => ?_⟩
        · exact atI_nat hc1
        · rw [Bool.false_xor]
          show (isLet c = true → _) ∧ (isLet c = false → _)
          rw [hc2]
          exact ⟨fun _ => by rw [show ((n : Int) + 1) = ((n + 1 : Nat) : Int) by omega]; exact hk, tf⟩
        · have := of_decide_eq_false z
          omega
        · have := of_decide_eq_false z
          omega
      · rw [if_neg hc] at h
        refine ⟨1, ?_⟩
        walk_at "al"
        refine ⟨fun _ => ⟨hx, fun z => ?_, fun _ => ⟨ft, fun _ => h⟩⟩, fun z => ?_⟩
        · have hn' : n < x.length := by
            have := of_decide_eq_true z
            omega
          have hn : n < x.cps.toList.length := by rw [Array.length_toList]; exact hn'
          have hc1 := List.getElem?_eq_getElem hn
          have hc2 : isLet x.cps.toList[n] = false := by
            rw [hc1] at hc
            cases q : isLet x.cps.toList[n] with
            | true => exact absurd q hc
            | false => rfl
          refine ⟨hx, _, atI_nat hc1, _, rfl, ?_⟩
          rw [Bool.false_xor]
          show (isLet _ = true → _) ∧ (isLet _ = false → _)
          rw [hc2]
          exact ⟨ft, fun _ => h⟩
        · have := of_decide_eq_false z
          omega
theorem s_lettersAt : Slt cs (afn ["text", "at", "most", "end"] ["text", "at", "most"] (u_behind_letters K cs)) := fun x n m hx => by
  -- the test behind the loop
  have tail : ∀ {Γ : Sto} {Po : AEnds}, (bad m x.cps.toList n = true → Po.ex (.exc1 cs.NoText "at" (.int (en m x.cps.toList n : Nat))) [some (.str x), some (.int (n : Int)), some (.int (m : Int)), some (.int (en m x.cps.toList n : Nat))] Γ) → (bad m x.cps.toList n = false → Po.rt (.int (en m x.cps.toList n : Nat)) Γ) →
      aSeq (aIfS (aOr (aTest (aOp oEqB (aVar 3) (aVar 1))) (aAnd (aTest (aOp oEqB (aVar 3) (aOp oAdd (aVar 1) (aVar 2)))) (aAnd (aTest (aOp oLtB (aVar 3) (aCB cLen (aCons (aVar 0) aNil)))) (aTest (aOp oInB (aOp oIxB (aVar 0) (aVar 3)) (aC (.str "abcdefghijklmnopqrstuvwxyz"))))))) (aRaise1 cs.NoText "at" (aVar 3)) aNext) (aRet (aVar 3)) Po [some (.str x), some (.int (n : Int)), some (.int (m : Int)), some (.int (en m x.cps.toList n : Nat))] Γ := fun {Γ Po} h1 h2 => by
    walk_at "al"
    unfold bad at h1 h2
    by_cases e0 : nl m (x.cps.toList.drop n) = 0
    · rw [decide_eq_true e0, Bool.true_or] at h1 h2
      have e : ((en m x.cps.toList n : Nat) : Int) = (n : Int) := by unfold en; omega
      rw [decide_eq_true e]
      exact ⟨fun _ => ⟨fun _ => h1 rfl, tf⟩, tf⟩
    · rw [decide_eq_false e0, Bool.false_or] at h1 h2
      have e : ¬ ((en m x.cps.toList n : Nat) : Int) = (n : Int) := by unfold en; omega
      rw [decide_eq_false e]
      refine ⟨ft, fun _ => ?_⟩
      by_cases e1 : nl m (x.cps.toList.drop n) = m
      · rw [decide_eq_true e1, Bool.true_and] at h1 h2
        have e' : ((en m x.cps.toList n : Nat) : Int) = (n : Int) + (m : Int) := by unfold en; omega
        have e2 : en m x.cps.toList n = n + m := by unfold en; omega
        rw [decide_eq_true e']
        refine ⟨fun _ => ⟨hx, fun z => ?_, fun z => ?_⟩, tf⟩
        · have hn' : n + m < x.length := by
            have := of_decide_eq_true z
            omega
          have hn : n + m < x.cps.toList.length := by rw [Array.length_toList]; exact hn'
          have hc1 := List.getElem?_eq_getElem hn
          rw [hc1] at h1 h2
          refine ⟨hx, _, by rw [e2]; exact atI_nat hc1, _, rfl, ?_⟩
          rw [Bool.false_xor]
          show (isLet _ = true → _) ∧ (isLet _ = false → _)
          exact ⟨fun q => h1 q, fun q => h2 q⟩
        · have hn' : ¬ n + m < x.length := by
            have := of_decide_eq_false z
            omega
          have hc1 : x.cps.toList[n + m]? = none := List.getElem?_eq_none_iff.mpr (by rw [Array.length_toList]; exact Nat.le_of_not_lt hn')
          rw [hc1] at h2
          exact ⟨ft, fun _ => h2 rfl⟩
      · rw [decide_eq_false e1, Bool.false_and] at h1 h2
        have e' : ¬ ((en m x.cps.toList n : Nat) : Int) = (n : Int) + (m : Int) := by unfold en; omega
        rw [decide_eq_false e']
        exact ⟨ft, fun _ => ⟨ft, fun _ => h2 rfl⟩⟩
  refine ⟨fun hb Γ P X hP => ⟨rfl, ?_⟩, fun hb Γ P X hP => ⟨rfl, ?_⟩⟩
  · show u_behind_letters K cs _ [some (.str x), some (.int (n : Int)), some (.int (m : Int)), none] Γ
    delta u_behind_letters
    show aWhile _ _ _ [some (.str x), some (.int (n : Int)), some (.int (m : Int)), some (.int (n : Int))] Γ
    exact letters_loop hx m n rfl (tail (fun z => by rw [hb] at z; cases z) fun _ => hP)
  · show u_behind_letters K cs _ [some (.str x), some (.int (n : Int)), some (.int (m : Int)), none] Γ
    delta u_behind_letters
    show aWhile _ _ _ [some (.str x), some (.int (n : Int)), some (.int (m : Int)), some (.int (n : Int))] Γ
    exact letters_loop hx m n rfl (tail (fun _ => hP) fun z => by rw [hb] at z; cases z)
end Rd

set_option Elab.async false
set_option linter.all false
set_option maxRecDepth 100000
set_option maxHeartbeats 4000000
namespace Rd
open PySem L2 DL AL LM Ma LMs
variable [Wd]
local macro_rules | `(tactic| walk_at "al") => `(tactic| dsimp only [aSeq, aIfS, aRet, aRetN, aNext, aDrop, aAsg, aTest, aNot, aAnd, aOr, aYes, aOp, aUn, aC, aVar, aCB, aCons, aNil, aTup, aLst, aChain, aAndV, aOrV, aNotV, aIf, aSl, aPart, aNoPart, aCall, aCallK, aStar, aPar, aPar3, aAug, aFor, aRng, aSeqI, aLc, aListO, aRel, aLstO, aRaise0, aRaise1, aIsi, agN, agT, agCons, agNil, itemsOf, wipeD, List.map, List.set, List.getElem?_cons_zero, List.getElem?_cons_succ, List.append, List.length, oCmp, oInt, onB, by2, oIxB, oIx, oEqB, oEq, oNeB, oNe, oNeE, oIsN, AL.isNon, oAdd, cLen, rs, oSl, oLtB, oTup, oNeg, aMu, onL, mAppend, mPop, aFree, aWhile, aWh])
variable {K : PySem.W.Frag} {cs : Cs}
def Slf (cs : Cs) (F : AF) : Prop := ∀ (x : Str) (n : Nat), x.length ≤ sizeLine → (∀ d n1, lf x.cps.toList n = .ok (d, n1) → Pu F [.str x, .int (n : Int)] (.tup [d, .int (n1 : Int)])) ∧ (∀ e, lf x.cps.toList n = .error e → Er F [.str x, .int (n : Int)] (.exc1 cs.NoText "at" (.int (e : Int))))
theorem s_leaf {Fb Fl : AF} (hb : Sbk Fb) (hl : Slt cs Fl) : Slf cs (afn ["text", "at", "end"] ["text", "at"] (u_leaf_at K cs Fb Fl)) := fun x n hx => by
  have e1 : ∀ k : Nat, ((k : Int) + 1) = ((k + 1 : Nat) : Int) := fun k => by omega
  refine ⟨fun d n1 he Γ P X hP => ⟨rfl, ?_⟩, fun e he Γ P X hP => ⟨rfl, ?_⟩⟩
  · show u_leaf_at K cs Fb Fl _ [some (.str x), some (.int (n : Int)), none] Γ
    delta u_leaf_at
    walk_at "al"
    refine hb x n hx Γ _ _ ⟨hx, ?_⟩
    unfold lf at he
    rw [qm, cut_is]
    by_cases h0 : x.cps.toList[blk x.cps.toList n]? = some 63
    · rw [if_pos h0] at he
      rw [decide_eq_true h0]
      refine ⟨fun _ => ?_, tf⟩
      cases h1 : bad 4 x.cps.toList (blk x.cps.toList n + 1) with
      | true => rw [h1, if_pos rfl] at he; cases he
      | false =>
        rw [h1, if_neg (fun z => nomatch z)] at he
        cases he
        show Fl [.str x, .int (((blk x.cps.toList n : Nat) : Int) + 1), .int 4] Γ _ _
        rw [e1]
        refine (hl x _ 4 hx).1 h1 Γ _ _ ⟨hx, ?_⟩
        rw [cut_ab]
        exact hb x _ hx Γ _ _ ⟨sz1000 (by decide), hP⟩
    · rw [if_neg h0] at he
      rw [decide_eq_false h0]
      refine ⟨ft, fun _ => ?_⟩
      cases h1 : bad 8 x.cps.toList (blk x.cps.toList n) with
      | true => rw [h1, if_pos rfl] at he; cases he
      | false =>
        rw [h1, if_neg (fun z => nomatch z)] at he
        cases he
        refine (hl x _ 8 hx).1 h1 Γ _ _ ⟨hx, ?_⟩
        rw [cut_ab]
        refine ⟨sz1000 (by decide), ?_⟩
        exact hb x _ hx Γ _ _ ⟨sz1000 (by decide), hP⟩
  · show u_leaf_at K cs Fb Fl _ [some (.str x), some (.int (n : Int)), none] Γ
    delta u_leaf_at
    walk_at "al"
    refine hb x n hx Γ _ _ ⟨hx, ?_⟩
    unfold lf at he
    rw [qm, cut_is]
    by_cases h0 : x.cps.toList[blk x.cps.toList n]? = some 63
    · rw [if_pos h0] at he
      rw [decide_eq_true h0]
      refine ⟨fun _ => ?_, tf⟩
      cases h1 : bad 4 x.cps.toList (blk x.cps.toList n + 1) with
      | false => rw [h1, if_neg (fun z => nomatch z)] at he; cases he
      | true =>
        rw [h1, if_pos rfl] at he
        cases he
        show Fl [.str x, .int (((blk x.cps.toList n : Nat) : Int) + 1), .int 4] Γ _ _
        rw [e1]
        exact (hl x _ 4 hx).2 h1 Γ _ _ hP
    · rw [if_neg h0] at he
      rw [decide_eq_false h0]
      refine ⟨ft, fun _ => ?_⟩
      cases h1 : bad 8 x.cps.toList (blk x.cps.toList n) with
      | false => rw [h1, if_neg (fun z => nomatch z)] at he; cases he
      | true =>
        rw [h1, if_pos rfl] at he
        cases he
        exact (hl x _ 8 hx).2 h1 Γ _ _ hP
/-! ### the open ones, in the store -/
/-- the cells of the open ones, innermost first -/
inductive Al (Γ : Sto) : List Addr → List (List D) → Prop
  | nil : Al Γ [] []
  | cons {r : Addr} {l : List D} {rs : List Addr} {st : List (List D)} : Γ r = some (.lst l) → Al Γ rs st → Al Γ (r :: rs) (l :: st)
structure Sk (Γ : Sto) (p : Addr) (rs : List Addr) (st : List (List D)) : Prop where
  top : Γ p = some (.lst (rs.reverse.map D.ref))
  each : Al Γ rs st
  nd : (p :: rs).Nodup
theorem Al.up {Γ : Sto} {q : Addr} {c : Cell} : ∀ {rs : List Addr} {st : List (List D)}, Al Γ rs st → q ∉ rs → Al (upS Γ q c) rs st
  | _, _, .nil, _ => .nil
  | _, _, .cons h t, n => .cons ((upS_ne (fun z => n (by rw [← z]; exact List.mem_cons_self))).trans h) (t.up fun z => n (List.mem_cons_of_mem _ z))
theorem Al.len {Γ : Sto} : ∀ {rs : List Addr} {st : List (List D)}, Al Γ rs st → rs.length = st.length
  | _, _, .nil => rfl
  | _, _, .cons _ t => by rw [List.length_cons, List.length_cons, t.len]
theorem Al.some {Γ : Sto} : ∀ {rs : List Addr} {st : List (List D)}, Al Γ rs st → ∀ r, r ∈ rs → Γ r ≠ none
  | _, _, .nil, _, h => by cases h
  | _, _, .cons h t, r, hr => by
    rcases List.mem_cons.mp hr with rfl | hr
    · rw [h]; exact fun z => nomatch z
    · exact t.some r hr
/-- nothing else is changed -/
def Ot (own : List Addr) (Γ Γ' : Sto) : Prop := ∀ b, b ∉ own → Γ b ≠ none → Γ' b = Γ b
theorem Ot.refl {own : List Addr} {Γ : Sto} : Ot own Γ Γ := fun _ _ _ => rfl
theorem Ot.trans {own own' : List Addr} {Γ Γ1 Γ2 : Sto} (h : Ot own Γ Γ1) (g : Ot own' Γ1 Γ2) (s : ∀ b, b ∈ own' → b ∈ own ∨ Γ b = none) : Ot own Γ Γ2 := fun b hb hn => by
  have e := h b hb hn
  rw [← e]
  refine g b (fun z => ?_) (by rw [e]; exact hn)
  rcases s b z with q | q
  · exact hb q
  · exact hn q
theorem Ot.up {own : List Addr} {Γ : Sto} {q : Addr} {c : Cell} (h : q ∈ own ∨ Γ q = none) : Ot own Γ (upS Γ q c) := fun b hb hn => upS_ne fun z => by
  subst z
  rcases h with h | h
  · exact hb h
  · exact hn h
theorem rs_p {Γ : Sto} {p : Addr} {l : List D} (h : Γ p = some (.lst l)) : AL.rs Γ (.ref p) = .lst l := by simp only [AL.rs, h]
theorem onL_ref {Γ : Sto} {r : Addr} {l : List D} {f : Addr → List D → Prop} (h : Γ r = some (.lst l)) (q : f r l) : onL Γ (.ref r) f := by
  simp only [onL, h]
  exact q
section
variable {δ : DL.Env} {Γ : Sto} {P : D → Sto → Prop} {PB : Bool → Sto → Prop} {X : QX} {p r : Addr} {d z : D} {l l0 : List D} {i : Nat}
theorem v_at (h : δ[i]? = some (some d)) (q : P d Γ) : aVar i δ Γ P X := by
  unfold aVar
  rw [h]
  exact q
theorem ix_last (h3 : δ[3]? = some (some (.ref p))) (hp : Γ p = some (.lst (l0 ++ [z]))) (q : P z Γ) : aOp oIxB (aVar 3) (aUn oNeg (aC (.int 1))) δ Γ P X := by
  show aVar 3 δ Γ _ X
  refine v_at h3 ?_
  show oIxB (AL.rs Γ (.ref p)) (.int (-1)) _
  rw [rs_p hp]
  exact ⟨z, atI_last _ _, q⟩
theorem app_last (h3 : δ[3]? = some (some (.ref p))) (h2 : δ[2]? = some (some d)) (hp : Γ p = some (.lst (l0 ++ [.ref r]))) (hr : Γ r = some (.lst l)) (hl : l.length < sizeLine) (q : P .non (upS Γ r (.lst (l ++ [d])))) : aMu mAppend (aOp oIxB (aVar 3) (aUn oNeg (aC (.int 1)))) (aCons (aVar 2) aNil) δ Γ P X := by
  unfold aMu
  refine ix_last h3 hp (onL_ref hr ?_)
  dsimp only [aCons, aNil]
  exact v_at h2 (onL_ref hr ⟨hl, q⟩)
theorem len_last {k : Int} (h3 : δ[3]? = some (some (.ref p))) (hp : Γ p = some (.lst (l0 ++ [.ref r]))) (hr : Γ r = some (.lst l)) (q : PB (decide ((l.length : Int) ≤ k)) Γ) : aTest (aOp (oCmp fun i j => decide (i ≤ j)) (aCB cLen (aCons (aOp oIxB (aVar 3) (aUn oNeg (aC (.int 1)))) aNil)) (aC (.int k))) δ Γ PB X := by
  have he : ∀ P : D → Sto → Prop, P (.ref r) Γ → aOp oIxB (aVar 3) (aUn oNeg (aC (.int 1))) δ Γ P X := fun P q => ix_last h3 hp q
  revert he
  generalize aOp oIxB (aVar 3) (aUn oNeg (aC (.int 1))) = e
  intro he
  dsimp only [aTest, aOp, aCB, aCons, aNil, aC, List.map]
  refine he _ ?_
  rw [rs_p hr]
  exact q
theorem pop_last (h3 : δ[3]? = some (some (.ref p))) (hp : Γ p = some (.lst (l0 ++ [.ref r]))) (hr : Γ r = some (.lst l)) (npr : r ≠ p) (q : P (.tup l) (upS Γ p (.lst l0))) : aUn oTup (aMu mPop (aVar 3) aNil) δ Γ P X := by
  unfold aUn aMu
  refine v_at h3 (onL_ref hp ?_)
  unfold aNil
  refine onL_ref hp ⟨rfl, .ref r, by simp, ?_⟩
  show oTup (AL.rs (upS Γ p (.lst (l0 ++ [D.ref r]).dropLast)) (.ref r)) _
  rw [List.dropLast_concat, rs_p (l := l) (by rw [upS_ne npr]; exact hr)]
  exact q
theorem ne_nil (h3 : δ[3]? = some (some (.ref p))) (hp : Γ p = some (.lst [])) (q : PB false Γ) : aTest (aOp oNeE (aVar 3) (aLst aNil)) δ Γ PB X := by
  unfold aTest aOp
  refine v_at h3 ?_
  refine ⟨sz1000 (by decide), ?_⟩
  show oNeE (AL.rs Γ (.ref p)) (.lst []) _
  rw [rs_p hp]
  refine ⟨⟨rfl, by decide⟩, ⟨rfl, by decide⟩, ?_⟩
  rw [show (!eqD (.lst []) (.lst [])) = false by decide +kernel]
  exact q
theorem ne_cons (h3 : δ[3]? = some (some (.ref p))) (hp : Γ p = some (.lst (l0 ++ [z]))) (q : PB true Γ) : aTest (aOp oNeE (aVar 3) (aLst aNil)) δ Γ PB X := by
  unfold aTest aOp
  refine v_at h3 ?_
  refine ⟨sz1000 (by decide), ?_⟩
  show oNeE (AL.rs Γ (.ref p)) (.lst []) _
  rw [rs_p hp]
  cases l0 <;> exact q
end
abbrev ev (x : Str) (n : Nat) (d : D) (p : Addr) (t4 : Option D) : DL.Env := [some (.str x), some (.int (n : Int)), some d, some (.ref p), t4]
theorem closed_loop {Fb : AF} (hb : Sbk Fb) {x : Str} (hx : x.length ≤ sizeLine) {p : Addr} {Po : AEnds} : ∀ (st : List (List D)) (rs : List Addr) (d : D) (n : Nat) (t4 : Option D) (Γ : Sto), Sk Γ p rs st → (∀ l, l ∈ st → l.length < 100) →
    (∀ e, cl x.cps.toList st d n = .error e → ∀ Γ' δ, Ot (p :: rs) Γ Γ' → Po.ex (.exc1 cs.NoText "at" (.int (e : Int))) δ Γ') →
    (∀ z n' st', cl x.cps.toList st d n = .ok (z, n', st') → ∀ Γ' rs', Sk Γ' p rs' st' → (∀ r, r ∈ rs' → r ∈ rs) → Ot (p :: rs) Γ Γ' → match z with
      | some z => ∀ t4, Po.nx (ev x n' z p t4) Γ'
      | none => Po.rt (.tup [.non, .int (n' : Int)]) Γ') →
    ∃ m, aWh (aTest (aOp oNeE (aVar 3) (aLst aNil))) (aSeq (aDrop (aMu mAppend (aOp oIxB (aVar 3) (aUn oNeg (aC (.int 1)))) (aCons (aVar 2) aNil)))
    (aSeq (aAsg (aSl oSl (aVar 0) (aPart (aVar 1)) (aPart (aOp oAdd (aVar 1) (aC (.int 1))))) (agN 4))
    (aSeq (aIfS (aAnd (aTest (aOp oEqB (aVar 4) (aC (.str ",")))) (aTest (aOp (oCmp fun i j => decide (i ≤ j)) (aCB cLen (aCons (aOp oIxB (aVar 3) (aUn oNeg (aC (.int 1)))) aNil)) (aC (.int 3))))) (aRet (aTup (aCons (aC .non) (aCons (aOp oAdd (aVar 1) (aC (.int 1))) aNil)))) aNext)
    (aSeq (aIfS (aTest (aOp oNeB (aVar 4) (aC (.str ")")))) (aRaise1 cs.NoText "at" (aVar 1)) aNext)
    (aPar 2 1 (aCons (aUn oTup (aMu mPop (aVar 3) aNil)) (aCons (aCall Fb (aCons (aVar 0) (aCons (aOp oAdd (aVar 1) (aC (.int 1))) aNil))) aNil))))))) Po m (ev x n d p t4) Γ
  | [], rs, d, n, t4, Γ, sk, hlen, he, ho => by
    obtain rfl : rs = [] := List.length_eq_zero_iff.mp sk.each.len
    exact ⟨1, ne_nil rfl sk.top ⟨ft, fun _ => ho (some d) n [] rfl Γ [] sk (fun _ h => h) Ot.refl t4⟩⟩
  | l :: st, rs, d, n, t4, Γ, sk, hlen, he, ho => by
    cases rs with
    | nil => exact absurd sk.each.len (by simp)
    | cons r rs =>
    have ht := sk.top
    have e1 : (r :: rs).reverse.map D.ref = rs.reverse.map D.ref ++ [D.ref r] := by simp
    rw [e1] at ht
    have hr : Γ r = some (.lst l) := by cases sk.each with | cons h _ => exact h
    have hal : Al Γ rs st := by cases sk.each with | cons _ h => exact h
    have nrp : r ≠ p := fun z => (List.nodup_cons.mp sk.nd).1 (by rw [← z]; exact List.mem_cons_self)
    have npr : p ≠ r := fun z => nrp z.symm
    have nrr : r ∉ rs := (List.nodup_cons.mp (List.nodup_cons.mp sk.nd).2).1
    have hp1 : upS Γ r (.lst (l ++ [d])) p = some (.lst (rs.reverse.map D.ref ++ [D.ref r])) := by rw [upS_ne npr]; exact ht
    have hr1 : upS Γ r (.lst (l ++ [d])) r = some (.lst (l ++ [d])) := upS_same
    have ot1 : Ot (p :: r :: rs) Γ (upS Γ r (.lst (l ++ [d]))) := Ot.up (.inl (by simp))
    have hll := hlen l List.mem_cons_self
    have sk1 : Sk (upS Γ r (.lst (l ++ [d]))) p (r :: rs) ((l ++ [d]) :: st) := ⟨by rw [hp1, e1], .cons hr1 (hal.up nrr), sk.nd⟩
    have ei : ((n : Int) + 1) = ((n + 1 : Nat) : Int) := by omega
    unfold cl at he ho
    by_cases c44 : x.cps.toList[n]? = some 44 ∧ l.length + 1 ≤ 3
    · rw [if_pos c44] at he ho
      refine ⟨1, ne_cons rfl ht ⟨fun _ => ?_, tf⟩⟩
      refine app_last (δ := ev x n d p t4) (p := p) (d := d) rfl rfl ht hr (small (by omega)) ?_
      refine ⟨hx, ?_⟩
      refine ⟨fun _ => ?_, fun z => ?_⟩
      · refine len_last rfl hp1 hr1 ?_
        refine ⟨fun _ => ⟨sz1000 (by show 2 ≤ 1000; decide), ?_⟩, fun z => ?_⟩
        · have := ho none (n + 1) _ rfl _ (r :: rs) sk1 (fun _ h => h) ot1
          show Po.rt (.tup [.non, .int ((n : Int) + 1)]) _
          rw [ei]
          exact this
        · have := of_decide_eq_false z
          rw [List.length_append] at this
          exact absurd (by have := c44.2; simp; omega) this
      · have z' : decide (cutS x (some (n : Int)) (some ((n : Int) + 1)) = ("," : Str)) = false := z
        rw [cm, cut_is, decide_eq_true c44.1] at z'
        cases z'
    · rw [if_neg c44] at he ho
      -- the comma does not go on
      have past : ∀ {P : AEnds} {δ : DL.Env} {Γ1 : Sto} {u : AS}, δ = ev x n d p (some (.str (cutS x (some (n : Int)) (some ((n : Int) + 1))))) → Γ1 = upS Γ r (.lst (l ++ [d])) → u P δ Γ1 →
          aSeq (aIfS (aAnd (aTest (aOp oEqB (aVar 4) (aC (.str ",")))) (aTest (aOp (oCmp fun i j => decide (i ≤ j)) (aCB cLen (aCons (aOp oIxB (aVar 3) (aUn oNeg (aC (.int 1)))) aNil)) (aC (.int 3))))) (aRet (aTup (aCons (aC .non) (aCons (aOp oAdd (aVar 1) (aC (.int 1))) aNil)))) aNext) u P δ Γ1 := fun {P δ Γ1 u} ed eg hu => by
        subst ed eg
        refine ⟨fun z => ?_, fun z => ⟨ft, fun _ => hu⟩⟩
        refine len_last rfl hp1 hr1 ⟨fun y => ?_, fun _ => hu⟩
        have z' : decide (cutS x (some (n : Int)) (some ((n : Int) + 1)) = ("," : Str)) = true := z
        rw [cm, cut_is] at z'
        have y' := of_decide_eq_true y
        rw [List.length_append] at y'
        exact absurd ⟨of_decide_eq_true z', by simp at y'; omega⟩ c44
      have paren : ∀ {P : AEnds} {δ : DL.Env} {Γ1 : Sto} {u : AS}, δ = ev x n d p (some (.str (cutS x (some (n : Int)) (some ((n : Int) + 1))))) → (¬ x.cps.toList[n]? = some 41 → P.ex (.exc1 cs.NoText "at" (.int (n : Int))) δ Γ1) → (x.cps.toList[n]? = some 41 → u P δ Γ1) →
          aSeq (aIfS (aTest (aOp oNeB (aVar 4) (aC (.str ")")))) (aRaise1 cs.NoText "at" (aVar 1)) aNext) u P δ Γ1 := fun {P δ Γ1 u} ed h1 h2 => by
        subst ed
        refine ⟨fun z => h1 ?_, fun z => h2 ?_⟩
        · have z' : (!decide (cutS x (some (n : Int)) (some ((n : Int) + 1)) = (")" : Str))) = true := z
          rw [cp, cut_is] at z'
          simpa using z'
        · have z' : (!decide (cutS x (some (n : Int)) (some ((n : Int) + 1)) = (")" : Str))) = false := z
          rw [cp, cut_is] at z'
          simpa using z'
      by_cases c41 : x.cps.toList[n]? = some 41
      · rw [if_pos c41] at he ho
        have hp2 : upS (upS Γ r (.lst (l ++ [d]))) p (.lst (rs.reverse.map D.ref)) p = some (.lst (rs.reverse.map D.ref)) := upS_same
        have npm : p ∉ rs := fun z => (List.nodup_cons.mp sk.nd).1 (List.mem_cons_of_mem _ z)
        have sk2 : Sk (upS (upS Γ r (.lst (l ++ [d]))) p (.lst (rs.reverse.map D.ref))) p rs st := ⟨hp2, (hal.up nrr).up npm, List.nodup_cons.mpr ⟨npm, (List.nodup_cons.mp (List.nodup_cons.mp sk.nd).2).2⟩⟩
        have ot2 : ∀ {Γ'}, Ot (p :: rs) (upS (upS Γ r (.lst (l ++ [d]))) p (.lst (rs.reverse.map D.ref))) Γ' → Ot (p :: r :: rs) Γ Γ' := fun {Γ'} h => Ot.trans (Ot.trans ot1 (Ot.up (own := [p]) (.inl (by simp))) (fun b hb => .inl (by simp at hb; simp [hb]))) h fun b hb => .inl (by
          rcases List.mem_cons.mp hb with q | q
          · simp [q]
          · simp [q])
        obtain ⟨m, hm⟩ := closed_loop hb hx st rs (.tup (l ++ [d])) (blk x.cps.toList (n + 1)) (some (.str (cutS x (some (n : Int)) (some ((n : Int) + 1))))) _ sk2 (fun l' hl' => hlen l' (List.mem_cons_of_mem _ hl')) (fun e h Γ' δ ot => he e h Γ' δ (ot2 ot)) (fun z n' st' h Γ' rs' sk' hs ot => ho z n' st' h Γ' rs' sk' (fun r' hr' => List.mem_cons_of_mem _ (hs r' hr')) (ot2 ot))
        refine ⟨m + 1, ne_cons rfl ht ⟨fun _ => ?_, tf⟩⟩
        refine app_last (δ := ev x n d p t4) (p := p) (d := d) rfl rfl ht hr (small (by omega)) ?_
        refine ⟨hx, past rfl rfl (paren rfl (fun z => absurd c41 z) fun _ => ?_)⟩
        unfold aPar aCons
        refine pop_last rfl hp1 hr1 nrp ?_
        show Fb [.str x, .int ((n : Int) + 1)] _ _ _
        rw [ei]
        exact hb x (n + 1) hx _ _ _ hm
      · rw [if_neg c41] at he ho
        refine ⟨1, ne_cons rfl ht ⟨fun _ => ?_, tf⟩⟩
        refine app_last (δ := ev x n d p t4) (p := p) (d := d) rfl rfl ht hr (small (by omega)) ?_
        exact ⟨hx, past rfl rfl (paren rfl (fun _ => he n rfl _ _ ot1) fun z => absurd z c41)⟩
end Rd

set_option Elab.async false
set_option linter.all false
set_option maxRecDepth 100000
set_option maxHeartbeats 4000000
namespace Rd
open PySem L2 DL AL LM Ma LMs
variable [Wd]
local macro_rules | `(tactic| walk_at "al") => `(tactic| dsimp only [aSeq, aIfS, aRet, aRetN, aNext, aDrop, aAsg, aTest, aNot, aAnd, aOr, aYes, aOp, aUn, aC, aVar, aCB, aCons, aNil, aTup, aLst, aChain, aAndV, aOrV, aNotV, aIf, aSl, aPart, aNoPart, aCall, aCallK, aStar, aPar, aPar3, aAug, aFor, aRng, aSeqI, aLc, aListO, aRel, aLstO, aRaise0, aRaise1, aIsi, agN, agT, agCons, agNil, itemsOf, wipeD, List.map, List.set, List.getElem?_cons_zero, List.getElem?_cons_succ, List.append, List.length, oCmp, oInt, onB, by2, oIxB, oIx, oEqB, oEq, oNeB, oNe, oNeE, oIsN, AL.isNon, oAdd, cLen, oSl, oLtB, oTup, oNeg, aFree, aWhile, aWh])
variable {K : PySem.W.Frag} {cs : Cs}
def Scl (cs : Cs) (F : AF) : Prop := ∀ (x : Str) (n : Nat) (d : D) (p : Addr) (rs : List Addr) (st : List (List D)) (Γ : Sto) (P : D → Sto → Prop) (X : D → Sto → Prop), x.length ≤ sizeLine → Sk Γ p rs st → (∀ l, l ∈ st → l.length < 100) →
  (∀ e, cl x.cps.toList st d n = .error e → ∀ Γ', Ot (p :: rs) Γ Γ' → X (.exc1 cs.NoText "at" (.int (e : Int))) Γ') →
  (∀ z n' st', cl x.cps.toList st d n = .ok (z, n', st') → ∀ Γ' rs', Sk Γ' p rs' st' → (∀ r, r ∈ rs' → r ∈ rs) → Ot (p :: rs) Γ Γ' → P (.tup [z.getD .non, .int (n' : Int)]) Γ') → F [.str x, .int (n : Int), d, .ref p] Γ P X
theorem s_closed {Fb : AF} (hb : Sbk Fb) : Scl cs (afn ["text", "at", "part", "open_ones", "sign"] ["text", "at", "part", "open_ones"] (u_closed K cs Fb)) := fun x n d p rs st Γ P X hx sk hl he ho => by
  refine ⟨rfl, ?_⟩
  show u_closed K cs Fb _ [some (.str x), some (.int (n : Int)), some d, some (.ref p), none] Γ
  delta u_closed
  refine closed_loop hb hx st rs d n none Γ sk hl (fun e h Γ' δ ot => he e h Γ' ot) fun z n' st' h Γ' rs' sk' hs ot => ?_
  have := ho z n' st' h Γ' rs' sk' hs ot
  cases z with
  | none => exact this
  | some z => exact fun t4 => ⟨sz1000 (by show 2 ≤ 1000; decide), this⟩
/-! ### how far, how great -/
theorem lf_ok {ts : T} {n n1 : Nat} {d : D} (h : lf ts n = .ok (d, n1)) (hn : n ≤ ts.length) : n ≤ n1 ∧ n1 ≤ ts.length ∧ ((∃ a b, d = .str (piece ts a b)) ∨ ∃ a b, d = .tup [.str (piece ts a b)]) := by
  have h0 := blk_len hn
  unfold lf at h
  by_cases c : ts[blk ts n]? = some 63
  · rw [if_pos c] at h
    have c' := (List.getElem?_eq_some_iff.mp c).1
    split at h
    · cases h
    · cases h
      refine ⟨?_, blk_len (en_len (by omega)), .inl ⟨_, _, rfl⟩⟩
      have := blk_le (ts := ts) (n := n)
      have := blk_le (ts := ts) (n := en 4 ts (blk ts n + 1))
      have : blk ts n + 1 ≤ en 4 ts (blk ts n + 1) := Nat.le_add_right _ _
      omega
  · rw [if_neg c] at h
    split at h
    · cases h
    · cases h
      refine ⟨?_, blk_len (en_len h0), .inr ⟨_, _, rfl⟩⟩
      have := blk_le (ts := ts) (n := n)
      have := blk_le (ts := ts) (n := en 8 ts (blk ts n))
      have : blk ts n ≤ en 8 ts (blk ts n) := Nat.le_add_right _ _
      omega
theorem many {P : Nat → D → Prop} (up : ∀ m m' d, P m d → m ≤ m' → P m' d) : ∀ l : List D, (∀ y, y ∈ l → ∃ m, P m y) → ∃ m, ∀ y, y ∈ l → P m y
  | [], _ => ⟨0, fun _ h => by cases h⟩
  | y :: l, h => by
    obtain ⟨m, hm⟩ := h y List.mem_cons_self
    obtain ⟨k, hk⟩ := many up l fun z hz => h z (List.mem_cons_of_mem _ hz)
    refine ⟨max m k, fun z hz => ?_⟩
    rcases List.mem_cons.mp hz with rfl | hz
    · exact up _ _ _ hm (Nat.le_max_left _ _)
    · exact up _ _ _ (hk z hz) (Nat.le_max_right _ _)
def sot : D → Bool
  | .str _ => true
  | .tup _ => true
  | _ => false
def Fi (d : D) : Prop := (∃ m, fit m d) ∧ sot d = true
theorem Fi.tup {l : List D} (hl : l.length ≤ 1000) (h : ∀ y, y ∈ l → Fi y) : Fi (.tup l) := by
  obtain ⟨m, hm⟩ := many (P := fit) (fun m m' d h g => h.le g) l fun y hy => (h y hy).1
  exact ⟨⟨m + 1, hl, hm⟩, rfl⟩
theorem Fi.rs {d : D} (h : Fi d) (Γ : Sto) : AL.rs Γ d = d := by
  have := h.2
  cases d <;> first | rfl | cases this
theorem Fi.non {d : D} (h : Fi d) : AL.isNon d = false := by
  have := h.2
  cases d <;> first | rfl | cases this
theorem Fi.short {d : D} (h : Fi d) : short d := h.1.choose_spec.short
/-- the open ones are short and fit -/
def Gs (st : List (List D)) : Prop := ∀ l, l ∈ st → l.length ≤ 3 ∧ ∀ y, y ∈ l → Fi y
theorem cl_ok {ts : T} : ∀ {st : List (List D)} {d : D} {n : Nat} {z : Option D} {n' : Nat} {st' : List (List D)}, cl ts st d n = .ok (z, n', st') → Gs st → Fi d → n ≤ ts.length → n ≤ n' ∧ n' ≤ ts.length ∧ st'.length ≤ st.length ∧ Gs st' ∧ (∀ w, z = some w → Fi w) ∧ (z = none → n + 1 ≤ n')
  | [], d, n, z, n', st', h, hs, hd, hn => by
    unfold cl at h
    cases h
    exact ⟨Nat.le_refl _, hn, Nat.le_refl _, hs, fun w e => by cases e; exact hd, fun e => by cases e⟩
  | l :: st, d, n, z, n', st', h, hs, hd, hn => by
    have hl := hs l List.mem_cons_self
    have hfi : ∀ y, y ∈ l ++ [d] → Fi y := fun y hy => by
      rcases List.mem_append.mp hy with q | q
      · exact hl.2 y q
      · rw [List.mem_singleton.mp q]; exact hd
    have hs' : Gs st := fun l' h' => hs l' (List.mem_cons_of_mem _ h')
    unfold cl at h
    by_cases c : ts[n]? = some 44 ∧ l.length + 1 ≤ 3
    · rw [if_pos c] at h
      cases h
      have := (List.getElem?_eq_some_iff.mp c.1).1
      refine ⟨by omega, by omega, Nat.le_refl _, fun l' h' => ?_, fun w e => (nomatch e), fun _ => Nat.le_refl _⟩
      rcases List.mem_cons.mp h' with rfl | h'
      · exact ⟨by rw [List.length_append]; exact c.2, hfi⟩
      · exact hs' l' h'
    · rw [if_neg c] at h
      by_cases c2 : ts[n]? = some 41
      · rw [if_pos c2] at h
        have := (List.getElem?_eq_some_iff.mp c2).1
        obtain ⟨r1, r2, r3, r4, r5, r6⟩ := cl_ok h hs' (Fi.tup (by rw [List.length_append]; simp; omega) hfi) (blk_len (by omega))
        have := blk_le (ts := ts) (n := n + 1)
        exact ⟨by omega, r2, by simp; omega, r4, r5, fun _ => by omega⟩
      · rw [if_neg c2] at h
        cases h
end Rd

set_option Elab.async false
set_option linter.all false
set_option maxRecDepth 100000
set_option maxHeartbeats 4000000
namespace Rd
open PySem L2 DL AL LM Ma LMs
variable [Wd]
local macro_rules | `(tactic| walk_at "al") => `(tactic| dsimp only [aSeq, aIfS, aRet, aRetN, aNext, aDrop, aAsg, aTest, aNot, aAnd, aOr, aYes, aOp, aUn, aC, aVar, aCB, aCons, aNil, aTup, aLst, aChain, aAndV, aOrV, aNotV, aIf, aSl, aPart, aNoPart, aCall, aCallK, aStar, aPar, aPar3, aAug, aFor, aRng, aSeqI, aLc, aListO, aRel, aLstO, aRaise0, aRaise1, aIsi, agN, agT, agCons, agNil, itemsOf, wipeD, List.map, List.set, List.getElem?_cons_zero, List.getElem?_cons_succ, List.append, List.length, oCmp, oInt, onB, by2, oIxB, oIx, oEqB, oEq, oNeB, oNe, oNeE, oIsN, AL.isNon, oAdd, cLen, oSl, oLtB, oTup, oNeg, aFree, aWhile, aWh])
variable {K : PySem.W.Frag} {cs : Cs}
theorem isi_var {δ : DL.Env} {Γ : Sto} {i : Nat} {d : D} {n : String} {b : Bool} {P : Bool → Sto → Prop} {X : QX} (h : δ[i]? = some (some d)) (hs : short d) (e : isTyD n d = some b) (q : P b Γ) : aTest (aIsi K (aVar i) (aC (.ty n))) δ Γ P X := by
  unfold aTest aIsi
  refine v_at h ?_
  dsimp only [aC]
  exact isi_at (Γ := Γ) hs e q
theorem piece_fi {x : Str} (hx : x.length < sizeLine) (ho : PyData.strOk x = true) (a b : Nat) : Fi (.str (piece x.cps.toList a b)) := by
  refine ⟨⟨0, ?_⟩, rfl⟩
  rw [← cut_ab]
  exact ⟨Nat.lt_of_le_of_lt (cutS_length x _ _) hx, cutS_ok ho⟩
theorem lf_fi {x : Str} (hx : x.length < sizeLine) (ho : PyData.strOk x = true) {n n1 : Nat} {d : D} (h : lf x.cps.toList n = .ok (d, n1)) (hn : n ≤ x.cps.toList.length) : Fi d ∧ ∀ xs, opens d = some xs → xs.length = 1 ∧ ∀ y, y ∈ xs → Fi y := by
  obtain ⟨_, _, ⟨a, b, rfl⟩ | ⟨a, b, rfl⟩⟩ := lf_ok h hn
  · exact ⟨piece_fi hx ho a b, fun xs e => (nomatch e)⟩
  · refine ⟨Fi.tup (by simp) fun y hy => ?_, fun xs e => ?_⟩
    · rw [List.mem_singleton.mp hy]; exact piece_fi hx ho a b
    · cases e
      exact ⟨rfl, fun y hy => by rw [List.mem_singleton.mp hy]; exact piece_fi hx ho a b⟩
abbrev er (x : Str) (p : Addr) (f : D) (n : Nat) (t4 : Option D) : DL.Env := [some (.str x), some (.ref p), some f, some (.int (n : Int)), t4]
abbrev wtest : AT := aTest (aOp oIsN (aVar 2) (aC .non))
abbrev wbody (K : PySem.W.Frag) (Fl Fc : AF) : AS := aSeq (aAsg (aCall Fl (aCons (aVar 0) (aCons (aVar 3) aNil))) (agT 2 (agCons (agN 4) (agCons (agN 3) agNil))))
    (aIfS (aAnd (aTest (aIsi K (aVar 4) (aC (.ty "tuple")))) (aTest (aOp oEqB (aSl oSl (aVar 0) (aPart (aVar 3)) (aPart (aOp oAdd (aVar 3) (aC (.int 1))))) (aC (.str "("))))) (aSeq (aDrop (aMu mAppend (aVar 1) (aCons (aListO (aVar 4)) aNil)))
    (aAug 3 (aC (.int 1)))) (aAsg (aCall Fc (aCons (aVar 0) (aCons (aVar 3) (aCons (aVar 4) (aCons (aVar 1) aNil))))) (agT 2 (agCons (agN 2) (agCons (agN 3) agNil)))))
theorem read_loop {Fl Fc : AF} (hl : Slf cs Fl) (hc : Scl cs Fc) {x : Str} (hx : x.length < sizeLine) (ho : PyData.strOk x = true) {p : Addr} {Po : AEnds} : ∀ (f : Nat) (st : List (List D)) (rs : List Addr) (n : Nat) (t4 : Option D) (Γ : Sto), x.cps.toList.length < n + f → n ≤ x.cps.toList.length → st.length ≤ n → Sk Γ p rs st → Gs st →
    (∀ e, rd x.cps.toList f st n = .error e → ∀ Γ' δ, Ot (p :: rs) Γ Γ' → Po.ex (.exc1 cs.NoText "at" (.int (e : Int))) δ Γ') →
    (∀ d n', rd x.cps.toList f st n = .ok (d, n') → Fi d → n' ≤ x.cps.toList.length → ∀ Γ' t4, Ot (p :: rs) Γ Γ' → Po.nx (er x p d n' t4) Γ') →
    aWh wtest (wbody K Fl Fc) Po (f + 1) (er x p .non n t4) Γ
  | 0, st, rs, n, t4, Γ, hf, hn, _, _, _, _, _ => absurd hf (by omega)
  | f + 1, st, rs, n, t4, Γ, hf, hn, hsn, sk, gs, he, hk => by
    have hxl : x.length ≤ sizeLine := Nat.le_of_lt hx
    have hL := hl x n hxl
    unfold rd at he hk
    cases hlf : lf x.cps.toList n with
    | error e =>
      rw [hlf] at he
      refine ⟨fun _ => ?_, tf⟩
      exact hL.2 e hlf Γ _ _ (he e rfl Γ _ Ot.refl)
    | ok v =>
      obtain ⟨d, n1⟩ := v
      rw [hlf] at he hk
      obtain ⟨b1, b2, _⟩ := lf_ok hlf hn
      obtain ⟨fd, fo⟩ := lf_fi hx ho hlf hn
      dsimp only at he hk
      refine ⟨fun _ => ?_, tf⟩
      refine hL.1 d n1 hlf Γ _ _ ⟨rfl, rfl, ?_⟩
      have fin : ∀ {Γ' : Sto} {t4 : Option D} {z : D} {n' : Nat}, Fi z → Po.nx (er x p z n' t4) Γ' → aWh wtest (wbody K Fl Fc) Po (f + 1) (er x p z n' t4) Γ' := fun {Γ' t4 z n'} fz h => by
        have e1 : AL.isNon (AL.rs Γ' z) = false := by rw [fz.rs]; exact fz.non
        show (AL.isNon (AL.rs Γ' z) = true → _) ∧ (AL.isNon (AL.rs Γ' z) = false → _)
        rw [e1]
        exact ⟨ft, fun _ => h⟩
      -- put into the open ones
      have shut : (if x.cps.toList[n1]? = some 40 then opens d else none) = none → Fc [.str x, .int (n1 : Int), d, .ref p] Γ (fun v Γ1 => agT 2 (agCons (agN 2) (agCons (agN 3) agNil)) v [some (.str x), some (.ref p), some .non, some (.int (n1 : Int)), some d] fun δ' => aWh wtest (wbody K Fl Fc) Po (f + 1) δ' Γ1) fun y Γ' => Po.ex y [some (.str x), some (.ref p), some .non, some (.int (n1 : Int)), some d] Γ' := fun hno => by
        rw [hno] at he hk
        dsimp only at he hk
        refine hc x n1 d p rs st Γ _ _ hxl sk (fun l h => Nat.lt_of_le_of_lt (gs l h).1 (by decide)) (fun e h Γ' ot => ?_) fun z n2 st' h Γ' rs' sk' hs ot => ?_
        · rw [h] at he
          exact he e rfl Γ' _ ot
        · obtain ⟨r1, r2, r3, r4, r5, r6⟩ := cl_ok h gs fd b2
          rw [h] at he hk
          refine ⟨rfl, rfl, ?_⟩
          cases z with
          | some z => exact fin (r5 z rfl) (hk z n2 rfl (r5 z rfl) r2 Γ' _ ot)
          | none =>
            have r6' := r6 rfl
            refine read_loop hl hc hx ho f st' rs' n2 _ Γ' (by omega) r2 (by omega) sk' r4 (fun e h' Γ2 δ o2 => he e h' Γ2 δ (ot.trans o2 fun b hb => .inl ?_)) fun d' n' h' fd' hn' Γ2 t4 o2 => hk d' n' h' fd' hn' Γ2 t4 (ot.trans o2 fun b hb => .inl ?_)
            all_goals
              rcases List.mem_cons.mp hb with q | q
              · rw [q]; exact List.mem_cons_self
              · exact List.mem_cons_of_mem _ (hs b q)
      have ei : ((n1 : Int) + 1) = ((n1 + 1 : Nat) : Int) := by omega
      show aIfS (aAnd (aTest (aIsi K (aVar 4) (aC (.ty "tuple")))) _) _ _ _ [some (.str x), some (.ref p), some .non, some (.int (n1 : Int)), some d] Γ
      unfold aIfS aAnd
      refine isi_var rfl fd.short (isTy_tup fd.short) ?_
      cases hd : isTup d with
      | false =>
        refine ⟨ft, fun _ => ⟨ft, fun _ => shut ?_⟩⟩
        have : opens d = none := by cases d <;> first | rfl | cases hd
        rw [this]
        split <;> rfl
      | true =>
        obtain ⟨xs, rfl⟩ : ∃ xs, d = .tup xs := by cases d <;> first | exact ⟨_, rfl⟩ | cases hd
        refine ⟨fun _ => ⟨hxl, ?_⟩, tf⟩
        show (decide (cutS x (some (n1 : Int)) (some ((n1 : Int) + 1)) = ("(" : Str)) = true → _) ∧ (decide (cutS x (some (n1 : Int)) (some ((n1 : Int) + 1)) = ("(" : Str)) = false → _)
        rw [op, cut_is]
        by_cases c : x.cps.toList[n1]? = some 40
        · rw [decide_eq_true c]
          refine ⟨fun _ => ?_, tf⟩
          rw [if_pos c] at he hk
          obtain ⟨fx1, fx2⟩ := fo xs rfl
          have hn1 := (List.getElem?_eq_some_iff.mp c).1
          have hrl := sk.each.len
          have hll : x.cps.toList.length = x.length := Array.length_toList
          show aMu mAppend (aVar 1) (aCons (aListO (aVar 4)) aNil) [some (.str x), some (.ref p), some .non, some (.int (n1 : Int)), some (.tup xs)] Γ _ _
          unfold aMu
          refine v_at rfl (onL_ref sk.top ?_)
          intro p2 hp2
          have np : p2 ≠ p := fun z => by
            rw [z, sk.top] at hp2
            cases hp2
          have nr : p2 ∉ rs := fun z => sk.each.some p2 z hp2
          have top1 : upS Γ p2 (.lst xs) p = some (.lst (rs.reverse.map D.ref)) := by rw [upS_ne (fun z => np z.symm)]; exact sk.top
          dsimp only [aNil]
          refine onL_ref top1 ?_
          refine ⟨?_, ?_⟩
          · rw [List.length_map, List.length_reverse, hrl]
            omega
          · have sk2 : Sk (upS (upS Γ p2 (.lst xs)) p (.lst (rs.reverse.map D.ref ++ [D.ref p2]))) p (p2 :: rs) (xs :: st) := by
              refine ⟨by rw [upS_same]; simp, .cons (by rw [upS_ne np, upS_same]) ((sk.each.up nr).up (List.nodup_cons.mp sk.nd).1), ?_⟩
              have h1 := List.nodup_cons.mp sk.nd
              exact List.nodup_cons.mpr ⟨fun z => by
                rcases List.mem_cons.mp z with q | q
                · exact np q.symm
                · exact h1.1 q, List.nodup_cons.mpr ⟨nr, h1.2⟩⟩
            have ot2 : ∀ {Γ'}, Ot (p :: p2 :: rs) (upS (upS Γ p2 (.lst xs)) p (.lst (rs.reverse.map D.ref ++ [D.ref p2]))) Γ' → Ot (p :: rs) Γ Γ' := fun {Γ'} h =>
              Ot.trans (own' := p :: p2 :: rs) (Ot.trans (own' := [p]) (Ot.up (.inr hp2)) (Ot.up (.inl (by simp))) fun b hb => .inl (by rw [List.mem_singleton.mp hb]; exact List.mem_cons_self)) h fun b hb => by
                rcases List.mem_cons.mp hb with q | q
                · rw [q]; exact .inl List.mem_cons_self
                · rcases List.mem_cons.mp q with q | q
                  · rw [q]; exact .inr hp2
                  · exact .inl (List.mem_cons_of_mem _ q)
            show aWh wtest (wbody K Fl Fc) Po (f + 1) [some (.str x), some (.ref p), some .non, some (.int ((n1 : Int) + 1)), some (.tup xs)] _
            rw [ei]
            refine read_loop hl hc hx ho f (xs :: st) (p2 :: rs) (n1 + 1) _ _ (by omega) (by omega) (by simp; omega) sk2 (fun l h => ?_) (fun e h Γ' δ ot => he e h Γ' δ (ot2 ot)) fun d' n' h fd' hn' Γ' t4 ot => hk d' n' h fd' hn' Γ' t4 (ot2 ot)
            rcases List.mem_cons.mp h with q | q
            · rw [q]; exact ⟨by omega, fx2⟩
            · exact gs l q
        · rw [decide_eq_false c]
          exact ⟨ft, fun _ => shut (by rw [if_neg c])⟩
def Srd (cs : Cs) (F : AF) : Prop := (∀ (x : Str) (Γ : Sto) (P : D → Sto → Prop) (X : D → Sto → Prop), x.length < sizeLine → PyData.strOk x = true → (∀ d, read x.cps.toList = .ok d → Fi d → ∀ Γ', Ot [] Γ Γ' → P d Γ') → (∀ e, read x.cps.toList = .error e → ∀ Γ', Ot [] Γ Γ' → X (.exc1 cs.NoText "at" (.int (e : Int))) Γ') → F [.str x] Γ P X) ∧
  ∀ d, short d → isStr d = false → Er F [d] (.exc1 cs.NoText "at" (.int 0))
theorem s_read {Fl Fc Fp : AF} (hl : Slf cs Fl) (hc : Scl cs Fc) (hp : Sisp Fp) : Srd cs (afn ["text", "open_ones", "found", "at", "leaf"] ["text"] (u_read_pattern K cs Fl Fc Fp)) := by
  refine ⟨fun x Γ P X hx ho hP hX => ⟨rfl, ?_⟩, fun d hs hd Γ P X hX => ⟨rfl, ?_⟩⟩
  · show u_read_pattern K cs Fl Fc Fp _ [some (.str x), none, none, none, none] Γ
    have hs : short (.str x) := ⟨hx, ho⟩
    have hxl : x.length ≤ sizeLine := Nat.le_of_lt hx
    have hll : x.cps.toList.length = x.length := Array.length_toList
    delta u_read_pattern
    show aIfS (aNot (aTest (aIsi K (aVar 0) (aC (.ty "str"))))) _ _ _ [some (.str x), none, none, none, none] Γ
    unfold aIfS aNot
    refine isi_var rfl hs (isTy_str hs) ⟨ft, fun _ => ?_⟩
    refine ⟨sz1000 (by decide), fun p hp0 => ?_⟩
    have sk0 : Sk (upS Γ p (.lst [])) p [] [] := ⟨upS_same, .nil, by simp⟩
    have ot0 : ∀ {Γ'}, Ot [p] (upS Γ p (.lst [])) Γ' → Ot [] Γ Γ' := fun {Γ'} h => Ot.trans (own' := [p]) (Ot.up (.inr hp0)) h fun b hb => .inr (by rw [List.mem_singleton.mp hb]; exact hp0)
    refine ⟨_, read_loop (K := K) hl hc hx ho (x.cps.toList.length + 1) [] [] 0 none _ (by omega) (Nat.zero_le _) (Nat.le_refl _) sk0 (fun l h => by cases h) (fun e h Γ' δ ot => ?_) fun d n' h fd hn' Γ' t4 ot => ?_⟩
    · refine hX e ?_ Γ' (ot0 ot)
      unfold read
      rw [h]
    · have er : read x.cps.toList = if n' < x.cps.toList.length then .error n' else if isPat d = true then .ok d else .error x.cps.toList.length := by
        unfold read
        rw [h]
      refine ⟨hxl, fun z => ?_, fun z => ?_⟩
      · have z' := of_decide_eq_true z
        rw [if_pos (by omega)] at er
        exact hX n' er Γ' (ot0 ot)
      · have z' := of_decide_eq_false z
        rw [if_neg (by omega)] at er
        obtain ⟨m, hm⟩ := fd.1
        refine hp d m hm Γ' _ _ ?_
        cases hi : isPat d with
        | true =>
          rw [hi, if_pos rfl] at er
          exact ⟨ft, fun _ => hP d er fd Γ' (ot0 ot)⟩
        | false =>
          rw [hi, if_neg (fun z => nomatch z)] at er
          refine ⟨fun _ => ⟨hxl, ?_⟩, tf⟩
          have := hX _ er Γ' (ot0 ot)
          rw [hll] at this
          exact this
  · show u_read_pattern K cs Fl Fc Fp _ [some d, none, none, none, none] Γ
    delta u_read_pattern
    show aIfS (aNot (aTest (aIsi K (aVar 0) (aC (.ty "str"))))) _ _ _ [some d, none, none, none, none] Γ
    unfold aIfS aNot
    refine isi_var rfl hs (isTy_str hs) ?_
    rw [hd]
    exact ⟨fun _ => hX, tf⟩
end Rd

set_option Elab.async false
set_option linter.all false
set_option maxRecDepth 100000
set_option maxHeartbeats 4000000
/-! Texts of patterns are read back. -/
namespace Rd
open PySem L2 DL AL LM Ma LMs
variable [Wd]
abbrev bl (n : Nat) : T := List.replicate n 32
/-- a word of at most m letters -/
structure Wo (m : Nat) (w : T) : Prop where
  all : ∀ c, c ∈ w → isLet c = true
  pos : 1 ≤ w.length
  le : w.length ≤ m
mutual
inductive Lt : D → T → Prop
  | hole {w : T} : Wo 4 w → Lt (.str ⟨(63 :: w).toArray⟩) (63 :: w)
  | name {w : T} : Wo 8 w → Lt (.tup [.str ⟨w.toArray⟩]) w
  | comp {w v : T} {ps : List D} {j : Nat} : Wo 8 w → ps.length ≤ 3 → Lts ps v → Lt (.tup (.str ⟨w.toArray⟩ :: ps)) (w ++ (bl j ++ 40 :: v))
inductive Lts : List D → T → Prop
  | one {d : D} {u : T} {i j : Nat} : Lt d u → Lts [d] (bl j ++ (u ++ (bl i ++ [41])))
  | cons {d : D} {u v : T} {ds : List D} {i j : Nat} : Lt d u → Lts ds v → Lts (d :: ds) (bl j ++ (u ++ (bl i ++ 44 :: v)))
end
def after (ts : T) (f : Nat) (st : List (List D)) (d : D) (n : Nat) : Except Nat (D × Nat) := match cl ts st d n with
  | .error e => .error e
  | .ok (some z, n2, _) => .ok (z, n2)
  | .ok (none, n2, st') => rd ts f st' n2
/-! ### positions -/
theorem at_drop {ts : T} {n c : Nat} {r : T} (h : ts.drop n = c :: r) : ts[n]? = some c ∧ ts.drop (n + 1) = r := by
  have hn : n < ts.length := by
    rcases Nat.lt_or_ge n ts.length with q | q
    · exact q
    · rw [List.drop_of_length_le q] at h; cases h
  rw [List.drop_eq_getElem_cons hn] at h
  cases h
  exact ⟨List.getElem?_eq_getElem hn, rfl⟩
theorem drop_app {ts : T} {n : Nat} {u r : T} (h : ts.drop n = u ++ r) : ts.drop (n + u.length) = r := by
  rw [← List.drop_drop, h, List.drop_left]
theorem head_at {ts : T} {n : Nat} {r : T} (h : ts.drop n = r) : ts[n]? = r.head? := by
  cases r with
  | nil => exact List.getElem?_eq_none_iff.mpr (List.drop_eq_nil_iff.mp h)
  | cons c r => exact (at_drop h).1
theorem blk_at {ts : T} : ∀ {j n : Nat} {r : T}, ts.drop n = bl j ++ r → r.head? ≠ some 32 → blk ts n = n + j
  | 0, n, r, h, hr => by
    rw [blk_eq, if_neg]
    · rfl
    · rw [head_at h]; exact hr
  | j + 1, n, r, h, hr => by
    have h' : ts.drop n = 32 :: (bl j ++ r) := h
    obtain ⟨h1, h2⟩ := at_drop h'
    rw [blk_eq, if_pos h1, blk_at h2 hr]
    omega
theorem nl_word {m : Nat} {w r : T} (hw : ∀ c, c ∈ w → isLet c = true) (hm : w.length ≤ m) (hr : hl r.head? = false) : nl m (w ++ r) = w.length := by
  unfold nl
  rw [List.take_append]
  rw [List.take_of_length_le hm, List.takeWhile_append_of_pos hw, List.length_append]
  have : ((r.take (m - w.length)).takeWhile isLet) = [] := by
    cases r with
    | nil => simp
    | cons c r =>
      cases m - w.length with
      | zero => rfl
      | succ k =>
        have hc : isLet c = false := hr
        rw [List.take_succ_cons, List.takeWhile_cons, hc]
        rfl
  rw [this]
  rfl
theorem word_at {ts : T} {n m : Nat} {w r : T} (h : ts.drop n = w ++ r) (hw : Wo m w) (hr : hl r.head? = false) : bad m ts n = false ∧ en m ts n = n + w.length := by
  have e : nl m (ts.drop n) = w.length := by rw [h]; exact nl_word hw.all hw.le hr
  have hp := hw.pos
  refine ⟨?_, by unfold en; rw [e]⟩
  unfold bad
  rw [e, decide_eq_false (by omega), Bool.false_or]
  by_cases hm : w.length = m
  · have h2 := drop_app h
    rw [hm] at h2
    rw [head_at h2, hr, Bool.and_false]
  · rw [decide_eq_false hm, Bool.false_and]
theorem piece_at {ts : T} {n : Nat} {w r : T} (h : ts.drop n = w ++ r) : piece ts n (n + w.length) = ⟨w.toArray⟩ := by
  unfold piece
  rw [List.drop_take, h, Nat.add_sub_cancel_left, List.take_left]
/-- what may stand behind a text -/
structure Ek (r : T) : Prop where
  b : r.head? ≠ some 32
  l : hl r.head? = false
  p : r.head? ≠ some 40
theorem hl_bl {i : Nat} {r : T} (h : hl r.head? = false) : hl (bl i ++ r).head? = false := by
  cases i with
  | zero => exact h
  | succ i => exact (by decide +kernel : isLet 32 = false)
theorem let_ne {c : Nat} (h : isLet c = true) : c ≠ 32 ∧ c ≠ 63 := by
  refine ⟨fun e => ?_, fun e => ?_⟩
  · rw [e] at h
    exact absurd h (by decide +kernel)
  · rw [e] at h
    exact absurd h (by decide +kernel)
theorem lf_name {ts : T} {n j i : Nat} {w r : T} (h : ts.drop n = bl j ++ (w ++ (bl i ++ r))) (hw : Wo 8 w) (h1 : r.head? ≠ some 32) (h2 : hl r.head? = false) : lf ts n = .ok (.tup [.str ⟨w.toArray⟩], n + (j + (w.length + i))) := by
  obtain ⟨c, w', rfl⟩ : ∃ c w', w = c :: w' := by
    cases w with
    | nil => exact absurd hw.pos (by simp)
    | cons c w' => exact ⟨c, w', rfl⟩
  have hc := let_ne (hw.all c List.mem_cons_self)
  have e1 : blk ts n = n + j := blk_at h (by simpa using hc.1)
  have d1 : ts.drop (n + j) = (c :: w') ++ (bl i ++ r) := by
    have := drop_app h
    rwa [List.length_replicate] at this
  have g1 : ts[n + j]? = some c := by rw [head_at d1]; rfl
  have e2 := word_at d1 hw (hl_bl h2)
  have d2 := drop_app d1
  have e3 : blk ts (n + j + (c :: w').length) = n + j + (c :: w').length + i := blk_at d2 h1
  unfold lf
  rw [e1, g1, if_neg (fun z => hc.2 (Option.some.inj z)), e2.1, if_neg (fun z => nomatch z), e2.2, e3, piece_at d1]
  congr 2
  omega
theorem lf_hole {ts : T} {n j i : Nat} {w r : T} (h : ts.drop n = bl j ++ ((63 :: w) ++ (bl i ++ r))) (hw : Wo 4 w) (h1 : r.head? ≠ some 32) (h2 : hl r.head? = false) : lf ts n = .ok (.str ⟨(63 :: w).toArray⟩, n + (j + ((63 :: w).length + i))) := by
  have e1 : blk ts n = n + j := blk_at h (by simp)
  have d1 : ts.drop (n + j) = (63 :: w) ++ (bl i ++ r) := by
    have := drop_app h
    rwa [List.length_replicate] at this
  obtain ⟨g1, d2⟩ := at_drop (show ts.drop (n + j) = 63 :: (w ++ (bl i ++ r)) from d1)
  have e2 := word_at d2 hw (hl_bl h2)
  have d3 := drop_app d2
  have e3 : blk ts (n + j + 1 + w.length) = n + j + 1 + w.length + i := blk_at d3 h1
  have e4 : n + j + 1 + w.length = n + j + (63 :: w).length := by rw [List.length_cons]; omega
  unfold lf
  rw [e1, g1, if_pos rfl, e2.1, if_neg (fun z => nomatch z), e2.2, e3, e4, piece_at d1]
  congr 2
  omega
theorem Lts.ne : ∀ {ds : List D} {v : T}, Lts ds v → 1 ≤ ds.length
  | _, _, .one _ => by simp
  | _, _, .cons _ _ => by simp
mutual
theorem rdA : ∀ {d : D} {u : T}, Lt d u → ∀ {ts : T} {n j i : Nat} {r : T}, ts.drop n = bl j ++ (u ++ (bl i ++ r)) → Ek r → ∃ c, c ≤ u.length ∧ ∀ f st, rd ts (c + f) st n = after ts f st d (n + (j + (u.length + i)))
  | _, _, .hole hw, ts, n, j, i, r, h, hr => by
    refine ⟨1, by simp, fun f st => ?_⟩
    rw [Nat.add_comm 1 f]
    unfold rd
    rw [lf_hole h hw hr.b hr.l]
    dsimp only [opens]
    rw [ite_self]
    rfl
  | _, u, .name hw, ts, n, j, i, r, h, hr => by
    refine ⟨1, hw.pos, fun f st => ?_⟩
    have d1 : ts.drop (n + (j + (u.length + i))) = r := by
      have e1 := drop_app h
      have e2 := drop_app e1
      have e3 := drop_app e2
      rw [List.length_replicate, List.length_replicate] at e3
      rw [← e3]
      congr 1
      omega
    rw [Nat.add_comm 1 f]
    unfold rd
    rw [lf_name h hw hr.b hr.l]
    dsimp only [opens]
    rw [head_at d1, if_neg hr.p]
    rfl
  | _, _, .comp (w := w) (v := v) (ps := ps) (j := j') hw hl hps, ts, n, j, i, r, h, hr => by
    have h' : ts.drop n = bl j ++ (w ++ (bl j' ++ (40 :: (v ++ (bl i ++ r))))) := by
      rw [h]
      simp
    have hlf := lf_name h' hw (by simp) (show isLet 40 = false by decide +kernel)
    have d1 : ts.drop (n + (j + (w.length + j'))) = 40 :: (v ++ (bl i ++ r)) := by
      have e1 := drop_app h'
      have e2 := drop_app e1
      have e3 := drop_app e2
      rw [List.length_replicate, List.length_replicate] at e3
      rw [← e3]
      congr 1
      omega
    obtain ⟨g1, d2⟩ := at_drop d1
    obtain ⟨c, hc, hrd⟩ := rdB hps (l := [.str ⟨w.toArray⟩]) d2 hr.b (by simp) (by simp; omega)
    refine ⟨c + 1, by simp; omega, fun f st => ?_⟩
    rw [show c + 1 + f = (c + f) + 1 by omega]
    unfold rd
    rw [hlf]
    dsimp only [opens]
    rw [g1, if_pos rfl]
    dsimp only
    rw [hrd f st]
    congr 1
    simp
    omega
theorem rdB : ∀ {ps : List D} {v : T}, Lts ps v → ∀ {ts : T} {n i : Nat} {r : T} {l : List D}, ts.drop n = v ++ (bl i ++ r) → r.head? ≠ some 32 → 1 ≤ l.length → l.length + ps.length ≤ 4 → ∃ c, c ≤ v.length ∧ ∀ f st, rd ts (c + f) (l :: st) n = after ts f st (.tup (l ++ ps)) (n + (v.length + i))
  | _, _, .one (d := d) (u := u) (i := i') (j := j) hd, ts, n, i, r, l, h, hr, h1, h4 => by
    have h' : ts.drop n = bl j ++ (u ++ (bl i' ++ (41 :: (bl i ++ r)))) := by
      rw [h]
      simp
    obtain ⟨c, hc, hrd⟩ := rdA hd h' ⟨by simp, (show isLet 41 = false by decide +kernel), by simp⟩
    have d1 : ts.drop (n + (j + (u.length + i'))) = 41 :: (bl i ++ r) := by
      have e1 := drop_app h'
      have e2 := drop_app e1
      have e3 := drop_app e2
      rw [List.length_replicate, List.length_replicate] at e3
      rw [← e3]
      congr 1
      omega
    obtain ⟨g1, d2⟩ := at_drop d1
    refine ⟨c, by simp; omega, fun f st => ?_⟩
    rw [hrd f (l :: st)]
    unfold after
    have e : cl ts (l :: st) d (n + (j + (u.length + i'))) = cl ts st (.tup (l ++ [d])) (n + ((bl j ++ (u ++ (bl i' ++ [41]))).length + i)) := by
      rw [cl, g1, if_neg (fun z => by have := z.1; simp at this), if_pos rfl, blk_at d2 hr]
      congr 1
      simp
      omega
    rw [e]
  | _, _, .cons (d := d) (u := u) (v := v) (ds := ds) (i := i') (j := j) hd hds, ts, n, i, r, l, h, hr, h1, h4 => by
    have h' : ts.drop n = bl j ++ (u ++ (bl i' ++ (44 :: (v ++ (bl i ++ r))))) := by
      rw [h]
      simp
    obtain ⟨c, hc, hrd⟩ := rdA hd h' ⟨by simp, (show isLet 44 = false by decide +kernel), by simp⟩
    have d1 : ts.drop (n + (j + (u.length + i'))) = 44 :: (v ++ (bl i ++ r)) := by
      have e1 := drop_app h'
      have e2 := drop_app e1
      have e3 := drop_app e2
      rw [List.length_replicate, List.length_replicate] at e3
      rw [← e3]
      congr 1
      omega
    obtain ⟨g1, d2⟩ := at_drop d1
    have hne := hds.ne
    obtain ⟨c', hc', hrd'⟩ := rdB hds (l := l ++ [d]) d2 hr (by simp) (by simp at h4 ⊢; omega)
    refine ⟨c + c', by simp; omega, fun f st => ?_⟩
    rw [Nat.add_assoc, hrd (c' + f) (l :: st)]
    unfold after
    rw [cl, g1, if_pos ⟨rfl, by simp at h4; omega⟩]
    dsimp only
    rw [hrd' f st]
    unfold after
    rw [List.append_assoc]
    have e : n + (j + (u.length + i')) + 1 + (v.length + i) = n + ((bl j ++ (u ++ (bl i' ++ 44 :: v))).length + i) := by
      simp
      omega
    rw [e]
    rfl
end
/-- a text of a pattern, with blanks, is read back -/
theorem read_text {d : D} {u : T} {j i : Nat} (h : Lt d u) (hp : isPat d = true) : read (bl j ++ (u ++ bl i)) = .ok d := by
  obtain ⟨c, hc, hrd⟩ := rdA h (ts := bl j ++ (u ++ bl i)) (n := 0) (j := j) (i := i) (r := []) (by simp) ⟨by simp, rfl, by simp⟩
  have hl : (bl j ++ (u ++ bl i)).length = j + (u.length + i) := by simp
  unfold read
  have e : (bl j ++ (u ++ bl i)).length + 1 = c + ((bl j ++ (u ++ bl i)).length + 1 - c) := by omega
  rw [e, hrd]
  unfold after
  rw [cl]
  dsimp only
  rw [if_neg (by omega), if_pos hp]
end Rd

set_option Elab.async false
set_option linter.all false
set_option maxRecDepth 100000
set_option maxHeartbeats 4000000
/-! Texts with blanks put in. -/
namespace Rd
open PySem L2 DL AL LM Ma LMs
variable [Wd]
def isSg (c : Nat) : Bool := decide (c = 40 ∨ c = 44 ∨ c = 41)
inductive Ls : T → T → Prop
  | nil : Ls [] []
  | sign {c : Nat} {s t : T} {i j : Nat} : isSg c = true → Ls s t → Ls (c :: s) (bl i ++ c :: (bl j ++ t))
  | other {c : Nat} {s t : T} : isSg c = false → Ls s t → Ls (c :: s) (c :: t)
theorem Ls.same : ∀ s : T, Ls s s
  | [] => .nil
  | c :: s => by
    cases h : isSg c with
    | true => exact .sign (i := 0) (j := 0) h (Ls.same s)
    | false => exact .other h (Ls.same s)
theorem Ls.split : ∀ {a b t : T}, Ls (a ++ b) t → ∃ t1 t2, t = t1 ++ t2 ∧ Ls a t1 ∧ Ls b t2
  | [], b, t, h => ⟨[], t, rfl, .nil, h⟩
  | c :: a, b, _, .sign (i := i) (j := j) hc h => by
    obtain ⟨t1, t2, rfl, h1, h2⟩ := Ls.split h
    exact ⟨bl i ++ c :: (bl j ++ t1), t2, by simp, .sign hc h1, h2⟩
  | c :: a, b, _, .other hc h => by
    obtain ⟨t1, t2, rfl, h1, h2⟩ := Ls.split h
    exact ⟨c :: t1, t2, rfl, .other hc h1, h2⟩
theorem Ls.word : ∀ {w t : T}, (∀ c, c ∈ w → isSg c = false) → Ls w t → t = w
  | [], _, _, .nil => rfl
  | c :: w, _, hw, .sign hc h => by
    rw [hw c List.mem_cons_self] at hc
    cases hc
  | c :: w, _, hw, .other hc h => by rw [Ls.word (fun c' h' => hw c' (List.mem_cons_of_mem _ h')) h]
theorem Ls.one {c : Nat} {t : T} (hc : isSg c = true) (h : Ls [c] t) : ∃ i j, t = bl i ++ c :: bl j := by
  cases h with
  | @sign _ _ _ i j _ h' =>
    cases h'
    exact ⟨i, j, by simp⟩
  | other h1 _ => rw [hc] at h1; cases h1
theorem let_sg {c : Nat} (h : isLet c = true) : isSg c = false := by
  unfold isSg
  rw [decide_eq_false]
  rintro (e | e | e) <;> rw [e] at h <;> exact absurd h (by decide +kernel)
theorem bl_bl (i j : Nat) : bl i ++ bl j = bl (i + j) := by simp
theorem wo_of {x : Str} {m : Nat} (h : lettersL x m = true) : Wo m x.cps.toList := by
  rw [lettersL_eq] at h
  obtain ⟨h1, h2, h3⟩ := of_lettersOk h
  exact ⟨h3, by rw [Array.length_toList]; exact h1, by rw [Array.length_toList]; have : (x.length : Int) ≤ m := h2; show x.length ≤ m; omega⟩
theorem wo_hole {x : Str} (h : isHole (.str x) = true) : ∃ w, x = ⟨(63 :: w).toArray⟩ ∧ Wo 4 w := by
  have h' : (decide (cutS x none (some 1) = "?") && lettersOk (cutS x (some 1) none) 4) = true := h
  simp only [Bool.and_eq_true, decide_eq_true_eq] at h'
  obtain ⟨h1, h2⟩ := h'
  cases e : x.cps.toList with
  | nil =>
    have : x = ⟨#[]⟩ := by
      have : x.cps = #[] := by simpa using e
      cases x
      rw [← this]
    rw [this] at h2
    exact absurd h2 (by decide +kernel)
  | cons c w =>
    rw [cut_tail e] at h2
    rw [cut_head e, qm] at h1
    have hc : c = 63 := by simpa using congrArg Str.cps h1
    obtain ⟨g1, g2, g3⟩ := of_lettersOk h2
    refine ⟨w, ?_, ⟨fun c hc => g3 c (by simpa using hc), by simpa [Str.length] using g1, by have : ((⟨w.toArray⟩ : Str).length : Int) ≤ 4 := g2; simp [Str.length] at this; omega⟩⟩
    rw [← hc, ← e]
mutual
theorem ls_txt : ∀ {k : Nat} {d : D} {t : T}, shp true k d = true → Ls (txt k d).cps.toList t → ∃ u j, t = u ++ bl j ∧ Lt d u
  | k, d, t, h, hl => by
    rcases LMs.shp.cases h with ⟨x, rfl, _, hx⟩ | ⟨m, w, ps, rfl, rfl, hw, hlen, hps⟩
    · obtain ⟨w, rfl, ho⟩ := wo_hole hx
      rw [txt_str] at hl
      have := hl.word (fun c hc => by
        have hc' : c ∈ 63 :: w := by simpa using hc
        rcases List.mem_cons.mp hc' with q | q
        · rw [q]; decide
        · exact let_sg (ho.all c q))
      exact ⟨63 :: w, 0, by rw [this]; simp, .hole ho⟩
    · have wo : Wo 8 w.cps.toList := wo_of hw
      have ew : w = ⟨w.cps.toList.toArray⟩ := by cases w; simp
      cases ps with
      | nil =>
        have hl' : Ls w.cps.toList t := hl
        have := hl'.word fun c hc => let_sg (wo.all c hc)
        refine ⟨w.cps.toList, 0, by rw [this]; simp, ?_⟩
        have := Lt.name wo
        rwa [← ew] at this
      | cons p ps =>
        rw [txt_cons, app_toList, app_toList, app_toList, join_list, List.map_map] at hl
        have e40 : ("(" : Str).cps.toList = [40] := by decide +kernel
        have e41 : (")" : Str).cps.toList = [41] := by decide +kernel
        have e44 : ("," : Str).cps.toList = [44] := by decide +kernel
        rw [e40, e41, e44] at hl
        obtain ⟨t1, t4, rfl, h1, h4⟩ := hl.split
        obtain ⟨t2, t3, rfl, h2, h3⟩ := h1.split
        obtain ⟨t5, t6, rfl, h5, h6⟩ := h2.split
        have e5 := h5.word fun c hc => let_sg (wo.all c hc)
        obtain ⟨i, j0, e6⟩ := h6.one (by decide)
        obtain ⟨i1, j1, e4⟩ := h4.one (by decide)
        have := ls_txts (p :: ps) (by simp) hps h3 i1 j0
        have lt := Lt.comp (j := i) wo hlen this
        rw [← ew] at lt
        refine ⟨_, j1, ?_, lt⟩
        rw [e4, e5, e6]
        simp
theorem ls_txts : ∀ {m : Nat} {t : T} (ps : List D), ps ≠ [] → (∀ p, p ∈ ps → shp true m p = true) → Ls (TL.joinL [44] (ps.map ((fun p => p.cps.toList) ∘ txt m))) t → ∀ i1 j0, Lts ps (bl j0 ++ (t ++ (bl i1 ++ [41])))
  | m, t, [], hne, _, _, _, _ => absurd rfl hne
  | m, t, [p], _, h, hl, i1, j0 => by
    have hl' : Ls (txt m p).cps.toList t := hl
    obtain ⟨u, j, rfl, hu⟩ := ls_txt (h p List.mem_cons_self) hl'
    have := Lts.one (i := j + i1) (j := j0) hu
    rw [← bl_bl] at this
    simp only [List.append_assoc, List.cons_append] at this ⊢
    exact this
  | m, t, p :: q :: r, _, h, hl, i1, j0 => by
    have hl' : Ls ((txt m p).cps.toList ++ ([44] ++ TL.joinL [44] ((q :: r).map ((fun p => p.cps.toList) ∘ txt m)))) t := hl
    obtain ⟨t1, t2, rfl, h1, h2⟩ := hl'.split
    obtain ⟨t3, t4, rfl, h3, h4⟩ := h2.split
    obtain ⟨u, j, rfl, hu⟩ := ls_txt (h p List.mem_cons_self) h1
    obtain ⟨a, b, rfl⟩ := h3.one (by decide)
    have ih := ls_txts (q :: r) (by simp) (fun z hz => h z (List.mem_cons_of_mem _ hz)) h4 i1 b
    have := Lts.cons (i := j + a) (j := j0) hu ih
    rw [← bl_bl] at this
    simp only [List.append_assoc, List.cons_append] at this ⊢
    exact this
end
/-- what is written is read back, with blanks put in or not -/
theorem read_loose {k : Nat} {d : D} {t : T} {a b : Nat} (hs : shp true k d = true) (hp : isPat d = true) (hl : Ls (txt k d).cps.toList t) : read (bl a ++ (t ++ bl b)) = .ok d := by
  obtain ⟨u, j, rfl, hu⟩ := ls_txt hs hl
  have := read_text (j := a) (i := j + b) hu hp
  rw [← bl_bl, ← List.append_assoc u] at this
  exact this
theorem read_plain {k : Nat} {d : D} (hs : shp true k d = true) (hp : isPat d = true) : read (txt k d).cps.toList = .ok d := by
  have := read_loose (a := 0) (b := 0) hs hp (Ls.same _)
  simpa using this
end Rd

set_option Elab.async false
set_option linter.all false
set_option maxRecDepth 100000
set_option maxHeartbeats 4000000
/-! The repr of patterns is short. -/
namespace Rd
open PySem L2 DL AL LM Ma LMs
variable [Wd]
def wB : Nat → Nat
  | 0 => 8
  | n + 1 => 3 * wB n + 12
theorem wB_ge (n : Nat) : 8 ≤ wB n := by cases n <;> simp [wB] <;> omega
structure Rp (B : Nat) (d : D) : Prop where
  w : (toPy d).weight ≤ B
  l : (toPy d).leavesShort 8 = true
  s : (toPy d).showable = true
theorem rp_str {x : Str} {B : Nat} (h : x.length ≤ B) (ho : PyData.strOk x = true) : Rp B (.str x) := by
  refine ⟨by simp only [toPy, PyData.weight]; exact h, ?_, by simp [toPy, PyData.showable]⟩
  simp only [toPy, PyData.leavesShort]
  rw [List.all_eq_true]
  intro c hc
  have := strOk_mem ho c hc
  exact decide_eq_true (Nat.lt_of_lt_of_le this (by decide))
theorem rp_all {B n : Nat} : ∀ ds : List D, ds.length ≤ n → (∀ d, d ∈ ds → Rp B d) → PyData.weightAll (toPys ds) ≤ n * (B + 1) ∧ PyData.leavesShortAll 8 (toPys ds) = true ∧ PyData.showableAll (toPys ds) = true
  | [], _, _ => by simp [toPys, PyData.weightAll, PyData.leavesShortAll, PyData.showableAll]
  | d :: ds, hn, h => by
    obtain ⟨m, rfl⟩ : ∃ m, n = m + 1 := ⟨n - 1, by simp at hn; omega⟩
    obtain ⟨h1, h2, h3⟩ := rp_all (n := m) ds (by simpa using hn) fun e he => h e (List.mem_cons_of_mem _ he)
    have hd := h d List.mem_cons_self
    refine ⟨?_, by simp [toPys, PyData.leavesShortAll, hd.l, h2], by simp [toPys, PyData.showableAll, hd.s, h3]⟩
    have hw := hd.w
    simp only [toPys, PyData.weightAll]
    rw [Nat.add_mul, Nat.one_mul]
    omega
theorem rp_wf : ∀ {n : Nat} {d : D}, wf n d → Rp (wB n) d
  | n, d, h => by
    rcases h.cases with ⟨x, rfl, hs, h5, _⟩ | ⟨m, w, ps, rfl, rfl, hw, hl, hps⟩
    · exact rp_str (by have := wB_ge n; omega) hs.2
    · obtain ⟨_, w2, w3⟩ := of_lettersOk hw
      have hwr : Rp 8 (.str w) := rp_str (by omega) (strOk_of fun c hc => isLet_small (w3 c hc))
      obtain ⟨h1, h2, h3⟩ := rp_all (n := 3) ps hl fun p hp => rp_wf (hps p hp)
      have ww := hwr.w
      refine ⟨?_, by simp [toPy, toPys, PyData.leavesShort, PyData.leavesShortAll, h2]; simpa [toPy, PyData.leavesShort] using hwr.l, by simp [toPy, toPys, PyData.showable, PyData.showableAll, h3]⟩
      simp only [toPy, toPys, PyData.weight, PyData.weightAll] at ww ⊢
      show _ ≤ 3 * wB m + 12
      omega
theorem rp_two {n : Nat} {d : D} (h : wf n d) (hn : n ≤ 5) : (toPy (.lst [d, d])).showable = true ∧ (toPy (.lst [d, d])).shown.length ≤ sizeLine := by
  have hd := rp_wf h
  have mono : wB n ≤ 3396 := by
    have : n = 0 ∨ n = 1 ∨ n = 2 ∨ n = 3 ∨ n = 4 ∨ n = 5 := by omega
    rcases this with rfl | rfl | rfl | rfl | rfl | rfl <;> decide
  obtain ⟨h1, h2, h3⟩ := rp_all (n := 2) [d, d] (by simp) fun e he => by
    have : e = d := by simpa using he
    rw [this]; exact hd
  have e := PyData.shown_le 8 (by decide) (toPy (.lst [d, d])) (by simpa [toPy, PyData.leavesShort] using h2)
  refine ⟨by simpa [toPy, PyData.showable] using h3, Nat.le_trans e ?_⟩
  have w : (toPy (.lst [d, d])).weight = PyData.weightAll (toPys [d, d]) := by simp [toPy, PyData.weight]
  rw [w, sizeLine_eq]
  omega
end Rd

set_option Elab.async false
set_option linter.all false
set_option maxRecDepth 100000
set_option maxHeartbeats 4000000
/-! Patterns measured at any fuel; filled patterns: size and depth. -/
namespace Rd
open PySem L2 DL AL LM Ma LMs
variable [Wd]
theorem hole_len {x : Str} (h : isHole (.str x) = true) : x.length ≤ 5 := by
  obtain ⟨w, rfl, hw⟩ := wo_hole h
  have := hw.le
  show (63 :: w).toArray.size ≤ 5
  simp
  omega
theorem meas_wf {b : Bool} : ∀ {k : Nat} {d : D} {n : Nat}, fit n d → meas b k d ≠ 0 → wf k d
  | 0, d, n, hf, h => (h rfl).elim
  | k + 1, d, n, hf, h => by
    cases d with
    | str x =>
      have hh : (b && isHole (.str x)) = true := by
        by_cases q : (b && isHole (.str x)) = true
        · exact q
        · exact absurd (show (if (b && isHole (.str x)) = true then (1 : Int) else 0) = 0 from if_neg q) h
      have hi : isHole (.str x) = true := by
        rw [Bool.and_eq_true] at hh
        exact hh.2
      exact ⟨hf.short, hole_len hi, hi⟩
    | tup xs =>
      cases xs with
      | nil => exact absurd rfl h
      | cons hd ps =>
        cases n with
        | zero => exact hf.elim
        | succ n =>
        have h' : (if (decide (ps.length ≤ 3) && isName hd) = true then (if (ps.map (meas b k)).contains 0 = true then (0 : Int) else 1 + (ps.map (meas b k)).sum) else 0) ≠ 0 := h
        by_cases q : (decide (ps.length ≤ 3) && isName hd) = true
        · rw [if_pos q] at h'
          by_cases q2 : (ps.map (meas b k)).contains 0 = true
          · rw [if_pos q2] at h'
            exact absurd rfl h'
          · rw [Bool.and_eq_true] at q
            cases hd with
            | str w =>
              refine ⟨q.2, of_decide_eq_true q.1, fun p hp => meas_wf (b := b) (hf.2 p (List.mem_cons_of_mem _ hp)) fun e => q2 ?_⟩
              rw [List.contains_iff_mem]
              exact List.mem_map.mpr ⟨p, hp, e⟩
            | _ => exact absurd q.2 (by simp [isName])
        · rw [if_neg q] at h'
          exact absurd rfl h'
    | _ => exact absurd rfl h
theorem isPat_wf {d : D} {n : Nat} (hf : fit n d) (h : isPat d = true) : wf 5 d := meas_wf (b := true) hf fun e => by
  unfold isPat at h
  rw [e] at h
  revert h
  decide
theorem isTrm_wf {d : D} {n : Nat} (hf : fit n d) (h : isTrm d = true) : wf 5 d := meas_wf (b := false) hf fun e => by
  unfold isTrm at h
  rw [e] at h
  revert h
  decide
theorem wf_fit : ∀ {n : Nat} {d : D}, wf n d → fit n d
  | n, d, h => by
    rcases h.cases with ⟨x, rfl, hs, h5, _⟩ | ⟨m, w, ps, rfl, rfl, hw, hl, hps⟩
    · exact fit_str hs
    · refine ⟨by show ps.length + 1 ≤ 1000; omega, fun x hx => ?_⟩
      rcases List.mem_cons.mp hx with rfl | hx
      · exact isWord.fit ⟨w, rfl, hw⟩
      · exact wf_fit (hps x hx)
theorem pat_up : ∀ {n : Nat} {d : D}, pat n d → pat (n + 1) d
  | n, d, h => by
    rcases h.cases with ⟨x, rfl, hs⟩ | ⟨m, hd, ps, rfl, rfl, hl, hp⟩
    · exact hs
    · exact ⟨hl, fun p hp' => pat_up (hp p hp')⟩
theorem pat_le {n m : Nat} {d : D} (h : pat n d) (hm : n ≤ m) : pat m d := by
  induction hm with
  | refl => exact h
  | step _ ih => exact pat_up ih
theorem sz_up : ∀ {n : Nat} {d : D}, pat n d → sz (n + 1) d = sz n d
  | n, d, h => by
    rcases h.cases with ⟨x, rfl, hs⟩ | ⟨m, hd, ps, rfl, rfl, hl, hp⟩
    · rw [sz_str, sz_str]
    · show 1 + (ps.map (sz (m + 1))).sum = 1 + (ps.map (sz m)).sum
      rw [List.map_congr_left fun p hp' => sz_up (hp p hp')]
theorem sz_le {n m : Nat} {d : D} (h : pat n d) (hm : n ≤ m) : sz m d = sz n d := by
  induction hm with
  | refl => rfl
  | step hm ih => rw [sz_up (pat_le h hm), ih]
theorem dp_up : ∀ {n : Nat} {d : D}, pat n d → dp (n + 1) d = dp n d
  | n, d, h => by
    rcases h.cases with ⟨x, rfl, hs⟩ | ⟨m, hd, ps, rfl, rfl, hl, hp⟩
    · rw [dp_str, dp_str]
    · cases ps with
      | nil => rfl
      | cons p ps =>
        show 1 + maxL ((p :: ps).map (dp (m + 1))) = 1 + maxL ((p :: ps).map (dp m))
        rw [List.map_congr_left fun q hq => dp_up (hp q hq)]
theorem dp_le {n m : Nat} {d : D} (h : pat n d) (hm : n ≤ m) : dp m d = dp n d := by
  induction hm with
  | refl => rfl
  | step hm ih => rw [dp_up (pat_le h hm), ih]
theorem hol_up : ∀ {n : Nat} {d : D}, pat n d → hol (n + 1) d = hol n d
  | n, d, h => by
    rcases h.cases with ⟨x, rfl, hs⟩ | ⟨m, hd, ps, rfl, rfl, hl, hp⟩
    · rw [hol_str, hol_str]
    · show (ps.map (hol (m + 1))).flatten = (ps.map (hol m)).flatten
      rw [List.map_congr_left fun p hp' => hol_up (hp p hp')]
theorem hol_le {n m : Nat} {d : D} (h : pat n d) (hm : n ≤ m) : hol m d = hol n d := by
  induction hm with
  | refl => rfl
  | step hm ih => rw [hol_up (pat_le h hm), ih]
/-! ### filled: the size -/
section
variable {kvs : List (D × D)} {q : Nat}
theorem sz_puts {m : Nat} {g : Str → Int} : ∀ ps : List D, (∀ p, p ∈ ps → sz (m + q) (putIn kvs m p) = sz m p + ((hol m p).map g).sum) →
    ((ps.map (putIn kvs m)).map (sz (m + q))).sum = (ps.map (sz m)).sum + (((ps.map (hol m)).flatten).map g).sum
  | [], _ => rfl
  | p :: ps, h => by
    have h1 := h p List.mem_cons_self
    have h2 := sz_puts ps fun x hx => h x (List.mem_cons_of_mem _ hx)
    simp only [List.map_cons, List.sum_cons, List.flatten_cons, List.map_append, List.sum_append]
    rw [h2, h1]
    omega
theorem sz_put : ∀ {n : Nat} {d : D}, pat n d → (∀ x, x ∈ hol n d → pat q (gv kvs x)) → sz (n + q) (putIn kvs n d) = sz n d + ((hol n d).map fun x => sz q (gv kvs x) - 1).sum
  | n, d, h, hq => by
    rcases h.cases with ⟨x, rfl, hs⟩ | ⟨m, hd, ps, rfl, rfl, hl, hp⟩
    · rw [putIn_str, hol_str, sz_str, sz_le (hq x (by rw [hol_str]; simp)) (by omega)]
      simp
      omega
    · have e := sz_puts (kvs := kvs) (q := q) (m := m) (g := fun x => sz q (gv kvs x) - 1) ps fun p hp' => sz_put (hp p hp') fun x hx => hq x (hol_part hp' hx)
      rw [show m + 1 + q = (m + q) + 1 by omega]
      show 1 + ((ps.map (putIn kvs m)).map (sz (m + q))).sum = 1 + (ps.map (sz m)).sum + _
      rw [e]
      show _ = _ + (((ps.map (hol m)).flatten).map _).sum
      omega
end
theorem sum_pick (f : Str → Int) (x : Str) : ∀ ks : List Str, ks.Nodup → x ∈ ks → (ks.map fun k => (if k = x then (1 : Int) else 0) * f k).sum = f x
  | [], _, h => by cases h
  | k :: ks, nd, h => by
    have nd' := List.nodup_cons.mp nd
    have zero : ∀ l : List Str, x ∉ l → (l.map fun k => (if k = x then (1 : Int) else 0) * f k).sum = 0 := by
      intro l
      induction l with
      | nil => intro _; rfl
      | cons y l ih =>
        intro hx
        have h1 : y ≠ x := fun e => hx (by rw [e]; exact List.mem_cons_self)
        rw [List.map_cons, List.sum_cons, ih fun e => hx (List.mem_cons_of_mem _ e), if_neg h1]
        omega
    rw [List.map_cons, List.sum_cons]
    by_cases e : k = x
    · subst e
      rw [zero ks nd'.1, if_pos rfl]
      omega
    · rw [if_neg e, sum_pick f x ks nd'.2 (by rcases List.mem_cons.mp h with q | q; exact absurd q.symm e; exact q)]
      omega
theorem sum_add (f g : Str → Int) : ∀ l : List Str, (l.map fun k => f k + g k).sum = (l.map f).sum + (l.map g).sum
  | [] => rfl
  | x :: l => by
    simp only [List.map_cons, List.sum_cons]
    rw [sum_add f g l]
    omega
theorem sum_count (f : Str → Int) {ks : List Str} (nd : ks.Nodup) : ∀ l : List Str, (∀ x, x ∈ l → x ∈ ks) → (ks.map fun k => ((l.count k : Nat) : Int) * f k).sum = (l.map f).sum
  | [], _ => by
    have : ∀ m : List Str, (m.map fun k => (((([] : List Str)).count k : Nat) : Int) * f k).sum = 0 := by
      intro m
      induction m with
      | nil => rfl
      | cons y m ih =>
        rw [List.map_cons, List.sum_cons, ih]
        simp
    exact this ks
  | x :: l, h => by
    have e : ∀ k, (((x :: l).count k : Nat) : Int) * f k = ((l.count k : Nat) : Int) * f k + (if k = x then (1 : Int) else 0) * f k := fun k => by
      rw [List.count_cons]
      by_cases q : k = x
      · subst q
        simp [Int.add_mul]
      · have : (x == k) = false := by simpa using fun z => q z.symm
        rw [this, if_neg q]
        simp
    rw [show (fun k => (((x :: l).count k : Nat) : Int) * f k) = fun k => ((l.count k : Nat) : Int) * f k + (if k = x then (1 : Int) else 0) * f k from funext e]
    rw [sum_add, sum_count f nd l fun y hy => h y (List.mem_cons_of_mem _ hy), sum_pick f x ks nd (h x List.mem_cons_self), List.map_cons, List.sum_cons]
    omega
theorem fold_nodup : ∀ (l acc : List Str), acc.Nodup → (l.foldl addK acc).Nodup
  | [], acc, h => h
  | x :: l, acc, h => fold_nodup l (addK acc x) (by
    unfold addK
    split
    · exact h
    · rename_i hx
      rw [List.nodup_append]
      refine ⟨h, by simp, fun a ha b hb e => ?_⟩
      rw [List.mem_singleton.mp hb] at e
      exact hx (e ▸ ha))
theorem dd_nodup (l : List Str) : (dd l).Nodup := fold_nodup l [] List.nodup_nil
theorem sum_dd (f : Str → Int) (l : List Str) : ((dd l).map fun k => ((l.count k : Nat) : Int) * f k).sum = (l.map f).sum := sum_count f (dd_nodup l) l fun x hx => mem_dd.mpr hx
/-! ### filled: the depth -/
def lv (x : Str) : Nat → D → Int
  | 0 => fun d => match d with
    | .str y => if y = x then 1 else 0
    | _ => 0
  | n + 1 => fun d => match d with
    | .str y => if y = x then 1 else 0
    | .tup (_ :: ps) => if maxL (0 :: ps.map (lv x n)) = 0 then 0 else maxL (0 :: ps.map (lv x n)) + 1
    | _ => 0
theorem lv_str (n : Nat) (x y : Str) : lv x n (.str y) = if y = x then 1 else 0 := by cases n <;> rfl
theorem lv_tup (n : Nat) (x : Str) (hd : D) (ps : List D) : lv x (n + 1) (.tup (hd :: ps)) = if maxL (0 :: ps.map (lv x n)) = 0 then 0 else maxL (0 :: ps.map (lv x n)) + 1 := rfl
theorem maxL_le {l : List Int} {y : Int} (h : y ∈ l) : y ≤ maxL l := (maxL_mem (List.ne_nil_of_mem h)).2 y h
theorem lv_mem {x : Str} : ∀ {n : Nat} {d : D}, pat n d → 0 ≤ lv x n d ∧ (1 ≤ lv x n d ↔ x ∈ hol n d)
  | n, d, h => by
    rcases h.cases with ⟨y, rfl, hs⟩ | ⟨m, hd, ps, rfl, rfl, hl, hp⟩
    · rw [lv_str, hol_str]
      by_cases e : y = x
      · subst e; simp
      · rw [if_neg e]
        simp
        exact fun z => e z.symm
    · rw [lv_tup]
      have hm := maxL_mem (ns := 0 :: ps.map (lv x m)) (by simp)
      have h0 : 0 ≤ maxL (0 :: ps.map (lv x m)) := maxL_le List.mem_cons_self
      have key : 1 ≤ maxL (0 :: ps.map (lv x m)) ↔ x ∈ hol (m + 1) (.tup (hd :: ps)) := by
        constructor
        · intro h1
          rcases List.mem_cons.mp hm.1 with e | e
          · omega
          · obtain ⟨p, hp', e⟩ := List.mem_map.mp e
            exact hol_part hp' ((lv_mem (hp p hp')).2.mp (by omega))
        · intro h1
          obtain ⟨l, hl', hx⟩ := List.mem_flatten.mp h1
          obtain ⟨p, hp', rfl⟩ := List.mem_map.mp hl'
          have := (lv_mem (hp p hp')).2.mpr hx
          have := maxL_le (l := 0 :: ps.map (lv x m)) (List.mem_cons_of_mem _ (List.mem_map.mpr ⟨p, hp', rfl⟩))
          omega
      rw [← key]
      split <;> omega
theorem lv_part {x : Str} {m : Nat} {hd p : D} {ps : List D} (hp : p ∈ ps) (h1 : 1 ≤ lv x m p) : lv x m p + 1 ≤ lv x (m + 1) (.tup (hd :: ps)) := by
  have := maxL_le (l := 0 :: ps.map (lv x m)) (List.mem_cons_of_mem _ (List.mem_map.mpr ⟨p, hp, rfl⟩))
  rw [lv_tup, if_neg (by omega)]
  omega
theorem dp_part {m : Nat} {hd p : D} {ps : List D} (hp : p ∈ ps) : dp m p + 1 ≤ dp (m + 1) (.tup (hd :: ps)) := by
  cases ps with
  | nil => cases hp
  | cons y ys =>
    have := maxL_le (l := (y :: ys).map (dp m)) (List.mem_map.mpr ⟨p, hp, rfl⟩)
    show _ ≤ 1 + maxL ((y :: ys).map (dp m))
    omega
theorem dp_most {m : Nat} {hd : D} {ps : List D} {M : Int} (h1 : 1 ≤ M) (h : ∀ p, p ∈ ps → dp m p + 1 ≤ M) : dp (m + 1) (.tup (hd :: ps)) ≤ M := by
  cases ps with
  | nil => exact h1
  | cons y ys =>
    obtain ⟨p, hp, e⟩ := List.mem_map.mp (maxL_mem (ns := (y :: ys).map (dp m)) (by simp)).1
    show 1 + maxL ((y :: ys).map (dp m)) ≤ M
    have := h p hp
    omega
section
variable {kvs : List (D × D)} {q : Nat}
theorem dp_put_ge : ∀ {n : Nat} {d : D}, pat n d → (∀ x, x ∈ hol n d → pat q (gv kvs x)) → dp n d ≤ dp (n + q) (putIn kvs n d) ∧ ∀ x, x ∈ hol n d → lv x n d + dp q (gv kvs x) - 1 ≤ dp (n + q) (putIn kvs n d)
  | n, d, h, hq => by
    rcases h.cases with ⟨y, rfl, hs⟩ | ⟨m, hd, ps, rfl, rfl, hl, hp⟩
    · rw [putIn_str, dp_str, dp_le (hq y (by rw [hol_str]; simp)) (by omega)]
      refine ⟨dp_pos _ _, fun x hx => ?_⟩
      rw [hol_str] at hx
      rw [List.mem_singleton.mp hx, lv_str, if_pos rfl]
      omega
    · rw [show m + 1 + q = (m + q) + 1 by omega]
      show _ ≤ dp (m + q + 1) (.tup (hd :: ps.map (putIn kvs m))) ∧ ∀ x, _ → _ ≤ dp (m + q + 1) (.tup (hd :: ps.map (putIn kvs m)))
      have ih : ∀ p, p ∈ ps → _ := fun p hp' => dp_put_ge (n := m) (d := p) (hp p hp') fun x hx => hq x (hol_part hp' hx)
      have pt : ∀ p, p ∈ ps → dp (m + q) (putIn kvs m p) + 1 ≤ dp (m + q + 1) (.tup (hd :: ps.map (putIn kvs m))) := fun p hp' => dp_part (List.mem_map.mpr ⟨p, hp', rfl⟩)
      refine ⟨dp_most (dp_pos _ _) fun p hp' => ?_, fun x hx => ?_⟩
      · have := (ih p hp').1
        have := pt p hp'
        omega
      · have hlv := (lv_mem h).2.mpr hx
        rw [lv_tup] at hlv ⊢
        have hne : ¬ maxL (0 :: ps.map (lv x m)) = 0 := fun e => by rw [if_pos e] at hlv; omega
        rw [if_neg hne] at hlv ⊢
        rcases List.mem_cons.mp (maxL_mem (ns := 0 :: ps.map (lv x m)) (by simp)).1 with e | e
        · omega
        · obtain ⟨p, hp', e⟩ := List.mem_map.mp e
          have h0 := (lv_mem (x := x) (hp p hp')).1
          have := (ih p hp').2 x ((lv_mem (hp p hp')).2.mp (by omega))
          have := pt p hp'
          omega
theorem dp_put_le : ∀ {n : Nat} {d : D} {M : Int}, pat n d → (∀ x, x ∈ hol n d → pat q (gv kvs x)) → dp n d ≤ M → (∀ x, x ∈ hol n d → lv x n d + dp q (gv kvs x) - 1 ≤ M) → dp (n + q) (putIn kvs n d) ≤ M
  | n, d, M, h, hq, h1, h2 => by
    rcases h.cases with ⟨y, rfl, hs⟩ | ⟨m, hd, ps, rfl, rfl, hl, hp⟩
    · have := h2 y (by rw [hol_str]; simp)
      rw [lv_str, if_pos rfl] at this
      rw [putIn_str, dp_le (hq y (by rw [hol_str]; simp)) (by omega)]
      omega
    · rw [show m + 1 + q = (m + q) + 1 by omega]
      show dp (m + q + 1) (.tup (hd :: ps.map (putIn kvs m))) ≤ M
      have h1' := dp_pos (m + 1) (.tup (hd :: ps))
      refine dp_most (by omega) fun z hz => ?_
      obtain ⟨p, hp', rfl⟩ := List.mem_map.mp hz
      have := dp_part (m := m) (hd := hd) hp'
      have := dp_put_le (M := M - 1) (hp p hp') (fun x hx => hq x (hol_part hp' hx)) (by omega) fun x hx => by
        have h3 := h2 x (hol_part hp' hx)
        have h4 := lv_part (hd := hd) hp' ((lv_mem (hp p hp')).2.mpr hx)
        omega
      omega
theorem dp_put {n : Nat} {d : D} (h : pat n d) (hq : ∀ x, x ∈ hol n d → pat q (gv kvs x)) : dp (n + q) (putIn kvs n d) = maxL (dp n d :: (dd (hol n d)).map fun x => lv x n d + dp q (gv kvs x) - 1) := by
  have hm := maxL_mem (ns := dp n d :: (dd (hol n d)).map fun x => lv x n d + dp q (gv kvs x) - 1) (by simp)
  obtain ⟨g1, g2⟩ := dp_put_ge h hq
  refine Int.le_antisymm (dp_put_le h hq (hm.2 _ List.mem_cons_self) fun x hx => hm.2 _ (List.mem_cons_of_mem _ (List.mem_map.mpr ⟨x, mem_dd.mpr hx, rfl⟩))) ?_
  rcases List.mem_cons.mp hm.1 with e | e
  · rw [e]; exact g1
  · obtain ⟨x, hx, e⟩ := List.mem_map.mp e
    rw [← e]
    exact g2 x (mem_dd.mp hx)
end
/-! ### terms -/
theorem shp_true {b : Bool} : ∀ {n : Nat} {d : D}, shp b n d = true → shp true n d = true
  | n, d, h => by
    rcases LMs.shp.cases h with ⟨x, rfl, hb, hh⟩ | ⟨m, w, ps, rfl, rfl, hw, hl, hps⟩
    · rw [shp_str, hh]; rfl
    · show (decide (ps.length ≤ 3) && (lettersL w 8 && (ps.map (shp true m)).all id)) = true
      rw [hw, decide_eq_true hl, Bool.true_and, Bool.true_and, List.all_eq_true]
      intro z hz
      obtain ⟨p, hp, rfl⟩ := List.mem_map.mp hz
      exact shp_true (hps p hp)
theorem shp_nohol : ∀ {n : Nat} {d : D}, shp false n d = true → hol n d = []
  | n, d, h => by
    rcases LMs.shp.cases h with ⟨x, rfl, hb, hh⟩ | ⟨m, w, ps, rfl, rfl, hw, hl, hps⟩
    · cases hb
    · show (ps.map (hol m)).flatten = []
      rw [List.flatten_eq_nil_iff]
      intro z hz
      obtain ⟨p, hp, rfl⟩ := List.mem_map.mp hz
      exact shp_nohol (hps p hp)
theorem nohol_shp : ∀ {n : Nat} {d : D}, shp true n d = true → hol n d = [] → shp false n d = true
  | n, d, h, hn => by
    rcases LMs.shp.cases h with ⟨x, rfl, hb, hh⟩ | ⟨m, w, ps, rfl, rfl, hw, hl, hps⟩
    · rw [hol_str] at hn; cases hn
    · have hn' : (ps.map (hol m)).flatten = [] := hn
      rw [List.flatten_eq_nil_iff] at hn'
      show (decide (ps.length ≤ 3) && (lettersL w 8 && (ps.map (shp false m)).all id)) = true
      rw [hw, decide_eq_true hl, Bool.true_and, Bool.true_and, List.all_eq_true]
      intro z hz
      obtain ⟨p, hp, rfl⟩ := List.mem_map.mp hz
      exact nohol_shp (hps p hp) (hn' _ (List.mem_map.mpr ⟨p, hp, rfl⟩))
theorem isTrm_hol {d : D} (hw : wf 5 d) (hi : isPat d = true) : isTrm d = decide (hol 5 d = []) := by
  have hf := wf_fit hw
  obtain ⟨hs, h5, h30⟩ := isPat_shp hf hi
  by_cases e : hol 5 d = []
  · rw [decide_eq_true e, isTrm_eq hf (nohol_shp hs e), decide_eq_true (by omega), decide_eq_true (by omega)]
    rfl
  · rw [decide_eq_false e]
    cases ht : isTrm d with
    | false => rfl
    | true => exact absurd (shp_nohol (isTrm_shp hf ht)) e
theorem isTrm_pat {d : D} {n : Nat} (hf : fit n d) (ht : isTrm d = true) : isPat d = true := by
  have hs := isTrm_shp hf ht
  have e := isTrm_eq hf hs
  rw [ht] at e
  have e2 : isPat d = due true n d := both_same true hf
  rw [e2]
  unfold due
  rw [shp_true hs, ← e]
  rfl
theorem putIn_none : ∀ {n : Nat} {d : D} {kvs : List (D × D)}, hol n d = [] → shp true n d = true → putIn kvs n d = d
  | n, d, kvs, hn, h => by
    rcases LMs.shp.cases h with ⟨x, rfl, hb, hh⟩ | ⟨m, w, ps, rfl, rfl, hw, hl, hps⟩
    · rw [hol_str] at hn; cases hn
    · have hn' : (ps.map (hol m)).flatten = [] := hn
      rw [List.flatten_eq_nil_iff] at hn'
      show D.tup (.str w :: ps.map (putIn kvs m)) = _
      have : ps.map (putIn kvs m) = ps.map id := List.map_congr_left fun p hp => putIn_none (hn' _ (List.mem_map.mpr ⟨p, hp, rfl⟩)) (hps p hp)
      rw [this, List.map_id]
theorem txt_inj {d e : D} (hd : wf 5 d) (he : wf 5 e) (h1 : isPat d = true) (h2 : isPat e = true) (h : txt 5 d = txt 5 e) : d = e := by
  have r1 := read_plain (isPat_shp (wf_fit hd) h1).1 h1
  have r2 := read_plain (isPat_shp (wf_fit he) h2).1 h2
  rw [h, r2] at r1
  cases r1
  rfl
end Rd

set_option Elab.async false
set_option linter.all false
set_option maxRecDepth 100000
set_option maxHeartbeats 4000000
/-! pattern_text; equality of patterns; small words. -/
namespace Rd
open PySem L2 DL AL LM Ma LMs
variable [Wd]
local macro_rules | `(tactic| walk_at "al") => `(tactic| dsimp only [aSeq, aIfS, aRet, aRetN, aNext, aCont, aDrop, aAsg, aTest, aNot, aAnd, aOr, aYes, aOp, aUn, aC, aVar, aCB, aCons, aNil, aCall, agN, List.set, List.getElem?_cons_zero, List.getElem?_cons_succ])
variable {K : PySem.W.Frag} {cs : Cs}
def Spt (cs : Cs) (n : Nat) (F : AF) : Prop := (∀ d m, fit m d → isPat d = false → Er F [d] (.exc0 cs.BadPattern)) ∧ ∀ d k m, k < n → k ≤ 10 → fit m d → isPat d = true → wf k d → Pu F [d] (.str (txt k d))
theorem s_ptext {Fp Ft : AF} {n : Nat} (hp : Sneed cs Fp) (ht : Stxt n Ft) : Spt cs n (afn ["pattern"] ["pattern"] (u_pattern_text K cs Fp Ft)) := by
  refine ⟨fun d m hf hi Γ P X hX => ⟨rfl, ?_⟩, fun d k m hk h10 hf hi hw Γ P X hP => ⟨rfl, ?_⟩⟩
  · show u_pattern_text K cs Fp Ft _ [some d] Γ
    delta u_pattern_text
    walk_at "al"
    exact (hp d m hf).2 hi Γ _ _ hX
  · show u_pattern_text K cs Fp Ft _ [some d] Γ
    delta u_pattern_text
    walk_at "al"
    exact (hp d m hf).1 hi Γ _ _ (ht d k hk h10 hw Γ _ _ hP)
theorem lcL_mapS {j : Nat} {e : AE} {δ : DL.Env} {f : Str → D} {Γ : Sto} : ∀ (xs : List Str) (acc : List D) {P : List D → Sto → Prop}, (∀ x, x ∈ xs → ∀ P X, P (f x) Γ → e (δ.set j (some (.str x))) Γ P X) → P (acc ++ xs.map f) Γ → aLcL (agN j) aYes e δ (xs.map D.str) acc Γ P
  | [], acc, P, _, h => by rw [List.map_nil, List.append_nil] at h; exact h
  | x :: xs, acc, P, he, h => ⟨fun _ => he x List.mem_cons_self _ _ (lcL_mapS xs (acc ++ [f x]) (fun y hy => he y (List.mem_cons_of_mem _ hy)) (by rw [List.append_assoc]; exact h)), fun z => by cases z⟩
theorem wf_cmp {n : Nat} {d : D} (h : wf n d) (hn : n ≤ 64) : cmpOk d := ⟨wf_plain h, Nat.le_trans (wf_deep h) hn⟩
theorem rs_int (Γ : Sto) (i : Int) : AL.rs Γ (.int i) = .int i := rfl
theorem rs_str (Γ : Sto) (i : Str) : AL.rs Γ (.str i) = .str i := rfl
theorem rs_bl (Γ : Sto) (i : Bool) : AL.rs Γ (.bl i) = .bl i := rfl
theorem rs_non (Γ : Sto) : AL.rs Γ .non = .non := rfl
theorem rs_lst (Γ : Sto) (i : List D) : AL.rs Γ (.lst i) = .lst i := rfl
theorem rs_tup (Γ : Sto) (i : List D) : AL.rs Γ (.tup i) = .tup i := rfl
theorem rs_dct (Γ : Sto) (i : List (D × D)) : AL.rs Γ (.dct i) = .dct i := rfl
/-- == of data that are no dicts, by eqD -/
theorem eq_D {d e : D} {Q : D → Prop} (h1 : cmpOk d) (h2 : cmpOk e) (q : Q (.bl (eqD d e))) : oEqC d e Q := by
  have n1 : ∀ kvs, d ≠ .dct kvs := fun kvs z => by subst z; exact absurd h1.1 (by simp [DL.plain])
  have key : oEqB d e Q := by
    show oEq d e Q
    unfold oEq
    split
    · rename_i i j
      have e1 : eqD (.int i) (.int j) = decide (i = j) := by simp [eqD, toPy, PyData.eqv]; rfl
      rw [e1] at q; exact q
    · rename_i i j
      have e1 : eqD (.str i) (.str j) = decide (i = j) := by simp [eqD, toPy, PyData.eqv]; rfl
      rw [e1] at q; exact q
    · exact ⟨h1, h2, q⟩
  unfold oEqC
  split
  · rename_i ks ls; exact absurd rfl (n1 ks)
  · exact key
theorem ne_D {d e : D} {Q : D → Prop} (h1 : cmpOk d) (h2 : cmpOk e) (q : Q (.bl (!eqD d e))) : oNeC d e Q := by
  have n1 : ∀ kvs, d ≠ .dct kvs := fun kvs z => by subst z; exact absurd h1.1 (by simp [DL.plain])
  have key : oNeB d e Q := by
    show oNe d e Q
    unfold oNe
    split
    · rename_i i j
      have e1 : eqD (.int i) (.int j) = decide (i = j) := by simp [eqD, toPy, PyData.eqv]; rfl
      rw [e1] at q; exact q
    · rename_i i j
      have e1 : eqD (.str i) (.str j) = decide (i = j) := by simp [eqD, toPy, PyData.eqv]; rfl
      rw [e1] at q; exact q
    · exact ⟨h1, h2, q⟩
  unfold oNeC
  split
  · rename_i ks ls; exact absurd rfl (n1 ks)
  · exact key
theorem eq_self {d : D} {Q : D → Prop} (h : cmpOk d) (q : Q (.bl true)) : oEqC d d Q := eq_D h h (by rw [eqD_same h]; exact q)
theorem ne_self {d : D} {Q : D → Prop} (h : cmpOk d) (q : Q (.bl false)) : oNeC d d Q := ne_D h h (by rw [eqD_same h]; exact q)
mutual
theorem eqD_wf : ∀ {n m : Nat} {d e : D}, wf n d → wf m e → eqD d e = true → d = e
  | n, m, d, e, h, g, q => by
    rcases h.cases with ⟨x, rfl, _⟩ | ⟨n', w, ps, rfl, rfl, _, _, hps⟩
    · rcases g.cases with ⟨y, rfl, _⟩ | ⟨m', v, qs, rfl, rfl, _, _, _⟩
      · have : (x == y) = true := by simpa [eqD, toPy, PyData.eqv] using q
        rw [eq_of_beq this]
      · simp [eqD, toPy, PyData.eqv] at q
    · rcases g.cases with ⟨y, rfl, _⟩ | ⟨m', v, qs, rfl, rfl, _, _, hqs⟩
      · simp [eqD, toPy, PyData.eqv] at q
      · have q' : (w == v) = true ∧ PyData.eqvAll (toPys ps) (toPys qs) = true := by simpa [eqD, toPy, toPys, PyData.eqv, PyData.eqvAll] using q
        rw [eq_of_beq q'.1, eqDs_wf ps qs hps hqs q'.2]
theorem eqDs_wf : ∀ {n m : Nat} (ps qs : List D), (∀ p, p ∈ ps → wf n p) → (∀ p, p ∈ qs → wf m p) → PyData.eqvAll (toPys ps) (toPys qs) = true → ps = qs
  | n, m, [], [], _, _, _ => rfl
  | n, m, [], q :: qs, _, _, h => by simp [toPys, PyData.eqvAll] at h
  | n, m, p :: ps, [], _, _, h => by simp [toPys, PyData.eqvAll] at h
  | n, m, p :: ps, q :: qs, hp, hq, h => by
    have h' : PyData.eqv (toPy p) (toPy q) = true ∧ PyData.eqvAll (toPys ps) (toPys qs) = true := by simpa [toPys, PyData.eqvAll] using h
    rw [eqD_wf (hp p List.mem_cons_self) (hq q List.mem_cons_self) h'.1, eqDs_wf ps qs (fun x hx => hp x (List.mem_cons_of_mem _ hx)) (fun x hx => hq x (List.mem_cons_of_mem _ hx)) h'.2]
end
theorem eqD_wf_eq {n m : Nat} {d e : D} (h : wf n d) (g : wf m e) (hn : n ≤ 64) : eqD d e = decide (d = e) := by
  by_cases q : d = e
  · subst q
    rw [eqD_same (wf_cmp h hn), decide_eq_true rfl]
  · rw [decide_eq_false q]
    cases z : eqD d e with
    | false => rfl
    | true => exact absurd (eqD_wf h g z) q
/-! ### the order of patterns -/
theorem lex_fin (x y : List Nat) : PyProof.Rows.lexLt PyProof.Rows.itemOrd [Sum.inr x, Sum.inl 0] [Sum.inr y, Sum.inl 0] = decide (x < y) := by
  by_cases e : x = y
  · subst e
    rw [PyProof.Rows.lex_self, PyProof.Rows.lex_self]
    simp [PyProof.Rows.lexLt, List.lt_irrefl]
  · rw [PyProof.Rows.lex_diff (O := PyProof.Rows.itemOrd) (fun z => e (by injection z))]
    rfl
theorem ltD_key (k l : Nat) (d e : D) : ltD (LMs.keyOf k d) (LMs.keyOf l e) = if sz k d = sz l e then decide ((txt k d).cps.toList < (txt l e).cps.toList) else decide (sz k d < sz l e) := by
  have e1 : ∀ (i : Int) (x : Str), PySem.W.keyToks (toPy (.tup [.int i, .str x])) = [Sum.inl 1, Sum.inl i, Sum.inl 1, Sum.inr x.cps.toList, Sum.inl 0] := fun i x => by
    simp [toPy, toPys, PySem.W.keyToks, PySem.W.keyToksAll]
  show PyProof.Rows.lexLt PyProof.Rows.itemOrd (PySem.W.keyToks (toPy (.tup [.int (sz k d), .str (txt k d)]))) (PySem.W.keyToks (toPy (.tup [.int (sz l e), .str (txt l e)]))) = _
  rw [e1, e1, PyProof.Rows.lex_self]
  by_cases q : sz k d = sz l e
  · rw [if_pos q, q, PyProof.Rows.lex_self, PyProof.Rows.lex_self, lex_fin]
  · rw [if_neg q, PyProof.Rows.lex_diff (O := PyProof.Rows.itemOrd) (fun z => q (by injection z))]
    rfl
/-! ### dicts -/
theorem lkD_cons (kv : D × D) (kvs : List (D × D)) (y : D) : lkD (kv :: kvs) y = if kv.1 = y then some kv.2 else lkD kvs y := by
  unfold lkD
  rw [List.find?_cons]
  by_cases e : kv.1 = y
  · rw [if_pos e, decide_eq_true e]; rfl
  · rw [if_neg e, decide_eq_false e]
theorem lkD_map {k v : D} (y : D) : ∀ kvs : List (D × D), (kvs.any fun kv => decide (kv.1 = k)) = true → lkD (kvs.map fun kv => if kv.1 = k then (kv.1, v) else kv) y = if y = k then some v else lkD kvs y
  | [], h => by cases h
  | kv :: kvs, h => by
    have at' : ∀ l : List (D × D), y ≠ k → lkD (l.map fun kv => if kv.1 = k then (kv.1, v) else kv) y = lkD l y := by
      intro l hy
      induction l with
      | nil => rfl
      | cons z l ih =>
        rw [List.map_cons, lkD_cons, lkD_cons, ih]
        by_cases e : z.1 = k
        · rw [if_pos e, if_neg (fun q => hy (q.symm.trans e)), if_neg (fun q => hy (q.symm.trans e))]
        · rw [if_neg e]
    by_cases hy : y = k
    · subst hy
      rw [if_pos rfl, List.map_cons, lkD_cons]
      by_cases e : kv.1 = y
      · rw [if_pos e, if_pos e]
      · rw [if_neg e, if_neg e, lkD_map y kvs (by
          rw [List.any_cons, decide_eq_false e, Bool.false_or] at h
          exact h), if_pos rfl]
    · rw [if_neg hy, at' _ hy]
theorem lkD_none {y : D} : ∀ kvs : List (D × D), (kvs.any fun kv => decide (kv.1 = y)) = false → lkD kvs y = none
  | [], _ => rfl
  | kv :: kvs, h => by
    rw [List.any_cons, Bool.or_eq_false_iff] at h
    rw [lkD_cons, if_neg (of_decide_eq_false h.1), lkD_none kvs h.2]
theorem lkD_app (y : D) : ∀ (kvs ls : List (D × D)), lkD (kvs ++ ls) y = match lkD kvs y with
    | some z => some z
    | none => lkD ls y
  | [], ls => rfl
  | kv :: kvs, ls => by
    rw [List.cons_append, lkD_cons, lkD_cons]
    by_cases e : kv.1 = y
    · rw [if_pos e, if_pos e]
    · rw [if_neg e, if_neg e, lkD_app y kvs ls]
theorem lkD_put (kvs : List (D × D)) (k v y : D) : lkD (putD kvs k v) y = if y = k then some v else lkD kvs y := by
  unfold putD
  by_cases h : (kvs.any fun kv => decide (kv.1 = k)) = true
  · rw [if_pos h, lkD_map y kvs h]
  · have h' : (kvs.any fun kv => decide (kv.1 = k)) = false := by
      cases z : (kvs.any fun kv => decide (kv.1 = k)) with
      | false => rfl
      | true => exact absurd z h
    rw [if_neg h, lkD_app, lkD_cons]
    by_cases e : y = k
    · subst e
      rw [lkD_none kvs h', if_pos rfl, if_pos rfl]
    · rw [if_neg (fun q => e q.symm), if_neg e]
      cases lkD kvs y <;> rfl
theorem putD_keys {kvs : List (D × D)} {k v : D} {kv : D × D} (h : kv ∈ putD kvs k v) : kv.1 = k ∨ ∃ kv', kv' ∈ kvs ∧ kv'.1 = kv.1 := by
  unfold putD at h
  split at h
  · obtain ⟨z, hz, rfl⟩ := List.mem_map.mp h
    refine .inr ⟨z, hz, ?_⟩
    split <;> rfl
  · rcases List.mem_append.mp h with h | h
    · exact .inr ⟨kv, h, rfl⟩
    · rw [List.mem_singleton.mp h]; exact .inl rfl
theorem strK_put {kvs : List (D × D)} {x : Str} {v : D} (h : strK kvs) : strK (putD kvs (.str x) v) := fun kv hk => by
  rcases putD_keys hk with e | ⟨kv', h1, h2⟩
  · exact ⟨x, e⟩
  · obtain ⟨y, hy⟩ := h kv' h1
    exact ⟨y, by rw [← h2]; exact hy⟩
theorem putC_dct {Γ : Sto} {p : Addr} {kvs : List (D × D)} {i v : D} {Q : Sto → Prop} (h : Γ p = some (.dct kvs)) (q : okK kvs i ∧ kvs.length < sizeLine ∧ Q (upS Γ p (.dct (putD kvs i v)))) : putC Γ (.ref p) i v Q := by
  unfold putC
  dsimp only
  rw [h]
  exact q
/-! ### bounds -/
def szB : Nat → Int
  | 0 => 1
  | n + 1 => 1 + 3 * szB n
theorem szB_pos : ∀ n, 1 ≤ szB n
  | 0 => by decide
  | n + 1 => by have := szB_pos n; show 1 ≤ 1 + 3 * szB n; omega
theorem sum_bnd {B : Int} (h0 : 0 ≤ B) : ∀ (l : List Int), (∀ x, x ∈ l → x ≤ B) → l.length ≤ 3 → l.sum ≤ 3 * B := by
  have key : ∀ (l : List Int), (∀ x, x ∈ l → x ≤ B) → l.sum ≤ l.length * B := by
    intro l
    induction l with
    | nil => intro _; simp
    | cons x l ih =>
      intro h
      have h1 := h x List.mem_cons_self
      have h2 := ih fun y hy => h y (List.mem_cons_of_mem _ hy)
      rw [List.sum_cons, List.length_cons, Int.natCast_add, Int.add_mul]
      omega
  intro l h hl
  have h1 := key l h
  have : (l.length : Int) * B ≤ 3 * B := Int.mul_le_mul_of_nonneg_right (by omega) h0
  omega
theorem sz_bnd : ∀ {n : Nat} {d : D}, pat n d → sz n d ≤ szB n
  | n, d, h => by
    rcases h.cases with ⟨x, rfl, hs⟩ | ⟨m, hd, ps, rfl, rfl, hl, hp⟩
    · rw [sz_str]; exact szB_pos n
    · show 1 + (ps.map (sz m)).sum ≤ 1 + 3 * szB m
      have := szB_pos m
      have := sum_bnd (B := szB m) (by omega) (ps.map (sz m)) (fun x hx => by
        obtain ⟨p, hp', rfl⟩ := List.mem_map.mp hx
        exact sz_bnd (hp p hp')) (by rw [List.length_map]; exact hl)
      omega
theorem dp_bnd : ∀ {n : Nat} {d : D}, pat n d → dp n d ≤ (n : Int) + 1
  | n, d, h => by
    rcases h.cases with ⟨x, rfl, hs⟩ | ⟨m, hd, ps, rfl, rfl, hl, hp⟩
    · rw [dp_str]; omega
    · refine dp_most (by omega) fun p hp' => ?_
      have := dp_bnd (hp p hp')
      omega
theorem wf_up : ∀ {n : Nat} {d : D}, wf n d → wf (n + 1) d
  | n, d, h => by
    rcases h.cases with ⟨x, rfl, hs⟩ | ⟨m, w, ps, rfl, rfl, hw, hl, hps⟩
    · exact hs
    · exact ⟨hw, hl, fun p hp => wf_up (hps p hp)⟩
theorem wf_le {n m : Nat} {d : D} (h : wf n d) (hm : n ≤ m) : wf m d := by
  induction hm with
  | refl => exact h
  | step _ ih => exact wf_up ih
theorem wf_shp : ∀ {n : Nat} {d : D}, wf n d → shp true n d = true
  | n, d, h => by
    rcases h.cases with ⟨x, rfl, _, _, hh⟩ | ⟨m, w, ps, rfl, rfl, hw, hl, hps⟩
    · rw [shp_str, hh]; rfl
    · show (decide (ps.length ≤ 3) && (lettersL w 8 && (ps.map (shp true m)).all id)) = true
      rw [lettersL_eq, hw, decide_eq_true hl, Bool.true_and, Bool.true_and, List.all_eq_true]
      intro z hz
      obtain ⟨p, hp, rfl⟩ := List.mem_map.mp hz
      exact wf_shp (hps p hp)
theorem small_trm {n : Nat} {d : D} (h : wf n d) (hn : hol n d = []) (h3 : n ≤ 2) : isTrm d = true := by
  rw [isTrm_eq (wf_fit h) (nohol_shp (wf_shp h) hn)]
  have h1 := sz_bnd h.pat
  have h2 := dp_bnd h.pat
  have h4 : szB n ≤ 13 := by
    have : n = 0 ∨ n = 1 ∨ n = 2 := by omega
    rcases this with rfl | rfl | rfl <;> decide
  rw [decide_eq_true (by omega), decide_eq_true (by omega)]
  rfl
end Rd

set_option Elab.async false
set_option linter.all false
set_option maxRecDepth 100000
set_option maxHeartbeats 4000000
/-! Texts told sign by sign (an automaton with a stack), and the reader: they fail at the same place. -/
namespace Rd
open PySem L2 DL AL LM Ma LMs
variable [Wd]
inductive Sg where
  | beg | mark | hole | name | head | beh
  deriving DecidableEq
/-- behind a leaf; nm: it may be a head -/
def tail (nm : Bool) (dp : List Nat) (c : Nat) : Option (Sg × Nat × List Nat) :=
  if c = 32 then some (if nm = true then .head else .beh, 0, dp)
  else if c = 40 ∧ nm = true then some (.beg, 0, 1 :: dp)
  else if c = 44 then match dp with
    | k :: r => if k < 3 then some (.beg, 0, (k + 1) :: r) else none
    | [] => none
  else if c = 41 then match dp with
    | _ :: r => some (.beh, 0, r)
    | [] => none
  else none
def step (s : Sg) (m : Nat) (dp : List Nat) (c : Nat) : Option (Sg × Nat × List Nat) := match s with
  | .beg => if isLet c = true then some (.name, 1, dp) else if c = 63 then some (.mark, 0, dp) else if c = 32 then some (.beg, 0, dp) else none
  | .mark => if isLet c = true then (if m < 4 then some (.hole, m + 1, dp) else none) else none
  | .hole => if isLet c = true then (if m < 4 then some (.hole, m + 1, dp) else none) else tail false dp c
  | .name => if isLet c = true then (if m < 8 then some (.name, m + 1, dp) else none) else tail true dp c
  | .head => tail true dp c
  | .beh => tail false dp c
def fin : Sg → Bool
  | .beg => false
  | .mark => false
  | _ => true
def run : T → Nat → Sg → Nat → List Nat → Except Nat Unit
  | [], n, s, _, dp => if fin s = true ∧ dp = [] then .ok () else .error n
  | c :: l, n, s, m, dp => match step s m dp c with
    | none => .error n
    | some (s', m', dp') => run l (n + 1) s' m' dp'
abbrev runA (ts : T) (n : Nat) (s : Sg) (m : Nat) (dp : List Nat) : Except Nat Unit := run (ts.drop n) n s m dp
theorem runA_at {ts : T} {n c : Nat} {s : Sg} {m : Nat} {dp : List Nat} (h : ts[n]? = some c) : runA ts n s m dp = match step s m dp c with
    | none => .error n
    | some (s', m', dp') => runA ts (n + 1) s' m' dp' := by
  obtain ⟨hi, e⟩ := List.getElem?_eq_some_iff.mp h
  unfold runA
  rw [List.drop_eq_getElem_cons hi, e]
  rfl
theorem runA_end {ts : T} {n : Nat} {s : Sg} {m : Nat} {dp : List Nat} (h : ts[n]? = none) : runA ts n s m dp = if fin s = true ∧ dp = [] then .ok () else .error n := by
  unfold runA
  rw [List.drop_of_length_le (List.getElem?_eq_none_iff.mp h)]
  rfl
theorem len_of_none {ts : T} {n : Nat} (h : ts[n]? = none) (hn : n ≤ ts.length) : n = ts.length := by
  have := List.getElem?_eq_none_iff.mp h
  omega
theorem len_of_some {ts : T} {n c : Nat} (h : ts[n]? = some c) : n < ts.length := (List.getElem?_eq_some_iff.mp h).1
theorem blank_let : isLet 32 = false := by decide +kernel
theorem mark_let : isLet 63 = false := by decide +kernel
theorem blk_not {ts : T} : ∀ (k n : Nat), ts.length ≤ n + k → ts[blk ts n]? ≠ some 32
  | k, n, hk => by
    rw [blk_eq]
    by_cases e : ts[n]? = some 32
    · rw [if_pos e]
      have := len_of_some e
      obtain ⟨k, rfl⟩ : ∃ j, k = j + 1 := ⟨k - 1, by omega⟩
      exact blk_not k (n + 1) (by omega)
    · rw [if_neg e]; exact e
theorem blk_no {ts : T} (n : Nat) : ts[blk ts n]? ≠ some 32 := blk_not ts.length n (by omega)
theorem run_blk {ts : T} {dp : List Nat} : ∀ (k n : Nat), ts.length ≤ n + k → runA ts n .beg 0 dp = runA ts (blk ts n) .beg 0 dp
  | k, n, hk => by
    rw [blk_eq]
    by_cases e : ts[n]? = some 32
    · rw [if_pos e]
      have := len_of_some e
      obtain ⟨k, rfl⟩ : ∃ j, k = j + 1 := ⟨k - 1, by omega⟩
      rw [← run_blk k (n + 1) (by omega), runA_at e]
      rfl
    · rw [if_neg e]
theorem run_blanks {ts : T} {dp : List Nat} (n : Nat) : runA ts n .beg 0 dp = runA ts (blk ts n) .beg 0 dp := run_blk ts.length n (by omega)
/-- letters of a name, of a hole -/
theorem run_let {ts : T} {dp : List Nat} {s : Sg} {M : Nat} (hs : ∀ m c, isLet c = true → step s m dp c = if m < M then some (s, m + 1, dp) else none) : ∀ (k n m : Nat), m + k = M →
    (nl k (ts.drop n) = k → hl ts[n + k]? = true → runA ts n s m dp = .error (n + k)) ∧ ((nl k (ts.drop n) = k → hl ts[n + k]? = false) → runA ts n s m dp = runA ts (n + nl k (ts.drop n)) s (m + nl k (ts.drop n)) dp ∧ hl ts[n + nl k (ts.drop n)]? = false)
  | 0, n, m, hm => by
    have e0 : nl 0 (ts.drop n) = 0 := by rw [nl_eq, if_pos rfl]
    refine ⟨fun _ h => ?_, fun h => ?_⟩
    · obtain ⟨c, hc, hl'⟩ := hl_some h
      rw [Nat.add_zero] at hc
      rw [runA_at hc, hs m c hl', if_neg (by omega)]
      rfl
    · rw [e0]
      exact ⟨rfl, h e0⟩
  | k + 1, n, m, hm => by
    rw [nl_eq, if_neg (by omega)]
    by_cases hc : hl ts[n]? = true
    · rw [if_pos hc]
      obtain ⟨c, hc1, hc2⟩ := hl_some hc
      have e : runA ts n s m dp = runA ts (n + 1) s (m + 1) dp := by
        rw [runA_at hc1, hs m c hc2, if_pos (by omega)]
      obtain ⟨h1, h2⟩ := run_let hs k (n + 1) (m + 1) (by omega)
      rw [show k + 1 - 1 = k by omega]
      refine ⟨fun q h => ?_, fun h => ?_⟩
      · rw [e, h1 (by omega) (by rw [show n + 1 + k = n + (k + 1) by omega]; exact h)]
        congr 1
        omega
      · obtain ⟨g1, g2⟩ := h2 fun q => by rw [show n + 1 + k = n + (k + 1) by omega]; exact h (by omega)
        rw [e, g1, show n + (nl k (ts.drop (n + 1)) + 1) = n + 1 + nl k (ts.drop (n + 1)) by omega, show m + (nl k (ts.drop (n + 1)) + 1) = m + 1 + nl k (ts.drop (n + 1)) by omega]
        exact ⟨rfl, g2⟩
    · rw [if_neg hc]
      exact ⟨fun q => by omega, fun _ => ⟨rfl, Bool.eq_false_iff.mpr hc⟩⟩
/-- behind a leaf and the blanks there -/
def runP (ts : T) (n : Nat) (nm : Bool) (dp : List Nat) : Except Nat Unit := match ts[n]? with
  | none => if dp = [] then .ok () else .error n
  | some c => match tail nm dp c with
    | none => .error n
    | some (s', m', dp') => runA ts (n + 1) s' m' dp'
def kind (s : Sg) (nm : Bool) : Prop := match s with
  | .name => nm = true
  | .head => nm = true
  | .hole => nm = false
  | .beh => nm = false
  | _ => False
theorem run_pend {ts : T} {dp : List Nat} {nm : Bool} : ∀ (k n : Nat) (s : Sg) (m : Nat), ts.length ≤ n + k → kind s nm → (s = .head ∨ s = .beh ∨ hl ts[n]? = false) → runA ts n s m dp = runP ts (blk ts n) nm dp
  | k, n, s, m, hk, hkd, hs => by
    have st : ∀ c, ts[n]? = some c → step s m dp c = tail nm dp c := fun c hc => by
      have hl' : s = .head ∨ s = .beh ∨ isLet c = false := by
        rcases hs with h | h | h
        · exact .inl h
        · exact .inr (.inl h)
        · rw [hc] at h; exact .inr (.inr h)
      cases s with
      | beg => exact hkd.elim
      | mark => exact hkd.elim
      | hole =>
        have : isLet c = false := by rcases hl' with h | h | h; cases h; cases h; exact h
        have hn : nm = false := hkd
        subst hn
        show (if isLet c = true then _ else _) = _
        rw [this]; rfl
      | name =>
        have : isLet c = false := by rcases hl' with h | h | h; cases h; cases h; exact h
        have hn : nm = true := hkd
        subst hn
        show (if isLet c = true then _ else _) = _
        rw [this]; rfl
      | head => have hn : nm = true := hkd; subst hn; rfl
      | beh => have hn : nm = false := hkd; subst hn; rfl
    have fs : fin s = true := by cases s <;> first | rfl | exact hkd.elim
    rw [blk_eq]
    by_cases e : ts[n]? = some 32
    · rw [if_pos e, runA_at e, st 32 e]
      have := len_of_some e
      obtain ⟨k, rfl⟩ : ∃ j, k = j + 1 := ⟨k - 1, by omega⟩
      show runA ts (n + 1) (if nm = true then .head else .beh) 0 dp = _
      refine run_pend k (n + 1) _ 0 (by omega) ?_ ?_
      · cases nm <;> rfl
      · cases nm
        · exact .inr (.inl rfl)
        · exact .inl rfl
    · rw [if_neg e]
      cases h : ts[n]? with
      | none =>
        rw [runA_end h]
        unfold runP
        rw [h, fs]
        simp
      | some c =>
        rw [runA_at h, st c h]
        unfold runP
        rw [h]
theorem run_pending {ts : T} {dp : List Nat} {nm : Bool} {n : Nat} {s : Sg} {m : Nat} (hk : kind s nm) (hs : s = .head ∨ s = .beh ∨ hl ts[n]? = false) : runA ts n s m dp = runP ts (blk ts n) nm dp := run_pend ts.length n s m (by omega) hk hs
abbrev lens (st : List (List D)) : List Nat := st.map List.length
/-- a part is whole -/
theorem simP {ts : T} : ∀ (st : List (List D)) (d : D) (n : Nat) (nm : Bool), (nm = true → ts[n]? ≠ some 40) → ts[n]? ≠ some 32 → n ≤ ts.length → runP ts n nm (lens st) = match cl ts st d n with
    | .error e => .error e
    | .ok (some z, n2, _) => if n2 < ts.length then .error n2 else .ok ()
    | .ok (none, n2, st') => runA ts n2 .beg 0 (lens st')
  | [], d, n, nm, h40, h32, hn => by
    unfold runP
    rw [cl]
    cases h : ts[n]? with
    | none =>
      dsimp only
      rw [if_pos (show lens [] = [] from rfl), if_neg (by have := len_of_none h hn; omega)]
    | some c =>
      dsimp only
      have hc : c ≠ 32 := fun z => h32 (by rw [h, z])
      have hc4 : ¬ (c = 40 ∧ nm = true) := fun z => h40 z.2 (by rw [h, z.1])
      rw [if_pos (len_of_some h)]
      show (match tail nm [] c with | none => _ | some (s', m', dp') => _) = _
      have : tail nm [] c = none := by
        unfold tail
        rw [if_neg hc, if_neg hc4]
        split
        · rfl
        · split <;> rfl
      rw [this]
  | l :: st, d, n, nm, h40, h32, hn => by
    unfold runP
    rw [cl]
    cases h : ts[n]? with
    | none =>
      dsimp only
      rw [if_neg (show ¬ lens (l :: st) = [] from fun z => nomatch z), if_neg (show ¬ ((none : Option Nat) = some 44 ∧ l.length + 1 ≤ 3) from fun z => nomatch z.1), if_neg (show ¬ ((none : Option Nat) = some 41) from fun z => nomatch z)]
    | some c =>
      have hc : c ≠ 32 := fun z => h32 (by rw [h, z])
      have hc4 : ¬ (c = 40 ∧ nm = true) := fun z => h40 z.2 (by rw [h, z.1])
      have hlt := len_of_some h
      have te : tail nm (lens (l :: st)) c = if c = 44 then (if l.length < 3 then some (.beg, 0, (l.length + 1) :: lens st) else none) else if c = 41 then some (.beh, 0, lens st) else none := by
        unfold tail
        rw [if_neg hc, if_neg hc4]
        rfl
      dsimp only
      rw [te]
      by_cases h44 : c = 44
      · subst h44
        rw [if_pos rfl]
        by_cases hl3 : l.length < 3
        · rw [if_pos hl3, if_pos ⟨rfl, by omega⟩]
          show runA ts (n + 1) .beg 0 ((l.length + 1) :: lens st) = runA ts (n + 1) .beg 0 ((l ++ [d]).length :: lens st)
          rw [List.length_append, List.length_singleton]
        · rw [if_neg hl3, if_neg (fun z => hl3 (by omega)), if_neg (by decide)]
      · rw [if_neg (show ¬ (some c = some 44 ∧ l.length + 1 ≤ 3) from fun z => h44 (Option.some.inj z.1))]
        by_cases h41 : c = 41
        · subst h41
          rw [if_neg (show ¬ (41 = 44) by decide), if_pos (show 41 = 41 from rfl), if_pos (show some 41 = some 41 from rfl)]
          show runA ts (n + 1) .beh 0 (lens st) = _
          rw [run_pending (s := .beh) (nm := false) rfl (.inr (.inl rfl))]
          exact simP st (.tup (l ++ [d])) (blk ts (n + 1)) false (fun z => by cases z) (blk_no _) (blk_len (by omega))
        · rw [if_neg h44, if_neg h41, if_neg (show ¬ (some c = some 41) from fun z => h41 (Option.some.inj z))]
theorem name_step {dp : List Nat} (m c : Nat) (h : isLet c = true) : step .name m dp c = if m < 8 then some (.name, m + 1, dp) else none := by
  show (if isLet c = true then _ else _) = _
  rw [if_pos h]
theorem hole_step {dp : List Nat} (m c : Nat) (h : isLet c = true) : step .hole m dp c = if m < 4 then some (.hole, m + 1, dp) else none := by
  show (if isLet c = true then _ else _) = _
  rw [if_pos h]
/-- a leaf -/
theorem sim_leaf {ts : T} {dp : List Nat} {n : Nat} (hn : n ≤ ts.length) : (∀ e, lf ts n = .error e → runA ts n .beg 0 dp = .error e) ∧ ∀ d n1, lf ts n = .ok (d, n1) → n1 ≤ ts.length ∧ ts[n1]? ≠ some 32 ∧ ((∃ xs, opens d = some xs ∧ xs.length = 1 ∧ runA ts n .beg 0 dp = runP ts n1 true dp) ∨ (opens d = none ∧ runA ts n .beg 0 dp = runP ts n1 false dp)) := by
  have hb := blk_len hn
  rw [run_blanks]
  unfold lf
  generalize hbn : blk ts n = b at *
  have nb32 : ts[b]? ≠ some 32 := by rw [← hbn]; exact blk_no n
  by_cases hq : ts[b]? = some 63
  · rw [if_pos hq]
    have e1 : runA ts b .beg 0 dp = runA ts (b + 1) .mark 0 dp := by
      have es : step .beg 0 dp 63 = some (.mark, 0, dp) := by
        unfold step
        rw [if_neg (by rw [mark_let]; exact Bool.false_ne_true), if_pos rfl]
      rw [runA_at hq, es]
    have hb1 : b + 1 ≤ ts.length := len_of_some hq
    -- the first letter
    by_cases hf : hl ts[b + 1]? = true
    · obtain ⟨c, hc, hl'⟩ := hl_some hf
      have e2 : runA ts (b + 1) .mark 0 dp = runA ts (b + 2) .hole 1 dp := by
        have es : step .mark 0 dp c = some (.hole, 1, dp) := by
          show (if isLet c = true then _ else _) = _
          rw [if_pos hl']; rfl
        rw [runA_at hc, es]
      have en4 : nl 4 (ts.drop (b + 1)) = nl 3 (ts.drop (b + 2)) + 1 := by rw [nl_eq, if_neg (by omega), if_pos hf]
      obtain ⟨g1, g2⟩ := run_let (ts := ts) (dp := dp) (M := 4) hole_step 3 (b + 2) 1 rfl
      by_cases hbad : bad 4 ts (b + 1) = true
      · rw [if_pos hbad]
        refine ⟨fun e he => ?_, fun d n1 z => (nomatch z)⟩
        cases he
        unfold bad at hbad
        rw [en4] at hbad
        have hz : nl 3 (ts.drop (b + 2)) = 3 ∧ hl ts[b + 1 + 4]? = true := by
          simp at hbad
          exact ⟨by omega, hbad.2⟩
        rw [e1, e2, g1 hz.1 (by rw [show b + 2 + 3 = b + 1 + 4 by omega]; exact hz.2)]
        unfold en
        rw [en4, hz.1]
      · rw [if_neg hbad]
        refine ⟨fun e he => (nomatch he), fun d n1 z => ?_⟩
        cases z
        have hz : nl 3 (ts.drop (b + 2)) = 3 → hl ts[b + 2 + 3]? = false := fun q => by
          unfold bad at hbad
          rw [en4] at hbad
          cases hh : hl ts[b + 2 + 3]? with
          | false => rfl
          | true =>
            rw [show b + 2 + 3 = b + 1 + 4 by omega] at hh
            exact absurd (by rw [hh, q]; rfl) hbad
        obtain ⟨k1, k2⟩ := g2 hz
        refine ⟨blk_len (en_len hb1), blk_no _, .inr ⟨rfl, ?_⟩⟩
        have ee : en 4 ts (b + 1) = b + 2 + nl 3 (ts.drop (b + 2)) := by
          unfold en
          rw [en4]
          omega
        rw [e1, e2, k1, ee, run_pending (s := .hole) (nm := false) rfl (.inr (.inr k2))]
    · have en4 : nl 4 (ts.drop (b + 1)) = 0 := by rw [nl_eq, if_neg (by omega), if_neg hf]
      have hbad : bad 4 ts (b + 1) = true := by
        unfold bad
        rw [en4]; rfl
      rw [if_pos hbad]
      refine ⟨fun e he => ?_, fun d n1 z => (nomatch z)⟩
      cases he
      have ee : en 4 ts (b + 1) = b + 1 := by unfold en; rw [en4]
      rw [e1, ee]
      cases h : ts[b + 1]? with
      | none => rw [runA_end h]; rfl
      | some c =>
        rw [h] at hf
        have es : step .mark 0 dp c = none := by
          show (if isLet c = true then _ else _) = _
          exact if_neg hf
        rw [runA_at h, es]
  · rw [if_neg hq]
    by_cases hf : hl ts[b]? = true
    · obtain ⟨c, hc, hl'⟩ := hl_some hf
      have e2 : runA ts b .beg 0 dp = runA ts (b + 1) .name 1 dp := by
        have es : step .beg 0 dp c = some (.name, 1, dp) := by
          show (if isLet c = true then _ else _) = _
          exact if_pos hl'
        rw [runA_at hc, es]
      have en8 : nl 8 (ts.drop b) = nl 7 (ts.drop (b + 1)) + 1 := by rw [nl_eq, if_neg (by omega), if_pos hf]
      obtain ⟨g1, g2⟩ := run_let (ts := ts) (dp := dp) (M := 8) name_step 7 (b + 1) 1 rfl
      by_cases hbad : bad 8 ts b = true
      · rw [if_pos hbad]
        refine ⟨fun e he => ?_, fun d n1 z => (nomatch z)⟩
        cases he
        unfold bad at hbad
        rw [en8] at hbad
        have hz : nl 7 (ts.drop (b + 1)) = 7 ∧ hl ts[b + 8]? = true := by
          simp at hbad
          exact ⟨by omega, hbad.2⟩
        rw [e2, g1 hz.1 (by rw [show b + 1 + 7 = b + 8 by omega]; exact hz.2)]
        unfold en
        rw [en8, hz.1]
      · rw [if_neg hbad]
        refine ⟨fun e he => (nomatch he), fun d n1 z => ?_⟩
        cases z
        have hz : nl 7 (ts.drop (b + 1)) = 7 → hl ts[b + 1 + 7]? = false := fun q => by
          unfold bad at hbad
          rw [en8] at hbad
          cases hh : hl ts[b + 1 + 7]? with
          | false => rfl
          | true =>
            rw [show b + 1 + 7 = b + 8 by omega] at hh
            exact absurd (by rw [hh, q]; rfl) hbad
        obtain ⟨k1, k2⟩ := g2 hz
        refine ⟨blk_len (en_len hb), blk_no _, .inl ⟨_, rfl, rfl, ?_⟩⟩
        have ee : en 8 ts b = b + 1 + nl 7 (ts.drop (b + 1)) := by
          unfold en
          rw [en8]
          omega
        rw [e2, k1, ee, run_pending (s := .name) (nm := true) rfl (.inr (.inr k2))]
    · have en8 : nl 8 (ts.drop b) = 0 := by rw [nl_eq, if_neg (by omega), if_neg hf]
      have hbad : bad 8 ts b = true := by
        unfold bad
        rw [en8]; rfl
      rw [if_pos hbad]
      refine ⟨fun e he => ?_, fun d n1 z => (nomatch z)⟩
      cases he
      have ee : en 8 ts b = b := by unfold en; rw [en8]; rfl
      rw [ee]
      cases h : ts[b]? with
      | none => rw [runA_end h]; rfl
      | some c =>
        rw [h] at hf
        have es : step .beg 0 dp c = none := by
          show (if isLet c = true then _ else if c = 63 then _ else if c = 32 then _ else _) = _
          rw [if_neg (show ¬ isLet c = true from hf), if_neg (fun z => hq (by rw [h, z])), if_neg (fun z => nb32 (by rw [h, z]))]
        rw [runA_at h, es]
theorem cl_le {ts : T} : ∀ (st : List (List D)) (d : D) (n : Nat) {o : Option D} {n2 : Nat} {st' : List (List D)}, n ≤ ts.length → cl ts st d n = .ok (o, n2, st') → n2 ≤ ts.length ∧ (o = none → n < n2)
  | [], d, n, o, n2, st', hn, h => by
    rw [cl] at h
    cases h
    exact ⟨hn, fun z => nomatch z⟩
  | l :: st, d, n, o, n2, st', hn, h => by
    rw [cl] at h
    split at h
    · rename_i q
      cases h
      have := len_of_some q.1
      exact ⟨by omega, fun _ => by omega⟩
    · split at h
      · rename_i q
        have := len_of_some q
        obtain ⟨h1, h2⟩ := cl_le st _ _ (blk_len (by omega)) h
        exact ⟨h1, fun z => by have := h2 z; have := blk_le (ts := ts) (n := n + 1); omega⟩
      · cases h
theorem lf_lt {ts : T} {n n1 : Nat} {d : D} (h : lf ts n = .ok (d, n1)) : n < n1 := by
  unfold lf at h
  have hb := blk_le (ts := ts) (n := n)
  split at h
  · split at h
    · cases h
    · cases h
      have h1 := blk_le (ts := ts) (n := en 4 ts (blk ts n + 1))
      have h2 : blk ts n + 1 ≤ en 4 ts (blk ts n + 1) := Nat.le_add_right _ _
      omega
  · split at h
    · cases h
    · rename_i q
      cases h
      have h1 := blk_le (ts := ts) (n := en 8 ts (blk ts n))
      have h2 : blk ts n < en 8 ts (blk ts n) := by
        unfold en
        unfold bad at q
        have : nl 8 (ts.drop (blk ts n)) ≠ 0 := fun z => q (by rw [z]; rfl)
        omega
      omega
theorem sim {ts : T} : ∀ (f : Nat) (st : List (List D)) (n : Nat), ts.length < n + f → n ≤ ts.length → runA ts n .beg 0 (lens st) = match rd ts f st n with
    | .error e => .error e
    | .ok (_, n2) => if n2 < ts.length then .error n2 else .ok ()
  | 0, st, n, hf, hn => by omega
  | f + 1, st, n, hf, hn => by
    rw [rd]
    obtain ⟨h1, h2⟩ := sim_leaf (dp := lens st) hn
    cases hl' : lf ts n with
    | error e => exact h1 e hl'
    | ok p =>
      obtain ⟨d, n1⟩ := p
      obtain ⟨hn1, h32, hk⟩ := h2 d n1 hl'
      have hlt := lf_lt hl'
      have close : ∀ nm, (nm = true → ts[n1]? ≠ some 40) → runP ts n1 nm (lens st) = match (match cl ts st d n1 with
          | .error e => .error e
          | .ok (some z, n2, _) => .ok (z, n2)
          | .ok (none, n2, st') => rd ts f st' n2 : Except Nat (D × Nat)) with
          | .error e => .error e
          | .ok (_, n2) => if n2 < ts.length then .error n2 else .ok () := fun nm h40 => by
        rw [simP st d n1 nm h40 h32 hn1]
        cases hc : cl ts st d n1 with
        | error e => rfl
        | ok q =>
          obtain ⟨o, n2, st'⟩ := q
          obtain ⟨c1, c2⟩ := cl_le st d n1 hn1 hc
          cases o with
          | some z => rfl
          | none =>
            have := c2 rfl
            exact sim f st' n2 (by omega) c1
      rcases hk with ⟨xs, ho, hx, he⟩ | ⟨ho, he⟩
      · rw [he]
        by_cases h40 : ts[n1]? = some 40
        · have hlt1 := len_of_some h40
          dsimp only
          rw [if_pos h40, ho]
          dsimp only
          have e2 : runP ts n1 true (lens st) = runA ts (n1 + 1) .beg 0 (lens (xs :: st)) := by
            unfold runP
            rw [h40]
            show runA ts (n1 + 1) .beg 0 (1 :: lens st) = runA ts (n1 + 1) .beg 0 (xs.length :: lens st)
            rw [hx]
          rw [e2]
          exact sim f (xs :: st) (n1 + 1) (by omega) hlt1
        · dsimp only
          rw [if_neg h40]
          exact close true fun _ => h40
      · rw [he]
        dsimp only
        have e3 : (if ts[n1]? = some 40 then opens d else none) = none := by
          split
          · exact ho
          · rfl
        rw [e3]
        exact close false fun z => by cases z
theorem rd_le {ts : T} : ∀ (f : Nat) (st : List (List D)) (n : Nat) {d : D} {n2 : Nat}, n ≤ ts.length → rd ts f st n = .ok (d, n2) → n2 ≤ ts.length
  | 0, st, n, d, n2, hn, h => by cases h
  | f + 1, st, n, d, n2, hn, h => by
    rw [rd] at h
    cases hl' : lf ts n with
    | error e => rw [hl'] at h; cases h
    | ok p =>
      obtain ⟨d1, n1⟩ := p
      obtain ⟨hn1, _, _⟩ := (sim_leaf (dp := []) hn).2 d1 n1 hl'
      rw [hl'] at h
      dsimp only at h
      split at h
      · rename_i xs hx
        have : ts[n1]? = some 40 := by
          cases q : decide (ts[n1]? = some 40) with
          | true => exact of_decide_eq_true q
          | false => rw [if_neg (of_decide_eq_false q)] at hx; cases hx
        exact rd_le f _ _ (len_of_some this) h
      · cases hc : cl ts st d1 n1 with
        | error e => rw [hc] at h; cases h
        | ok q =>
          obtain ⟨o, m2, st'⟩ := q
          obtain ⟨c1, c2⟩ := cl_le st d1 n1 hn1 hc
          rw [hc] at h
          cases o with
          | some z => cases h; exact c1
          | none => exact rd_le f st' m2 c1 h
/-- the reader and the signs -/
theorem read_run (ts : T) : (∀ e, run ts 0 .beg 0 [] = .error e → read ts = .error e) ∧ (run ts 0 .beg 0 [] = .ok () → ∃ d, rd ts (ts.length + 1) [] 0 = .ok (d, ts.length) ∧ read ts = if isPat d = true then .ok d else .error ts.length) := by
  have h := sim (ts := ts) (ts.length + 1) [] 0 (by omega) (by omega)
  have h' : run ts 0 .beg 0 [] = _ := h
  rw [h']
  unfold read
  cases hr : rd ts (ts.length + 1) [] 0 with
  | error e0 => exact ⟨fun e he => by cases he; rfl, fun z => nomatch z⟩
  | ok p =>
    obtain ⟨d, n⟩ := p
    dsimp only
    by_cases hn : n < ts.length
    · rw [if_pos hn, if_pos hn]
      exact ⟨fun e he => by cases he; rfl, fun z => nomatch z⟩
    · rw [if_neg hn, if_neg hn]
      have hle := rd_le _ _ _ (Nat.zero_le _) hr
      have e : n = ts.length := by omega
      subst e
      exact ⟨fun e he => (nomatch he), fun _ => ⟨d, rfl, rfl⟩⟩
end Rd

set_option Elab.async false
set_option linter.all false
set_option maxRecDepth 100000
set_option maxHeartbeats 4000000
/-! A text that is told to its end is one of a pattern with blanks. -/
namespace Rd
open PySem L2 DL AL LM Ma LMs
variable [Wd]
def acc : T → Sg → Nat → List Nat → Bool
  | [], s, _, dp => fin s && dp.isEmpty
  | c :: l, s, m, dp => match step s m dp c with
    | none => false
    | some (s', m', dp') => acc l s' m' dp'
theorem run_acc : ∀ (l : T) (n : Nat) (s : Sg) (m : Nat) (dp : List Nat), run l n s m dp = .ok () → acc l s m dp = true
  | [], n, s, m, dp, h => by
    unfold run at h
    split at h
    · rename_i q
      show (fin s && dp.isEmpty) = true
      rw [q.1, q.2]; rfl
    · cases h
  | c :: l, n, s, m, dp, h => by
    unfold run at h
    unfold acc
    cases e : step s m dp c with
    | none => rw [e] at h; cases h
    | some p =>
      obtain ⟨s', m', dp'⟩ := p
      rw [e] at h
      exact run_acc l (n + 1) s' m' dp' h
/-- letters -/
theorem acc_let {dp : List Nat} {s : Sg} {M : Nat} (hs : ∀ m c, isLet c = true → step s m dp c = if m < M then some (s, m + 1, dp) else none) : ∀ (l : T) (m : Nat), m ≤ M → acc l s m dp = true → ∃ w r, l = w ++ r ∧ (∀ c, c ∈ w → isLet c = true) ∧ m + w.length ≤ M ∧ hl r.head? = false ∧ acc r s (m + w.length) dp = true
  | [], m, hm, h => ⟨[], [], rfl, (fun c hc => by simp at hc), by simpa using hm, rfl, h⟩
  | c :: l, m, hm, h => by
    cases hc : isLet c with
    | false => exact ⟨[], c :: l, rfl, (fun c hc => by simp at hc), by simpa using hm, hc, h⟩
    | true =>
      have h' := h
      unfold acc at h'
      rw [hs m c hc] at h'
      by_cases hlt : m < M
      · rw [if_pos hlt] at h'
        obtain ⟨w, r, e1, e2, e3, e4, e5⟩ := acc_let hs l (m + 1) hlt h'
        refine ⟨c :: w, r, by rw [e1]; rfl, fun x hx => ?_, by rw [List.length_cons]; omega, e4, ?_⟩
        · rcases List.mem_cons.mp hx with rfl | hx
          · exact hc
          · exact e2 x hx
        · rw [List.length_cons, show m + (w.length + 1) = m + 1 + w.length by omega]
          exact e5
      · rw [if_neg hlt] at h'
        cases h'
/-- behind a leaf -/
def accT (nm : Bool) (dp : List Nat) : T → Bool
  | [] => dp.isEmpty
  | c :: l => match tail nm dp c with
    | none => false
    | some (s', m', dp') => acc l s' m' dp'
theorem acc_pend {dp : List Nat} {nm : Bool} : ∀ (l : T) (s : Sg) (m : Nat), kind s nm → (s = .head ∨ s = .beh ∨ hl l.head? = false) → acc l s m dp = true → ∃ i r, l = bl i ++ r ∧ r.head? ≠ some 32 ∧ accT nm dp r = true
  | [], s, m, hk, hs, h => by
    refine ⟨0, [], rfl, by simp, ?_⟩
    have : (fin s && dp.isEmpty) = true := h
    rw [Bool.and_eq_true] at this
    exact this.2
  | c :: l, s, m, hkd, hs, h => by
    have st : step s m dp c = tail nm dp c := by
      cases s with
      | beg => exact hkd.elim
      | mark => exact hkd.elim
      | hole =>
        have : isLet c = false := by rcases hs with h | h | h; cases h; cases h; exact h
        have hn : nm = false := hkd
        subst hn
        show (if isLet c = true then _ else _) = _
        rw [this]; rfl
      | name =>
        have : isLet c = false := by rcases hs with h | h | h; cases h; cases h; exact h
        have hn : nm = true := hkd
        subst hn
        show (if isLet c = true then _ else _) = _
        rw [this]; rfl
      | head => have hn : nm = true := hkd; subst hn; rfl
      | beh => have hn : nm = false := hkd; subst hn; rfl
    have h' := h
    unfold acc at h'
    rw [st] at h'
    by_cases e : c = 32
    · subst e
      have et : tail nm dp 32 = some (if nm = true then .head else .beh, 0, dp) := by unfold tail; rw [if_pos rfl]
      rw [et] at h'
      obtain ⟨i, r, e1, e2, e3⟩ := acc_pend (nm := nm) l (if nm = true then .head else .beh) 0 (by cases nm <;> rfl) (by cases nm; exact .inr (.inl rfl); exact .inl rfl) h'
      exact ⟨i + 1, r, by rw [e1]; rfl, e2, e3⟩
    · exact ⟨0, c :: l, rfl, fun z => e (Option.some.inj z), h'⟩
theorem accT_beh {dp : List Nat} : ∀ l : T, accT false dp l = acc l .beh 0 dp
  | [] => rfl
  | c :: l => rfl
theorem accT_same {dp : List Nat} : ∀ l : T, l.head? ≠ some 40 → l.head? ≠ some 32 → accT true dp l = accT false dp l
  | [], _, _ => rfl
  | c :: l, h, h2 => by
    have hc : c ≠ 40 := fun z => h (by rw [z]; rfl)
    have hc2 : c ≠ 32 := fun z => h2 (by rw [z]; rfl)
    have : tail true dp c = tail false dp c := by
      unfold tail
      rw [if_neg hc2, if_neg hc2, if_neg (show ¬ (c = 40 ∧ true = true) from fun z => hc z.1), if_neg (show ¬ (c = 40 ∧ false = true) from fun z => hc z.1)]
    show (match tail true dp c with | none => false | some (s', m', dp') => acc l s' m' dp') = match tail false dp c with | none => false | some (s', m', dp') => acc l s' m' dp'
    rw [this]
theorem to_str (w : T) : (⟨w.toArray⟩ : Str).cps.toList = w := by simp
/-- a part, and the parts behind an open bracket -/
theorem parse : ∀ N : Nat, (∀ (l : T) (dp : List Nat), l.length ≤ N → acc l .beg 0 dp = true → ∃ d j u i r, l = bl j ++ (u ++ (bl i ++ r)) ∧ Lt d u ∧ r.head? ≠ some 32 ∧ acc r .beh 0 dp = true ∧ r.length < l.length) ∧
    ∀ (l : T) (k : Nat) (dp : List Nat), l.length ≤ N → 1 ≤ k → k ≤ 3 → acc l .beg 0 (k :: dp) = true → ∃ ps v r, l = v ++ r ∧ Lts ps v ∧ ps.length + k ≤ 4 ∧ acc r .beh 0 dp = true ∧ r.length < l.length
  | 0 => by
    have none0 : ∀ (l : T) (dp : List Nat), l.length ≤ 0 → acc l .beg 0 dp = true → False := fun l dp hl h => by
      have : l = [] := List.length_eq_zero_iff.mp (by omega)
      subst this
      exact absurd (show (fin .beg && dp.isEmpty) = true from h) (by simp [fin])
    exact ⟨fun l dp hl h => (none0 l dp hl h).elim, fun l k dp hl _ _ h => (none0 l _ hl h).elim⟩
  | N + 1 => by
    obtain ⟨ihP, ihQ⟩ := parse N
    have hP : ∀ (l : T) (dp : List Nat), l.length ≤ N + 1 → acc l .beg 0 dp = true → ∃ d j u i r, l = bl j ++ (u ++ (bl i ++ r)) ∧ Lt d u ∧ r.head? ≠ some 32 ∧ acc r .beh 0 dp = true ∧ r.length < l.length := fun l dp hl h => by
      cases l with
      | nil => exact absurd (show (fin .beg && dp.isEmpty) = true from h) (by simp [fin])
      | cons c l =>
        rw [List.length_cons] at hl
        have h' := h
        unfold acc at h'
        unfold step at h'
        dsimp only at h'
        by_cases hlet : isLet c = true
        · rw [if_pos hlet] at h'
          dsimp only at h'
          obtain ⟨w, r, e1, e2, e3, e4, e5⟩ := acc_let (dp := dp) (M := 8) name_step l 1 (by omega) h'
          obtain ⟨i, r', f1, f2, f3⟩ := acc_pend (nm := true) r .name _ rfl (.inr (.inr e4)) e5
          have hwo : Wo 8 (c :: w) := ⟨fun x hx => by
            rcases List.mem_cons.mp hx with rfl | hx
            · exact hlet
            · exact e2 x hx, by simp, by rw [List.length_cons]; omega⟩
          by_cases h40 : r'.head? = some 40
          · obtain ⟨l2, rfl⟩ : ∃ l2, r' = 40 :: l2 := by
              cases r' with
              | nil => cases h40
              | cons x l2 => cases h40; exact ⟨l2, rfl⟩
            have f4 : acc l2 .beg 0 (1 :: dp) = true := f3
            have hlen : l2.length < l.length := by rw [e1, f1]; simp; omega
            obtain ⟨ps, v, r2, g1, g2, g3, g4, g5⟩ := ihQ l2 1 dp (by omega) (by omega) (by omega) f4
            obtain ⟨i2, r3, k1, k2, k3⟩ := acc_pend (nm := false) r2 .beh 0 rfl (.inr (.inl rfl)) g4
            refine ⟨_, 0, _, i2, r3, ?_, Lt.comp (j := i) hwo (by omega) g2, k2, by rw [← accT_beh]; exact k3, ?_⟩
            · rw [e1, f1, g1, k1]
              simp
            · have : r3.length ≤ r2.length := by rw [k1]; simp
              rw [List.length_cons]
              omega
          · rw [accT_same r' h40 f2, accT_beh] at f3
            refine ⟨_, 0, _, i, r', ?_, Lt.name hwo, f2, f3, ?_⟩
            · rw [e1, f1]
              simp
            · rw [List.length_cons, e1, f1]
              simp
              omega
        · rw [if_neg hlet] at h'
          by_cases h63 : c = 63
          · subst h63
            rw [if_pos rfl] at h'
            dsimp only at h'
            -- the first letter
            cases l with
            | nil => exact absurd (show (fin .mark && dp.isEmpty) = true from h') (by simp [fin])
            | cons c2 l =>
              unfold acc at h'
              unfold step at h'
              dsimp only at h'
              by_cases hl2 : isLet c2 = true
              · rw [if_pos hl2, if_pos (by omega)] at h'
                dsimp only at h'
                obtain ⟨w, r, e1, e2, e3, e4, e5⟩ := acc_let (dp := dp) (M := 4) hole_step l 1 (by omega) h'
                obtain ⟨i, r', f1, f2, f3⟩ := acc_pend (nm := false) r .hole _ rfl (.inr (.inr e4)) e5
                have hwo : Wo 4 (c2 :: w) := ⟨fun x hx => by
                  rcases List.mem_cons.mp hx with rfl | hx
                  · exact hl2
                  · exact e2 x hx, by simp, by rw [List.length_cons]; omega⟩
                refine ⟨_, 0, _, i, r', ?_, Lt.hole hwo, f2, by rw [← accT_beh]; exact f3, ?_⟩
                · rw [e1, f1]
                  simp
                · rw [List.length_cons, List.length_cons, e1, f1]
                  simp
                  omega
              · rw [if_neg hl2] at h'
                cases h'
          · rw [if_neg h63] at h'
            by_cases h32 : c = 32
            · subst h32
              rw [if_pos rfl] at h'
              dsimp only at h'
              obtain ⟨d, j, u, i, r, e1, e2, e3, e4, e5⟩ := ihP l dp (by omega) h'
              exact ⟨d, j + 1, u, i, r, by rw [e1]; rfl, e2, e3, e4, by rw [List.length_cons]; omega⟩
            · rw [if_neg h32] at h'
              cases h'
    refine ⟨hP, fun l k dp hl hk1 hk3 h => ?_⟩
    obtain ⟨d, j, u, i, r, e1, e2, e3, e4, e5⟩ := hP l (k :: dp) hl h
    cases r with
    | nil => exact absurd (show (fin .beh && (k :: dp).isEmpty) = true from e4) (by simp)
    | cons c r =>
      have hc : c ≠ 32 := fun z => e3 (by rw [z]; rfl)
      rw [List.length_cons] at e5
      have e4' := e4
      unfold acc at e4'
      have et : step .beh 0 (k :: dp) c = if c = 44 then (if k < 3 then some (.beg, 0, (k + 1) :: dp) else none) else if c = 41 then some (.beh, 0, dp) else none := by
        show tail false (k :: dp) c = _
        unfold tail
        rw [if_neg hc, if_neg (fun z => by cases z.2)]
      rw [et] at e4'
      by_cases h44 : c = 44
      · subst h44
        rw [if_pos rfl] at e4'
        by_cases hk : k < 3
        · rw [if_pos hk] at e4'
          dsimp only at e4'
          obtain ⟨ps, v, r2, g1, g2, g3, g4, g5⟩ := ihQ r (k + 1) dp (by omega) (by omega) (by omega) e4'
          refine ⟨d :: ps, _, r2, ?_, Lts.cons (i := i) (j := j) e2 g2, by rw [List.length_cons]; omega, g4, by omega⟩
          rw [e1, g1]
          simp
        · rw [if_neg hk] at e4'
          cases e4'
      · rw [if_neg h44] at e4'
        by_cases h41 : c = 41
        · subst h41
          rw [if_pos rfl] at e4'
          refine ⟨[d], _, r, ?_, Lts.one (i := i) (j := j) e2, by simp; omega, e4', by omega⟩
          rw [e1]
          simp
        · rw [if_neg h41] at e4'
          cases e4'
theorem parse_all {ts : T} (h : run ts 0 .beg 0 [] = .ok ()) : ∃ d j u i, ts = bl j ++ (u ++ bl i) ∧ Lt d u := by
  obtain ⟨d, j, u, i, r, e1, e2, e3, e4, _⟩ := (parse ts.length).1 ts [] (Nat.le_refl _) (run_acc _ _ _ _ _ h)
  have hr : r = [] := by
    cases r with
    | nil => rfl
    | cons c r =>
      exfalso
      have hc : c ≠ 32 := fun z => e3 (by rw [z]; rfl)
      unfold acc at e4
      have : step .beh 0 [] c = none := by
        show tail false [] c = none
        unfold tail
        rw [if_neg hc, if_neg (fun z => by cases z.2)]
        split
        · rfl
        · split <;> rfl
      rw [this] at e4
      cases e4
  subst hr
  exact ⟨d, j, u, i, by rw [e1]; simp, e2⟩
/-- the reader reads it -/
theorem rd_text {d : D} {u : T} {j i : Nat} (h : Lt d u) : rd (bl j ++ (u ++ bl i)) ((bl j ++ (u ++ bl i)).length + 1) [] 0 = .ok (d, (bl j ++ (u ++ bl i)).length) := by
  obtain ⟨c, hc, hrd⟩ := rdA h (ts := bl j ++ (u ++ bl i)) (n := 0) (j := j) (i := i) (r := []) (by simp) ⟨by simp, rfl, by simp⟩
  have hl : (bl j ++ (u ++ bl i)).length = j + (u.length + i) := by simp
  have e : (bl j ++ (u ++ bl i)).length + 1 = c + ((bl j ++ (u ++ bl i)).length + 1 - c) := by omega
  rw [e, hrd]
  unfold after
  rw [cl]
  dsimp only
  rw [hl, Nat.zero_add]
theorem run_text {ts : T} (h : run ts 0 .beg 0 [] = .ok ()) : ∃ d j u i, ts = bl j ++ (u ++ bl i) ∧ Lt d u ∧ read ts = if isPat d = true then .ok d else .error ts.length := by
  obtain ⟨d, j, u, i, e, hl⟩ := parse_all h
  refine ⟨d, j, u, i, e, hl, ?_⟩
  obtain ⟨d', h1, h2⟩ := (read_run ts).2 h
  subst e
  rw [rd_text hl] at h1
  cases h1
  exact h2
end Rd

set_option Elab.async false
set_option linter.all false
set_option maxRecDepth 100000
set_option maxHeartbeats 4000000
/-! What a text with blanks tells of its pattern: the text without them, its depth, its size. -/
namespace Rd
open PySem L2 DL AL LM Ma LMs
variable [Wd]
theorem wo_letters {m : Nat} {w : T} (h : Wo m w) : lettersOk ⟨w.toArray⟩ m = true := by
  refine lettersOk_of ?_ ?_ fun c hc => ?_
  · show 1 ≤ w.toArray.size
    simpa using h.pos
  · show ((w.toArray.size : Nat) : Int) ≤ m
    have := h.le
    simp
    exact_mod_cast this
  · rw [to_str] at hc
    exact h.all c hc
theorem wo_isHole {w : T} (h : Wo 4 w) : isHole (.str ⟨(63 :: w).toArray⟩) = true := by
  have e : (⟨(63 :: w).toArray⟩ : Str).cps.toList = 63 :: w := to_str _
  show (decide (cutS (⟨(63 :: w).toArray⟩ : Str) none (some 1) = "?") && lettersOk (cutS (⟨(63 :: w).toArray⟩ : Str) (some 1) none) 4) = true
  rw [cut_head e, cut_tail e, show lettersOk (⟨List.toArray w⟩ : Str) 4 = true from wo_letters h, quest]
  decide
theorem wo_short {w : T} (h : Wo 4 w) : short (.str ⟨(63 :: w).toArray⟩) := by
  refine ⟨?_, strOk_of fun c hc => ?_⟩
  · have := h.le
    refine small ?_
    show (63 :: w).toArray.size ≤ 1000
    simp
    omega
  · rw [to_str] at hc
    rcases List.mem_cons.mp hc with rfl | hc
    · decide
    · exact isLet_small (h.all c hc)
mutual
theorem lt_wf : ∀ {d : D} {u : T}, Lt d u → ∀ n, u.length ≤ n → wf n d
  | _, _, .hole hw, n, hn => by
    have hh := wo_isHole hw
    cases n <;> exact ⟨wo_short hw, hole_len hh, hh⟩
  | _, _, .name hw, n, hn => by
    have := hw.pos
    obtain ⟨n, rfl⟩ : ∃ j, n = j + 1 := ⟨n - 1, by omega⟩
    exact ⟨wo_letters hw, by simp, fun p hp => by cases hp⟩
  | _, _, .comp (w := w) (v := v) hw hl hs, n, hn => by
    have := hw.pos
    rw [List.length_append, List.length_append, List.length_cons] at hn
    obtain ⟨n, rfl⟩ : ∃ j, n = j + 1 := ⟨n - 1, by omega⟩
    exact ⟨wo_letters hw, hl, lts_wf hs n (by omega)⟩
theorem lts_wf : ∀ {ds : List D} {v : T}, Lts ds v → ∀ n, v.length ≤ n → ∀ p, p ∈ ds → wf n p
  | _, _, .one h, n, hn => fun p hp => by
    rw [List.mem_singleton.mp hp]
    exact lt_wf h n (by simp at hn; omega)
  | _, _, .cons h hs, n, hn => fun p hp => by
    rcases List.mem_cons.mp hp with e | hp
    · rw [e]
      exact lt_wf h n (by simp at hn; omega)
    · exact lts_wf hs n (by simp at hn; omega) p hp
end
/-! ### the text without blanks -/
def nob (l : T) : T := l.filter fun c => decide (c ≠ 32)
theorem nob_app (a b : T) : nob (a ++ b) = nob a ++ nob b := List.filter_append ..
theorem nob_bl (i : Nat) : nob (bl i) = [] := by
  unfold nob
  rw [List.filter_eq_nil_iff]
  intro c hc
  rw [(List.mem_replicate.mp hc).2]
  decide
theorem nob_word {w : T} (h : ∀ c, c ∈ w → isLet c = true) : nob w = w := by
  unfold nob
  rw [List.filter_eq_self]
  intro c hc
  exact decide_eq_true (let_ne (h c hc)).1
theorem nob_cons {c : Nat} {l : T} (h : c ≠ 32) : nob (c :: l) = c :: nob l := by
  unfold nob
  rw [List.filter_cons, decide_eq_true h]
  rfl
theorem txt_one (n : Nat) (w : Str) : txt (n + 1) (.tup [.str w]) = w := rfl
theorem op_l : (("(" : Str)).cps.toList = [40] := by decide +kernel
theorem cp_l : ((")" : Str)).cps.toList = [41] := by decide +kernel
theorem cm_l : (("," : Str)).cps.toList = [44] := by decide +kernel
mutual
theorem lt_txt : ∀ {d : D} {u : T}, Lt d u → ∀ n, u.length ≤ n → (txt n d).cps.toList = nob u
  | _, _, .hole hw, n, hn => by
    rw [txt_str, to_str, nob_cons (by decide), nob_word hw.all]
  | _, _, .name hw, n, hn => by
    have := hw.pos
    obtain ⟨n, rfl⟩ : ∃ j, n = j + 1 := ⟨n - 1, by omega⟩
    rw [txt_one, to_str, nob_word hw.all]
  | _, _, .comp (w := w) (v := v) (ps := ps) hw hl hs, n, hn => by
    have := hw.pos
    rw [List.length_append, List.length_append, List.length_cons] at hn
    obtain ⟨n, rfl⟩ : ∃ j, n = j + 1 := ⟨n - 1, by omega⟩
    have h := lts_txt hs n (by omega)
    have hne := hs.ne
    cases ps with
    | nil => exact absurd hne (by simp)
    | cons p ps =>
      rw [txt_cons, app_toList, app_toList, app_toList, to_str, join_list, List.map_map, op_l, cp_l, cm_l, nob_app, nob_word hw.all, nob_app, nob_bl, List.nil_append, nob_cons (by decide), ← h]
      simp
theorem lts_txt : ∀ {ds : List D} {v : T}, Lts ds v → ∀ n, v.length ≤ n → TL.joinL [44] (ds.map ((fun p => p.cps.toList) ∘ txt n)) ++ [41] = nob v
  | _, _, .one h, n, hn => by
    rw [nob_app, nob_bl, List.nil_append, nob_app, ← lt_txt h n (by simp at hn; omega), nob_app, nob_bl, List.nil_append]
    rfl
  | _, _, .cons (d := d) (ds := ds) h hs, n, hn => by
    have h1 := lt_txt h n (by simp at hn; omega)
    have h2 := lts_txt hs n (by simp at hn; omega)
    have hne := hs.ne
    rw [nob_app, nob_bl, List.nil_append, nob_app, ← h1, nob_app, nob_bl, List.nil_append, nob_cons (by decide), ← h2]
    cases ds with
    | nil => exact absurd hne (by simp)
    | cons e es =>
      show ((txt n d).cps.toList ++ ([44] ++ TL.joinL [44] ((e :: es).map ((fun p => p.cps.toList) ∘ txt n)))) ++ [41] = _
      simp
end
/-! ### how deep -/
def bf (p : Int × Int) (c : Nat) : Int × Int := (p.1 + (if c = 40 then 1 else if c = 41 then -1 else 0), max p.2 (p.1 + (if c = 40 then 1 else if c = 41 then -1 else 0)))
theorem bf_plain : ∀ (l : T) (x y : Int), x ≤ y → (∀ c, c ∈ l → c ≠ 40 ∧ c ≠ 41) → l.foldl bf (x, y) = (x, y)
  | [], x, y, _, _ => rfl
  | c :: l, x, y, h, hc => by
    have h1 := hc c List.mem_cons_self
    rw [List.foldl_cons]
    have e : bf (x, y) c = (x, y) := by
      unfold bf
      rw [if_neg h1.1, if_neg h1.2]
      show (x + 0, max y (x + 0)) = (x, y)
      rw [Int.add_zero, Int.max_eq_left h]
    rw [e]
    exact bf_plain l x y h fun z hz => hc z (List.mem_cons_of_mem _ hz)
theorem bf_bl (i : Nat) (x y : Int) (h : x ≤ y) : (bl i).foldl bf (x, y) = (x, y) := bf_plain _ x y h fun c hc => by rw [(List.mem_replicate.mp hc).2]; decide
theorem let_par {c : Nat} (h : isLet c = true) : c ≠ 40 ∧ c ≠ 41 := by
  constructor <;> (intro z; subst z; revert h; decide +kernel)
theorem bf_word {w : T} (h : ∀ c, c ∈ w → isLet c = true) (x y : Int) (hx : x ≤ y) : w.foldl bf (x, y) = (x, y) := bf_plain w x y hx fun c hc => let_par (h c hc)
theorem maxL_cons (a : Int) (l : List Int) (h : l ≠ []) : maxL (a :: l) = max a (maxL l) := by
  cases l with
  | nil => exact absurd rfl h
  | cons b l => rfl
mutual
theorem lt_bf : ∀ {d : D} {u : T}, Lt d u → ∀ (n : Nat) (x y : Int), u.length ≤ n → x ≤ y → u.foldl bf (x, y) = (x, max y (x + dp n d - 1))
  | _, _, .hole (w := w) hw, n, x, y, hn, hx => by
    rw [dp_str, bf_plain _ x y hx (fun c hc => by
      rcases List.mem_cons.mp hc with rfl | hc
      · decide
      · exact let_par (hw.all c hc))]
    rw [Int.max_eq_left (by omega)]
  | _, _, .name hw, n, x, y, hn, hx => by
    have := hw.pos
    obtain ⟨n, rfl⟩ : ∃ j, n = j + 1 := ⟨n - 1, by omega⟩
    rw [bf_word hw.all x y hx]
    show (x, y) = (x, max y (x + 1 - 1))
    rw [Int.max_eq_left (by omega)]
  | _, _, .comp (w := w) (v := v) (ps := ps) hw hl hs, n, x, y, hn, hx => by
    have := hw.pos
    rw [List.length_append, List.length_append, List.length_cons] at hn
    obtain ⟨n, rfl⟩ : ∃ j, n = j + 1 := ⟨n - 1, by omega⟩
    rw [List.foldl_append, bf_word hw.all x y hx, List.foldl_append, bf_bl _ x y hx, List.foldl_cons]
    have e : bf (x, y) 40 = (x + 1, max y (x + 1)) := rfl
    rw [e, lts_bf hs n x (max y (x + 1)) (by omega) (by omega)]
    have hne := hs.ne
    cases ps with
    | nil => exact absurd hne (by simp)
    | cons p ps =>
      have h1 : 1 ≤ maxL ((p :: ps).map (dp n)) := Int.le_trans (dp_pos n p) (maxL_le (by simp))
      show _ = (x, max y (x + (1 + maxL ((p :: ps).map (dp n))) - 1))
      congr 1
      omega
theorem lts_bf : ∀ {ds : List D} {v : T}, Lts ds v → ∀ (n : Nat) (x y : Int), v.length ≤ n → x + 1 ≤ y → v.foldl bf (x + 1, y) = (x, max y (x + maxL (ds.map (dp n))))
  | _, _, .one (d := d) h, n, x, y, hn, hx => by
    rw [List.foldl_append, bf_bl _ (x + 1) y hx, List.foldl_append, lt_bf h n (x + 1) y (by simp at hn; omega) hx, List.foldl_append, bf_bl _ _ _ (by omega)]
    show (x + 1 + -1, max (max y (x + 1 + dp n d - 1)) (x + 1 + -1)) = (x, max y (x + dp n d))
    have := dp_pos n d
    congr 1 <;> omega
  | _, _, .cons (d := d) (ds := ds) h hs, n, x, y, hn, hx => by
    have hp := dp_pos n d
    rw [List.foldl_append, bf_bl _ (x + 1) y hx, List.foldl_append, lt_bf h n (x + 1) y (by simp at hn; omega) hx, List.foldl_append, bf_bl _ _ _ (by omega), List.foldl_cons]
    have e : bf (x + 1, max y (x + 1 + dp n d - 1)) 44 = (x + 1, max y (x + dp n d)) := by
      show (x + 1 + 0, max (max y (x + 1 + dp n d - 1)) (x + 1 + 0)) = _
      congr 1 <;> omega
    have hne := hs.ne
    rw [e, lts_bf hs n x _ (by simp at hn; omega) (by omega), List.map_cons, maxL_cons _ _ (by intro z; rw [List.map_eq_nil_iff] at z; rw [z] at hne; exact absurd hne (by simp))]
    congr 1
    omega
end
/-! ### how many words -/
def sep (c : Nat) : Bool := decide (c = 32 ∨ c = 40 ∨ c = 41 ∨ c = 44)
def cw (p : Nat → Bool) : Bool → T → Nat
  | _, [] => 0
  | b, c :: l => if p c = true then cw p false l else (if b = true then 0 else 1) + cw p true l
theorem let_sep {c : Nat} (h : isLet c = true) : sep c = false := by
  unfold sep
  refine decide_eq_false fun z => ?_
  rcases z with rfl | rfl | rfl | rfl <;> (revert h; decide +kernel)
theorem cw_in {p : Nat → Bool} : ∀ (w r : T), (∀ c, c ∈ w → p c = false) → cw p true (w ++ r) = cw p true r
  | [], r, _ => rfl
  | c :: w, r, h => by
    show (if p c = true then _ else 0 + cw p true (w ++ r)) = _
    rw [if_neg (by rw [h c List.mem_cons_self]; exact Bool.false_ne_true), Nat.zero_add]
    exact cw_in w r fun x hx => h x (List.mem_cons_of_mem _ hx)
theorem cw_word {p : Nat → Bool} (w r : T) (h0 : 1 ≤ w.length) (h : ∀ c, c ∈ w → p c = false) : cw p false (w ++ r) = 1 + cw p true r := by
  cases w with
  | nil => exact absurd h0 (by simp)
  | cons c w =>
    show (if p c = true then _ else 1 + cw p true (w ++ r)) = _
    rw [if_neg (by rw [h c List.mem_cons_self]; exact Bool.false_ne_true), cw_in w r fun x hx => h x (List.mem_cons_of_mem _ hx)]
theorem cw_bl {p : Nat → Bool} (hp : p 32 = true) : ∀ (i : Nat) (r : T), cw p false (bl i ++ r) = cw p false r
  | 0, r => rfl
  | i + 1, r => by
    show (if p 32 = true then cw p false (bl i ++ r) else _) = _
    rw [if_pos hp]
    exact cw_bl hp i r
def sepH (r : T) : Prop := r = [] ∨ ∃ c l, r = c :: l ∧ sep c = true
theorem cw_sepH {r : T} (h : sepH r) : cw sep true r = cw sep false r := by
  rcases h with rfl | ⟨c, l, rfl, hc⟩
  · rfl
  · show (if sep c = true then _ else _) = (if sep c = true then _ else _)
    rw [if_pos hc, if_pos hc]
theorem sepH_bl (i : Nat) {r : T} (h : sepH r) : sepH (bl i ++ r) := by
  cases i with
  | zero => exact h
  | succ i => exact .inr ⟨32, _, rfl, rfl⟩
mutual
theorem lt_cw : ∀ {d : D} {u : T}, Lt d u → ∀ (n : Nat) (r : T), u.length ≤ n → sepH r → ((cw sep false (u ++ r) : Nat) : Int) = sz n d + (cw sep false r : Nat)
  | _, _, .hole (w := w) hw, n, r, hn, hr => by
    rw [sz_str, cw_word (63 :: w) r (by simp) (fun c hc => by
      rcases List.mem_cons.mp hc with rfl | hc
      · decide
      · exact let_sep (hw.all c hc)), cw_sepH hr]
    omega
  | _, _, .name hw, n, r, hn, hr => by
    have := hw.pos
    obtain ⟨n, rfl⟩ : ∃ j, n = j + 1 := ⟨n - 1, by omega⟩
    rw [cw_word _ r hw.pos fun c hc => let_sep (hw.all c hc), cw_sepH hr]
    show _ = (1 + 0 : Int) + _
    omega
  | _, _, .comp (w := w) (v := v) (ps := ps) (j := j) hw hl hs, n, r, hn, hr => by
    have := hw.pos
    rw [List.length_append, List.length_append, List.length_cons] at hn
    obtain ⟨n, rfl⟩ : ∃ j, n = j + 1 := ⟨n - 1, by omega⟩
    have e : (w ++ (bl j ++ 40 :: v)) ++ r = w ++ (bl j ++ (40 :: (v ++ r))) := by simp
    have e2 : cw sep false (40 :: (v ++ r)) = cw sep false (v ++ r) := rfl
    rw [e, cw_word _ _ hw.pos fun c hc => let_sep (hw.all c hc), cw_sepH (sepH_bl j (.inr ⟨40, _, rfl, rfl⟩)), cw_bl rfl, e2]
    have h := lts_cw hs n r (by omega)
    show _ = 1 + (ps.map (sz n)).sum + _
    omega
theorem lts_cw : ∀ {ds : List D} {v : T}, Lts ds v → ∀ (n : Nat) (r : T), v.length ≤ n → ((cw sep false (v ++ r) : Nat) : Int) = (ds.map (sz n)).sum + (cw sep false r : Nat)
  | _, _, .one (d := d) (u := u) (i := i) (j := j) h, n, r, hn => by
    have e : (bl j ++ (u ++ (bl i ++ [41]))) ++ r = bl j ++ (u ++ (bl i ++ (41 :: r))) := by simp
    have e2 : cw sep false (41 :: r) = cw sep false r := rfl
    rw [e, cw_bl rfl, lt_cw h n _ (by simp at hn; omega) (sepH_bl i (.inr ⟨41, _, rfl, rfl⟩)), cw_bl rfl, e2]
    simp
  | _, _, .cons (d := d) (u := u) (v := v) (ds := ds) (i := i) (j := j) h hs, n, r, hn => by
    have e : (bl j ++ (u ++ (bl i ++ 44 :: v))) ++ r = bl j ++ (u ++ (bl i ++ (44 :: (v ++ r)))) := by simp
    have e2 : cw sep false (44 :: (v ++ r)) = cw sep false (v ++ r) := rfl
    rw [e, cw_bl rfl, lt_cw h n _ (by simp at hn; omega) (sepH_bl i (.inr ⟨44, _, rfl, rfl⟩)), cw_bl rfl, e2, lts_cw hs n r (by simp at hn; omega), List.map_cons, List.sum_cons]
    omega
end
/-- the bounds, by the signs -/
def bnd (ts : T) : Bool := decide ((ts.foldl bf (1, 1)).2 < 6) && decide (((cw sep false ts : Nat) : Int) < 31)
theorem bnd_pat {d : D} {u : T} {j i : Nat} (h : Lt d u) : bnd (bl j ++ (u ++ bl i)) = isPat d := by
  have hw := lt_wf h u.length (Nat.le_refl _)
  have e1 : ((bl j ++ (u ++ bl i)).foldl bf (1, 1)).2 = dp u.length d := by
    rw [List.foldl_append, bf_bl j 1 1 (by omega), List.foldl_append, lt_bf h u.length 1 1 (Nat.le_refl _) (by omega), bf_bl i _ _ (by omega)]
    have := dp_pos u.length d
    show max (1 : Int) (1 + dp u.length d - 1) = _
    omega
  have e2 : ((cw sep false (bl j ++ (u ++ bl i)) : Nat) : Int) = sz u.length d := by
    rw [cw_bl rfl, lt_cw h u.length (bl i) (Nat.le_refl _) (by have := sepH_bl i (r := []) (.inl rfl); rwa [List.append_nil] at this)]
    have : cw sep false (bl i) = 0 := by
      have := cw_bl (p := sep) rfl i []
      rwa [List.append_nil] at this
    rw [this]
    simp
  have e3 : isPat d = due true u.length d := both_same true (wf_fit hw)
  unfold bnd
  rw [e1, e2, e3]
  unfold due
  rw [wf_shp hw, Bool.true_and, Bool.and_comm]
theorem txt_up : ∀ {n : Nat} {d : D}, wf n d → txt (n + 1) d = txt n d
  | n, d, h => by
    rcases h.cases with ⟨x, rfl, _⟩ | ⟨m, w, ps, rfl, rfl, hw, hl, hps⟩
    · rw [txt_str, txt_str]
    · cases ps with
      | nil => rfl
      | cons p ps =>
        rw [txt_cons, txt_cons, List.map_congr_left fun q hq => txt_up (hps q hq)]
theorem txt_le {n m : Nat} {d : D} (h : wf n d) (hm : n ≤ m) : txt m d = txt n d := by
  induction hm with
  | refl => rfl
  | step hm ih => rw [txt_up (wf_le h hm), ih]
/-- all that is told of a text -/
theorem told_text (ts : T) : (∀ e, run ts 0 .beg 0 [] = .error e → read ts = .error e) ∧ (run ts 0 .beg 0 [] = .ok () → (bnd ts = false → read ts = .error ts.length) ∧ (bnd ts = true → ∃ d, read ts = .ok d ∧ wf 5 d ∧ isPat d = true ∧ (txt 5 d).cps.toList = nob ts)) := by
  refine ⟨(read_run ts).1, fun h => ?_⟩
  obtain ⟨d, j, u, i, rfl, hl, hr⟩ := run_text h
  rw [bnd_pat hl]
  refine ⟨fun hb => by rw [hr, hb]; rfl, fun hb => ⟨d, by rw [hr, hb]; rfl, ?_⟩⟩
  have hw := lt_wf hl u.length (Nat.le_refl _)
  have hw5 := isPat_wf (wf_fit hw) hb
  refine ⟨hw5, hb, ?_⟩
  rw [nob_app, nob_bl, List.nil_append, nob_app, nob_bl, List.append_nil, ← lt_txt hl (max 5 u.length) (by omega), txt_le hw5 (m := max 5 u.length) (by omega)]
end Rd

set_option Elab.async false
set_option linter.all false
set_option maxRecDepth 100000
set_option maxHeartbeats 4000000
/-! replace and split, on the signs. -/
namespace Rd
open PySem L2 DL AL LM Ma LMs
variable [Wd]
open PySem.StrLaws in
theorem repl_one (a : Nat) (z : T) : ∀ l : T, replL [a] z l = l.flatMap fun c => if c = a then z else [c]
  | [] => replL_nil
  | c :: l => by
    rw [List.flatMap_cons]
    by_cases h : c = a
    · rw [replL_hit (by simp) (by simp [h]), if_pos h]
      congr 1
      exact repl_one a z l
    · rw [replL_miss (by simp [h]), if_neg h, repl_one a z l]
      rfl
theorem flat_map (a b : Nat) : ∀ l : T, (l.flatMap fun c => if c = a then [b] else [c]) = l.map fun c => if c = a then b else c
  | [] => rfl
  | c :: l => by
    rw [List.flatMap_cons, List.map_cons, flat_map a b l]
    split <;> rfl
theorem flat_nob : ∀ l : T, (l.flatMap fun c => if c = 32 then ([] : T) else [c]) = nob l
  | [] => rfl
  | c :: l => by
    rw [List.flatMap_cons, flat_nob l]
    by_cases h : c = 32
    · rw [if_pos h]
      unfold nob
      rw [List.filter_cons, decide_eq_false (by simpa using h)]
      rfl
    · rw [if_neg h, nob_cons h]
      rfl
theorem sp_l : ((" " : Str)).cps.toList = [32] := by decide +kernel
theorem em_l : (("" : Str)).cps.toList = [] := by decide +kernel
theorem repl_sp {x y : Str} {a : Nat} (h : y.cps.toList = [a]) : (Txt.replace x y " ").cps.toList = x.cps.toList.map fun c => if c = a then 32 else c := by
  have hy : 1 ≤ y.length := by
    have := congrArg List.length h
    rw [len_toList] at this
    rw [this]; simp
  rw [PySem.StrLaws.replace_list hy, h, sp_l, repl_one, flat_map]
theorem repl_nob (x : Str) : (Txt.replace x " " "").cps.toList = nob x.cps.toList := by
  rw [PySem.StrLaws.replace_list (by decide +kernel), sp_l, em_l, repl_one, flat_nob]
theorem repl_sp_len {x y : Str} {a : Nat} (h : y.cps.toList = [a]) : (Txt.replace x y " ").length = x.length := by
  rw [← len_toList, repl_sp h, List.length_map, len_toList]
def rp3 (x : Str) : Str := Txt.replace (Txt.replace (Txt.replace x "(" " ") ")" " ") "," " "
theorem rp3_list (x : Str) : (rp3 x).cps.toList = x.cps.toList.map fun c => if sep c = true then 32 else c := by
  unfold rp3
  rw [repl_sp cm_l, repl_sp cp_l, repl_sp op_l, List.map_map, List.map_map]
  refine List.map_congr_left fun c _ => ?_
  show (if (if (if c = 40 then 32 else c) = 41 then 32 else (if c = 40 then 32 else c)) = 44 then 32 else (if (if c = 40 then 32 else c) = 41 then 32 else (if c = 40 then 32 else c))) = _
  unfold sep
  by_cases h1 : c = 40
  · subst h1; decide
  · by_cases h2 : c = 41
    · subst h2; decide
    · by_cases h3 : c = 44
      · subst h3; decide
      · by_cases h4 : c = 32
        · subst h4; decide
        · rw [if_neg h1, if_neg h2, if_neg h3, decide_eq_false (by rintro (h | h | h | h) <;> contradiction)]
          rfl
theorem rp3_len (x : Str) : (rp3 x).length = x.length := by
  rw [← len_toList, rp3_list, List.length_map, len_toList]
abbrev is32 (c : Nat) : Bool := decide (c = 32)
theorem cw_map : ∀ (b : Bool) (l : T), cw is32 b (l.map fun c => if sep c = true then 32 else c) = cw sep b l
  | _, [] => rfl
  | b, c :: l => by
    rw [List.map_cons]
    unfold cw
    by_cases h : sep c = true
    · rw [if_pos h, if_pos (by decide), if_pos h, cw_map false l]
    · have h32 : c ≠ 32 := fun z => h (by rw [z]; rfl)
      rw [if_neg h, if_neg (show ¬ decide (c = 32) = true by rw [decide_eq_false h32]; exact Bool.false_ne_true), if_neg h, cw_map true l]
theorem cw_join : ∀ ps : List T, (∀ p, p ∈ ps → 32 ∉ p) → cw is32 false (TL.joinL [32] ps) = (ps.filter fun p => !p.isEmpty).length
  | [], _ => rfl
  | [p], h => by
    have hp := h p List.mem_cons_self
    cases p with
    | nil => rfl
    | cons c p =>
      have e := cw_word (p := is32) (c :: p) [] (by simp) fun x hx => decide_eq_false fun z => hp (z ▸ hx)
      rw [List.append_nil] at e
      show cw is32 false (c :: p) = _
      rw [e]
      rfl
  | p :: q :: r, h => by
    have hp := h p List.mem_cons_self
    have ih := cw_join (q :: r) fun x hx => h x (List.mem_cons_of_mem _ hx)
    show cw is32 false (p ++ ([32] ++ TL.joinL [32] (q :: r))) = _
    rw [List.filter_cons]
    cases p with
    | nil =>
      show cw is32 false (TL.joinL [32] (q :: r)) = _
      rw [ih]; rfl
    | cons c p =>
      rw [cw_word (p := is32) (c :: p) _ (by simp) fun x hx => decide_eq_false fun z => hp (z ▸ hx)]
      show 1 + cw is32 false (TL.joinL [32] (q :: r)) = _
      rw [ih]
      exact Nat.add_comm 1 _
theorem empty_iff (y : Str) : decide (y = "") = y.cps.toList.isEmpty := by
  by_cases h : y = ""
  · subst h; decide +kernel
  · rw [decide_eq_false h]
    cases e : y.cps.toList with
    | nil => exact absurd (PySem.W.str_of_cps (by rw [e, em_l])) h
    | cons c l => rfl
theorem filter_len (ps : List Str) : (ps.filter fun y : Str => !decide (y = ("" : Str))).length = ((ps.map fun y => y.cps.toList).filter fun p => !p.isEmpty).length := by
  induction ps with
  | nil => rfl
  | cons p ps ih =>
    rw [List.map_cons, List.filter_cons, List.filter_cons, empty_iff]
    split <;> simp [ih]
theorem words_cw (x : Str) : ((Txt.split (rp3 x) " ").filter fun y : Str => !decide (y = ("" : Str))).length = cw sep false x.cps.toList := by
  have hj := PySem.StrLaws.join_split (rp3 x) " "
  have hf : ∀ p ∈ Txt.split (rp3 x) " ", 32 ∉ p.cps.toList := by
    rw [sp]
    exact PySem.StrLaws.split_free (rp3 x) 32
  rw [filter_len, ← cw_join _ (fun p hp => by
    obtain ⟨y, hy, rfl⟩ := List.mem_map.mp hp
    exact hf y hy), ← cw_map, ← rp3_list]
  have e := TL.tl_join " " (Txt.split (rp3 x) " ")
  rw [hj] at e
  have e' : (rp3 x).cps.toList = TL.joinL [32] ((Txt.split (rp3 x) " ").map fun y => y.cps.toList) := by
    have : TL.tl (" " : Str) = [32] := sp_l
    rw [this] at e
    exact e
  rw [e']
end Rd

set_option Elab.async false
set_option linter.all false
set_option maxRecDepth 100000
set_option maxHeartbeats 4000000
namespace K05
open PySem L2 DL AL LM Ma LMs Rd
variable [Wd]
local macro_rules | `(tactic| walk_at "al") => `(tactic| dsimp only [aSeq, aIfS, aRet, aRetN, aNext, aCont, aDrop, aAsg, aTest, aNot, aAnd, aOr, aYes, aOp, aUn, aC, aVar, aCB, aCons, aNil, aTup, aLst, aChain, aAndV, aOrV, aNotV, aIf, aSl, aPart, aNoPart, aCall, aCallK, aStar, aPar, aPar3, aAug, aFor, aRng, aSeqI, aLc, aListO, aRel, aLstO, aRaise0, aRaise1, aIsi, agN, agT, agCons, agNil, itemsOf, wipeD, List.map, List.set, List.getElem?_cons_zero, List.getElem?_cons_succ, List.append, List.length, oCmp, oInt, oIntC, onB, by2, oIxB, oIx, oIsN, oNotN, oAdd, cLen, oSl, oLtB, oTup, oNeg, aFree, aFreeD, aTry, aTryAs, clsD, oMulB, oMul, AL.pick, List.filterMap, cSum, cInt, cMax, cMax2, oIxC, aDNew, oGeB, aDNewO, aSetI, aMu, onL, mAppend, mPop, aMp, mCount, isLst, oEqB, oEq, oNeB, oNe, aEnum, aDGet2, aDisp, aPr, aSplit, aRepl, aXc, aIsiT, isDct, onDct, Rd.rs_int, Rd.rs_str, Rd.rs_bl, Rd.rs_non, Rd.rs_lst, Rd.rs_tup, Rd.rs_dct])
variable {K : PySem.W.Frag} {cs : Cs}
theorem rs_ref {Γ : Sto} {p : Addr} {xs : List D} (h : Γ p = some (.lst xs)) : AL.rs Γ (.ref p) = .lst xs := by
  show (match Γ p with | some (.lst ds) => D.lst ds | some (.dct kvs) => .dct kvs | _ => .ref p) = _
  rw [h]
def lab : Sg → Str
  | .beg => "begin"
  | .mark => "mark"
  | .hole => "hole"
  | .name => "name"
  | .head => "head"
  | .beh => "behind"
abbrev sgn (c : Nat) : Str := ⟨#[c]⟩
def stk (dp : List Nat) : List D := dp.reverse.map fun k => .int (k : Nat)
def wy (s : Sg) (c : Nat) : Int := match s with
  | .beg => 0
  | .mark => 0
  | _ => if isLet c = true then 0 else if c = 32 then 0 else if c = 40 then 1 else if c = 44 then 2 else -1
def res (s : Sg) (m : Nat) (dp : List Nat) (c : Nat) : D := match Rd.step s m dp c with
  | none => .non
  | some (s', m', _) => .tup [.str (lab s'), .int (m' : Nat), .int (wy s c)]
def Snx (F : AF) : Prop := ∀ (s : Sg) (m : Nat) (dp : List Nat) (c : Nat) (Γ : Sto) (p : Addr) (P : QV) X, Γ p = some (.lst (stk dp)) → P (res s m dp c) Γ → F [.str (lab s), .str (sgn c), .int (m : Nat), .ref p] Γ P X
theorem sgn_eq {c k : Nat} {y : Str} (h : y.cps.toList = [k]) : decide (sgn c = y) = decide (c = k) := by
  rw [decide_eq_decide]
  constructor
  · intro e
    rw [← e] at h
    have : ([c] : List Nat) = [k] := h
    injection this
  · intro e
    subst e
    exact (PySem.W.str_of_cps (by rw [h])).symm
theorem q_l : (("?" : Str)).cps.toList = [63] := by decide +kernel
theorem e_beg (s : Sg) : decide (lab s = "begin") = decide (s = .beg) := by cases s <;> decide +kernel
theorem e_mark (s : Sg) : decide (lab s = "mark") = decide (s = .mark) := by cases s <;> decide +kernel
theorem e_name (s : Sg) : decide (lab s = "name") = decide (s = .name) := by cases s <;> decide +kernel
theorem i_mh (s : Sg) : decide (lab s ∈ (["mark", "hole"] : List Str)) = decide (s = .mark ∨ s = .hole) := by cases s <;> decide +kernel
theorem i_hb (s : Sg) : decide (lab s ∈ (["hole", "behind"] : List Str)) = decide (s = .hole ∨ s = .beh) := by cases s <;> decide +kernel
theorem i_nh (s : Sg) : decide (lab s ∈ (["name", "head"] : List Str)) = decide (s = .name ∨ s = .head) := by cases s <;> decide +kernel
theorem i_end (s : Sg) : decide (lab s ∈ (["name", "head", "hole", "behind"] : List Str)) = Rd.fin s := by cases s <;> decide +kernel
theorem inT {x : Str} {ys : List Str} {Q : D → Prop} (h : Q (.bl (decide (x ∈ ys)))) : oIn (.str x) (.tup (ys.map D.str)) Q := by
  refine ⟨.str x, ys.map V.str, rfl, flatDs_strs ys, ?_⟩
  rw [inV_strs, Bool.false_xor]
  exact h
theorem stk_nil (dp : List Nat) : (stk dp).isEmpty = dp.isEmpty := by
  cases dp with
  | nil => rfl
  | cons k r => simp [stk]
theorem stk_plains : ∀ l : List Nat, plains (l.map fun k => D.int (k : Nat)) = true
  | [] => rfl
  | k :: l => by
    show plains (D.int k :: _) = true
    simp only [plains, DL.plain, Bool.true_and]
    exact stk_plains l
theorem stk_deeps : ∀ l : List Nat, deepDs (l.map fun k => D.int (k : Nat)) = 0
  | [] => rfl
  | k :: l => by
    show deepDs (D.int k :: _) = 0
    simp only [deepDs, deepD, stk_deeps l]
    rfl
theorem stk_cmp (dp : List Nat) : cmpOk (.lst (stk dp)) := by
  refine ⟨by simp only [DL.plain]; exact stk_plains _, ?_⟩
  simp only [deepD]
  unfold stk
  rw [stk_deeps]
  omega
theorem ne_stk {dp : List Nat} {Q : D → Prop} (h : Q (.bl (!dp.isEmpty))) : oNe (.lst (stk dp)) (.lst []) Q := ⟨stk_cmp dp, cmpOk_nil, by rw [eqD_nil, stk_nil]; exact h⟩
theorem stk_last (k : Nat) (r : List Nat) : atI (stk (k :: r)) (-1) = some (.int (k : Nat)) := by
  unfold stk
  rw [List.reverse_cons, List.map_append]
  have e : (((List.map (fun k => D.int (k : Nat)) r.reverse ++ List.map (fun k => D.int (k : Nat)) [k]).length : Nat) : Int) = r.length + 1 := by simp
  unfold atI ixN
  rw [e]
  have h1 : ¬ ((0 : Int) ≤ -1 ∧ (-1 : Int) < r.length + 1) := by omega
  simp
  rw [if_pos (by omega)]
  have h2 : (-1 + ((r.length : Int) + 1)).toNat = r.length := by omega
  rw [h2]
  simp
theorem by_t {p q : Prop} (h : p) : (true = true → p) ∧ (true = false → q) := ⟨fun _ => h, tf⟩
theorem by_f {p q : Prop} (h : q) : (false = true → p) ∧ (false = false → q) := ⟨ft, fun _ => h⟩
theorem tail_let {nm : Bool} {dp : List Nat} {c : Nat} (h : isLet c = true) : Rd.tail nm dp c = none := by
  have n1 : c ≠ 32 := fun z => by rw [z] at h; exact absurd h (by decide +kernel)
  have n2 : c ≠ 44 := fun z => by rw [z] at h; exact absurd h (by decide +kernel)
  have n3 := let_par h
  unfold Rd.tail
  rw [if_neg n1, if_neg (fun z => n3.1 z.1), if_neg n2, if_neg n3.2]
theorem s_next : Snx (afn N__law_next p__law_next (u__law_next K cs)) := fun s m dp c Γ p P X hp hP => by
  refine ⟨rfl, ?_⟩
  have s3 : 3 ≤ sizeLine := sz1000 (by decide)
  have s2 : 2 ≤ sizeLine := sz1000 (by decide)
  have s0 : 0 ≤ sizeLine := Nat.zero_le _
  show u__law_next K cs _ [some (.str (lab s)), some (.str (sgn c)), some (.int (m : Nat)), some (.ref p), none] Γ
  delta u__law_next
  walk_at "al"
  refine ⟨c, rfl, ?_⟩
  rw [Bool.false_xor]
  show u__law_next_1 K cs _ [some (.str (lab s)), some (.str (sgn c)), some (.int (m : Nat)), some (.ref p), some (.bl (isLet c))] Γ
  unfold res wy Rd.step at hP
  -- the tail behind a leaf
  have t8 : ∀ (nm : Bool), (nm = decide (s = .name ∨ s = .head)) → P (match Rd.tail nm dp c with
      | none => .non
      | some (s', m', _) => .tup [.str (lab s'), .int (m' : Nat), .int (if c = 32 then 0 else if c = 40 then 1 else if c = 44 then 2 else -1)]) Γ → (s = .hole ∨ s = .name ∨ s = .head ∨ s = .beh) → u__law_next_5 K cs { nx := fun _ Γ' => P .non Γ', rt := P, bk := fun _ _ => False, ct := fun _ _ => False, ex := fun x _ Γ' => X x Γ' } [some (.str (lab s)), some (.str (sgn c)), some (.int (m : Nat)), some (.ref p), some (.bl (isLet c))] Γ := fun nm hn hq hs => by
    unfold Rd.tail at hq
    delta u__law_next_5 u__law_next_6
    walk_at "al"
    rw [sgn_eq sp_l, sgn_eq op_l]
    by_cases h32 : c = 32
    · rw [decide_eq_true h32]
      refine by_t ⟨s2, inT (ys := ["hole", "behind"]) ?_⟩
      rw [if_pos h32] at hq
      have e : decide (s = .hole ∨ s = .beh) = !nm := by
        rw [hn]
        rcases hs with rfl | rfl | rfl | rfl <;> rfl
      rw [i_hb, e]
      cases nm with
      | true => exact by_f ⟨s3, by simpa [h32, lab] using hq⟩
      | false => exact by_t ⟨s3, by simpa [h32, lab] using hq⟩
    · rw [decide_eq_false h32]
      rw [if_neg h32] at hq
      refine by_f ?_
      have k7 : ¬ (c = 40 ∧ nm = true) → u__law_next_7 K cs { nx := fun _ Γ' => P .non Γ', rt := P, bk := fun _ _ => False, ct := fun _ _ => False, ex := fun x _ Γ' => X x Γ' } [some (.str (lab s)), some (.str (sgn c)), some (.int (m : Nat)), some (.ref p), some (.bl (isLet c))] Γ := fun h40 => by
        rw [if_neg h40] at hq
        delta u__law_next_7 u__law_next_8
        walk_at "al"
        rw [sgn_eq cm_l, sgn_eq cp_l, rs_ref hp]
        by_cases h44 : c = 44
        · rw [decide_eq_true h44]
          rw [if_pos h44] at hq
          refine by_t ⟨s0, stk_cmp dp, cmpOk_nil, ?_⟩
          rw [eqD_nil, stk_nil]
          cases dp with
          | nil =>
            refine by_f (by_f ?_)
            rw [decide_eq_false (show ¬ c = 41 by omega)]
            exact by_f (by_f hq)
          | cons k r =>
            refine by_t ?_
            refine ⟨_, stk_last k r, ?_⟩
            show (decide ((k : Int) < 3) = true → _) ∧ (decide ((k : Int) < 3) = false → _)
            dsimp only at hq
            by_cases h3 : k < 3
            · rw [if_pos h3] at hq
              rw [decide_eq_true (show (k : Int) < 3 by omega)]
              exact by_t ⟨s3, by simpa [h44, lab] using hq⟩
            · rw [if_neg h3] at hq
              rw [decide_eq_false (show ¬ (k : Int) < 3 by omega), decide_eq_false (show ¬ c = 41 by omega)]
              exact by_f (by_f (by_f hq))
        · rw [decide_eq_false h44]
          rw [if_neg h44] at hq
          refine by_f (by_f ?_)
          by_cases h41 : c = 41
          · rw [decide_eq_true h41]
            rw [if_pos h41] at hq
            refine by_t ⟨s0, stk_cmp dp, cmpOk_nil, ?_⟩
            rw [eqD_nil, stk_nil]
            cases dp with
            | nil => exact by_f hq
            | cons k r => exact by_t ⟨s3, by simpa [h41, lab] using hq⟩
          · rw [decide_eq_false h41]
            rw [if_neg h41] at hq
            exact by_f (by_f hq)
      by_cases h40 : c = 40
      · rw [decide_eq_true h40]
        refine by_t ⟨s2, inT (ys := ["name", "head"]) ?_⟩
        rw [i_nh, ← hn]
        cases nm with
        | true =>
          rw [if_pos ⟨h40, rfl⟩] at hq
          exact by_t ⟨s3, by simpa [h40, lab] using hq⟩
        | false => exact by_f (k7 (by simp))
      · rw [decide_eq_false h40]
        exact by_f (by_f (k7 fun z => h40 z.1))
  have hsl : ∀ {i j : Nat} {A B : Prop}, (i < j → A) → (¬ i < j → B) → (decide ((i : Int) < (j : Int)) = true → A) ∧ (decide ((i : Int) < (j : Int)) = false → B) := fun {i j A B} h1 h2 => ⟨fun z => h1 (by have := of_decide_eq_true z; omega), fun z => h2 (by have := of_decide_eq_false z; omega)⟩
  delta u__law_next_1 u__law_next_2 u__law_next_3 u__law_next_4
  walk_at "al"
  rw [e_beg, e_mark, e_name, sgn_eq q_l, sgn_eq sp_l]
  cases s with
  | beg =>
    refine by_t ?_
    dsimp only at hP
    cases hc : isLet c with
    | true =>
      rw [hc] at hP
      exact by_t (by_t (by_t ⟨s3, hP⟩))
    | false =>
      rw [hc, if_neg Bool.false_ne_true] at hP
      refine by_f ?_
      by_cases h63 : c = 63
      · rw [decide_eq_true h63]
        rw [if_pos h63] at hP
        exact by_t (by_f ⟨s3, hP⟩)
      · rw [decide_eq_false h63]
        rw [if_neg h63] at hP
        refine by_f ?_
        by_cases h32 : c = 32
        · rw [decide_eq_true h32]
          rw [if_pos h32] at hP
          exact by_t ⟨s3, hP⟩
        · rw [decide_eq_false h32]
          rw [if_neg h32] at hP
          exact by_f hP
  | mark =>
    refine by_f ⟨s2, inT (ys := ["mark", "hole"]) ?_⟩
    rw [i_mh]
    refine by_t ?_
    dsimp only at hP
    cases hc : isLet c with
    | true =>
      rw [hc, if_pos rfl] at hP
      refine by_t (hsl (fun h => ?_) fun h => ?_)
      · rw [if_pos h] at hP
        exact ⟨s3, hP⟩
      · rw [if_neg h] at hP
        exact hP
    | false =>
      rw [hc, if_neg Bool.false_ne_true] at hP
      exact by_f (by_t hP)
  | hole =>
    refine by_f ⟨s2, inT (ys := ["mark", "hole"]) ?_⟩
    rw [i_mh]
    refine by_t ?_
    dsimp only at hP
    cases hc : isLet c with
    | true =>
      rw [hc, if_pos rfl] at hP
      refine by_t (hsl (fun h => ?_) fun h => ?_)
      · rw [if_pos h] at hP
        exact ⟨s3, hP⟩
      · rw [if_neg h] at hP
        exact hP
    | false =>
      rw [hc, if_neg Bool.false_ne_true] at hP
      rw [hc] at t8
      exact by_f (by_f (by_f (by_f (t8 false rfl hP (.inl rfl)))))
  | name =>
    refine by_f ⟨s2, inT (ys := ["mark", "hole"]) ?_⟩
    rw [i_mh]
    refine by_f (by_f (by_f (by_t ?_)))
    dsimp only at hP
    cases hc : isLet c with
    | true =>
      rw [hc, if_pos rfl] at hP
      refine by_t (hsl (fun h => ?_) fun h => ?_)
      · rw [if_pos h] at hP
        exact ⟨s3, hP⟩
      · rw [if_neg h] at hP
        exact hP
    | false =>
      rw [hc, if_neg Bool.false_ne_true] at hP
      rw [hc] at t8
      exact by_f (t8 true rfl hP (.inr (.inl rfl)))
  | head =>
    refine by_f ⟨s2, inT (ys := ["mark", "hole"]) ?_⟩
    rw [i_mh]
    refine by_f (by_f (by_f (by_f (by_f (t8 true rfl ?_ (.inr (.inr (.inl rfl))))))))
    dsimp only at hP
    cases hc : isLet c with
    | true =>
      rw [tail_let hc] at hP ⊢
      exact hP
    | false =>
      rw [hc] at hP
      exact hP
  | beh =>
    refine by_f ⟨s2, inT (ys := ["mark", "hole"]) ?_⟩
    rw [i_mh]
    refine by_f (by_f (by_f (by_f (by_f (t8 false rfl ?_ (.inr (.inr (.inr rfl))))))))
    dsimp only at hP
    cases hc : isLet c with
    | true =>
      rw [tail_let hc] at hP ⊢
      exact hP
    | false =>
      rw [hc] at hP
      exact hP
/-! ### the walk -/
theorem stk_push (dp : List Nat) : stk dp ++ [D.int 1] = stk (1 :: dp) := by
  unfold stk
  rw [List.reverse_cons, List.map_append]
  rfl
theorem stk_len (dp : List Nat) : (stk dp).length = dp.length := by simp [stk]
theorem stk_pop (k : Nat) (r : List Nat) : (stk (k :: r))[(stk (k :: r)).length - 1]? = some (.int (k : Nat)) ∧ (stk (k :: r)).dropLast = stk r := by
  unfold stk
  rw [List.reverse_cons, List.map_append]
  constructor
  · simp
  · simp
theorem stk_ix (k : Nat) (r : List Nat) : ixN (stk (k :: r)).length (-1) = some r.length := by
  rw [stk_len]
  unfold ixN
  simp
  omega
theorem stk_set (k : Nat) (r : List Nat) (j : Nat) : (stk (k :: r)).set r.length (.int (j : Nat)) = stk (j :: r) := by
  unfold stk
  rw [List.reverse_cons, List.reverse_cons, List.map_append, List.map_append]
  rw [List.set_append_right _ _ (by simp)]
  simp
abbrev evw (x : Str) (s : Sg) (m : Nat) (p : Addr) (t4 t5 t6 t7 : Option D) : DL.Env := [some (.str x), some (.str (lab s)), some (.int (m : Nat)), some (.ref p), t4, t5, t6, t7]
abbrev bodyW (F : AF) : AS := (aSeq (aAsg (aCall F (aCons (aVar 1) (aCons (aVar 5) (aCons (aVar 2) (aCons (aVar 3) aNil))))) (agN 6))
    (aSeq (aIfS (aTest (aOp oIsN (aVar 6) (aC .non))) (aRet (aTup (aCons (aVar 4) (aCons (aC (.bl false)) aNil)))) aNext)
    (aSeq (aAsg (aVar 6) (agT 3 (agCons (agN 1) (agCons (agN 2) (agCons (agN 7) agNil)))))
    (aSeq (aIfS (aTest (aOp oEqB (aVar 7) (aC (.int 1)))) (aDrop (aMu mAppend (aVar 3) (aCons (aC (.int 1)) aNil))) aNext)
    (aSeq (aIfS (aTest (aOp oEqB (aVar 7) (aC (.int 2)))) (aSetI (aOp oAdd (aOp oIxB (aVar 3) (aUn oNeg (aC (.int 1)))) (aC (.int 1))) (aVar 3) (aUn oNeg (aC (.int 1)))) aNext)
    (aIfS (aTest (aOp oEqB (aVar 7) (aUn oNeg (aC (.int 1))))) (aDrop (aMu mPop (aVar 3) aNil)) aNext))))))
def Way (w : Int) (dp dp' : List Nat) : Prop := (w = 0 ∧ dp' = dp) ∨ (w = 1 ∧ dp' = 1 :: dp) ∨ (w = 2 ∧ ∃ k r, dp = k :: r ∧ dp' = (k + 1) :: r) ∨ (w = -1 ∧ ∃ k r, dp = k :: r ∧ dp' = r)
theorem tail_way {nm : Bool} {dp dp' : List Nat} {c m' : Nat} {s' : Sg} (h : Rd.tail nm dp c = some (s', m', dp')) : Way (if isLet c = true then 0 else if c = 32 then 0 else if c = 40 then 1 else if c = 44 then 2 else -1) dp dp' := by
  cases hc : isLet c with
  | true => rw [tail_let hc] at h; cases h
  | false =>
    rw [if_neg Bool.false_ne_true]
    unfold Rd.tail at h
    by_cases h32 : c = 32
    · rw [if_pos h32] at h ⊢
      cases h
      exact .inl ⟨rfl, rfl⟩
    · rw [if_neg h32] at h ⊢
      by_cases h40 : c = 40
      · cases nm with
        | true =>
          rw [if_pos ⟨h40, rfl⟩] at h
          rw [if_pos h40]
          cases h
          exact .inr (.inl ⟨rfl, rfl⟩)
        | false =>
          rw [if_neg (fun z => Bool.false_ne_true z.2), if_neg (by omega), if_neg (by omega)] at h
          cases h
      · rw [if_neg (fun z => h40 z.1)] at h
        rw [if_neg h40]
        by_cases h44 : c = 44
        · rw [if_pos h44] at h ⊢
          cases dp with
          | nil => cases h
          | cons k r =>
            dsimp only at h
            by_cases h3 : k < 3
            · rw [if_pos h3] at h
              cases h
              exact .inr (.inr (.inl ⟨rfl, k, r, rfl, rfl⟩))
            · rw [if_neg h3] at h
              cases h
        · rw [if_neg h44] at h ⊢
          by_cases h41 : c = 41
          · rw [if_pos h41] at h
            cases dp with
            | nil => cases h
            | cons k r =>
              cases h
              exact .inr (.inr (.inr ⟨rfl, k, _, rfl, rfl⟩))
          · rw [if_neg h41] at h
            cases h
theorem step_way {s s' : Sg} {m m' : Nat} {dp dp' : List Nat} {c : Nat} (h : Rd.step s m dp c = some (s', m', dp')) : Way (wy s c) dp dp' := by
  have same : ∀ {q : Option (Sg × Nat × List Nat)}, (q = none ∨ ∃ a b, q = some (a, b, dp)) → q = some (s', m', dp') → dp' = dp := fun {q} h1 h2 => by
    rcases h1 with h1 | ⟨a, b, h1⟩
    · rw [h1] at h2; cases h2
    · rw [h1] at h2; cases h2; rfl
  have two : ∀ {b : Prop} [Decidable b] {s1 : Sg} {m1 : Nat}, (if b then some (s1, m1, dp) else none) = some (s', m', dp') → dp' = dp := fun {b} _ {s1 m1} z => by
    by_cases hb : b
    · rw [if_pos hb] at z; cases z; rfl
    · rw [if_neg hb] at z; cases z
  cases s with
  | beg =>
    refine .inl ⟨rfl, ?_⟩
    unfold Rd.step at h
    dsimp only at h
    by_cases hc : isLet c = true
    · rw [if_pos hc] at h; cases h; rfl
    · rw [if_neg hc] at h
      by_cases h63 : c = 63
      · rw [if_pos h63] at h; cases h; rfl
      · rw [if_neg h63] at h
        exact two h
  | mark =>
    refine .inl ⟨rfl, ?_⟩
    unfold Rd.step at h
    dsimp only at h
    by_cases hc : isLet c = true
    · rw [if_pos hc] at h; exact two h
    · rw [if_neg hc] at h; cases h
  | hole =>
    unfold Rd.step at h
    dsimp only at h
    by_cases hc : isLet c = true
    · rw [if_pos hc] at h
      exact .inl ⟨by show (if isLet c = true then (0 : Int) else _) = 0; rw [if_pos hc], two h⟩
    · rw [if_neg hc] at h
      exact tail_way h
  | name =>
    unfold Rd.step at h
    dsimp only at h
    by_cases hc : isLet c = true
    · rw [if_pos hc] at h
      exact .inl ⟨by show (if isLet c = true then (0 : Int) else _) = 0; rw [if_pos hc], two h⟩
    · rw [if_neg hc] at h
      exact tail_way h
  | head => exact tail_way h
  | beh => exact tail_way h
theorem walk_loop {F : AF} (hF : Snx F) {Γ : Sto} {p : Addr} {x : Str} {Po : AEnds} : ∀ (l : T) (n : Nat) (s : Sg) (m : Nat) (dp : List Nat) (t4 t5 t6 t7 : Option D), dp.length + l.length ≤ 1000000 →
    (∀ e dp', run l n s m dp = .error e → Po.rt (.tup [.int (e : Nat), .bl false]) (upS Γ p (.lst (stk dp')))) →
    (∀ s' m' dp' t4 t5 t6 t7, run l n s m dp = run [] (n + l.length) s' m' dp' → Po.nx (evw x s' m' p t4 t5 t6 t7) (upS Γ p (.lst (stk dp')))) →
    aLoop (agT 2 (agCons (agN 4) (agCons (agN 5) agNil))) (bodyW F) Po (enumD n (l.map fun c => D.str (sgn c))) (evw x s m p t4 t5 t6 t7) (upS Γ p (.lst (stk dp)))
  | [], n, s, m, dp, t4, t5, t6, t7, _, h1, h2 => h2 s m dp t4 t5 t6 t7 rfl
  | c :: l, n, s, m, dp, t4, t5, t6, t7, hl, h1, h2 => by
    have hl' : dp.length + (l.length + 1) ≤ 1000000 := by simpa using hl
    have s2 : 2 ≤ sizeLine := sz1000 (by decide)
    show aLoop (agT 2 (agCons (agN 4) (agCons (agN 5) agNil))) (bodyW F) Po (.tup [.int (n : Nat), .str (sgn c)] :: enumD (n + 1) (l.map fun c => D.str (sgn c))) _ _
    unfold aLoop
    walk_at "al"
    refine ⟨rfl, rfl, ?_⟩
    show bodyW F { nx := aLoop (agT 2 (agCons (agN 4) (agCons (agN 5) agNil))) (bodyW F) Po (enumD (n + 1) (l.map fun c => D.str (sgn c))), rt := Po.rt, bk := Po.nx, ct := aLoop (agT 2 (agCons (agN 4) (agCons (agN 5) agNil))) (bodyW F) Po (enumD (n + 1) (l.map fun c => D.str (sgn c))), ex := Po.ex } _ _
    have hwl := fun s' m' dp' t4 t5 t6 t7 => walk_loop (x := x) (Po := Po) hF (Γ := Γ) (p := p) l (n + 1) s' m' dp' t4 t5 t6 t7
    revert hwl
    generalize aLoop (agT 2 (agCons (agN 4) (agCons (agN 5) agNil))) (bodyW F) Po (enumD (n + 1) (l.map fun c => D.str (sgn c))) = Lp
    intro hwl
    delta bodyW
    walk_at "al"
    refine hF s m dp c _ p _ _ upS_same ?_
    have hrun : run (c :: l) n s m dp = match Rd.step s m dp c with
      | none => .error n
      | some (s', m', dp') => run l (n + 1) s' m' dp' := rfl
    unfold res
    cases hst : Rd.step s m dp c with
    | none =>
      rw [hst] at hrun
      exact by_t ⟨s2, h1 n dp hrun⟩
    | some q =>
      obtain ⟨s', m', dp'⟩ := q
      rw [hst] at hrun
      have hrun : run (c :: l) n s m dp = run l (n + 1) s' m' dp' := hrun
      dsimp only
      refine by_f ⟨rfl, rfl, ?_⟩
      have go : ∀ t6 t7, dp'.length + l.length ≤ 1000000 → Lp (evw x s' m' p (some (.int (n : Nat))) (some (.str (sgn c))) t6 t7) (upS Γ p (.lst (stk dp'))) := fun t6 t7 hle =>
        hwl s' m' dp' _ _ _ _ hle (fun e d' he => h1 e d' (by rw [hrun]; exact he)) fun s2 m2 d2 t4 t5 t6 t7 he => h2 s2 m2 d2 t4 t5 t6 t7 (by rw [hrun, he, show n + 1 + l.length = n + (c :: l).length by simp; omega])
      rcases step_way hst with ⟨ew, rfl⟩ | ⟨ew, rfl⟩ | ⟨ew, k, r, rfl, rfl⟩ | ⟨ew, k, r, rfl, rfl⟩
      · rw [ew]
        exact by_f (by_f (by_f (go _ _ (by omega))))
      · rw [ew]
        refine by_t ?_
        rw [upS_same]
        dsimp only
        rw [upS_same]
        refine ⟨by rw [stk_len, sizeLine_eq]; omega, ?_⟩
        rw [upS_upS, stk_push]
        exact by_f (by_f (go _ _ (by simp at *; omega)))
      · rw [ew]
        refine by_f (by_t ?_)
        rw [rs_ref upS_same]
        refine ⟨_, stk_last k r, ?_⟩
        show putC _ _ _ _ _
        unfold putC
        dsimp only
        rw [upS_same]
        refine ⟨r.length, stk_ix k r, ?_⟩
        have e : (.int ((k : Nat) + 1 : Int) : D) = .int ((k + 1 : Nat) : Nat) := rfl
        rw [e, stk_set, upS_upS]
        exact by_f (go _ _ (by simp at *; omega))
      · rw [ew]
        refine by_f (by_f (by_t ?_))
        rw [upS_same]
        dsimp only
        refine ⟨rfl, _, (stk_pop k dp').1, ?_⟩
        rw [(stk_pop k dp').2, upS_upS]
        exact go _ _ (by simp at *; omega)
end K05

set_option Elab.async false
set_option linter.all false
set_option maxRecDepth 100000
set_option maxHeartbeats 4000000
namespace K05
open PySem L2 DL AL LM Ma LMs Rd
variable [Wd]
local macro_rules | `(tactic| walk_at "al") => `(tactic| dsimp only [aSeq, aIfS, aRet, aRetN, aNext, aCont, aDrop, aAsg, aTest, aNot, aAnd, aOr, aYes, aOp, aUn, aC, aVar, aCB, aCons, aNil, aTup, aLst, aChain, aAndV, aOrV, aNotV, aIf, aSl, aPart, aNoPart, aCall, aCallK, aStar, aPar, aPar3, aAug, aFor, aRng, aSeqI, aLc, aListO, aRel, aLstO, aRaise0, aRaise1, aIsi, agN, agT, agCons, agNil, itemsOf, wipeD, List.map, List.set, List.getElem?_cons_zero, List.getElem?_cons_succ, List.append, List.length, oCmp, oInt, oIntC, onB, by2, oIxB, oIx, oIsN, oNotN, oAdd, cLen, oSl, oLtB, oTup, oNeg, aFree, aFreeD, aTry, aTryAs, clsD, oMulB, oMul, AL.pick, List.filterMap, cSum, cInt, cMax, cMax2, oIxC, aDNew, oGeB, aDNewO, aSetI, aMu, onL, mAppend, mPop, aMp, mCount, isLst, oEqB, oEq, oNeB, oNe, aEnum, aDGet2, aDisp, aPr, aSplit, aRepl, aXc, aIsiT, isDct, onDct, Rd.rs_int, Rd.rs_str, Rd.rs_bl, Rd.rs_non, Rd.rs_lst, Rd.rs_tup, Rd.rs_dct])
variable {K : PySem.W.Frag} {cs : Cs}
theorem Ot_new {Γ : Sto} {p : Addr} {c : Cell} (h : Γ p = none) : Ot [] Γ (upS Γ p c) := fun b _ hb => by
  have : b ≠ p := fun z => hb (by rw [z]; exact h)
  exact upS_ne this
/-! ### the walk -/
def walkD (r : Except Nat Unit) (n : Nat) (z : D) : Prop := (∃ e, r = .error e ∧ z = .tup [.int (e : Nat), .bl false]) ∨ (r = .ok () ∧ z = .tup [.non, .bl true]) ∨ (r = .error n ∧ z = .tup [.non, .bl false])
def Swk (F : AF) : Prop := ∀ (x : Str) (Γ : Sto) (P : QV) X, x.length ≤ 1000000 → (∀ z Γ', walkD (run x.cps.toList 0 .beg 0 []) x.length z → Ot [] Γ Γ' → P z Γ') → F [.str x] Γ P X
theorem s_walk {F : AF} (hF : Snx F) : Swk (afn N__law_walk p__law_walk (u__law_walk K cs F)) := fun x Γ P X hx hP => by
  refine ⟨rfl, ?_⟩
  have hll : x.cps.toList.length = x.length := Array.length_toList
  show u__law_walk K cs F _ [some (.str x), none, none, none, none, none, none, none] Γ
  delta u__law_walk
  walk_at "al"
  refine ⟨Nat.zero_le _, fun p hp => ?_⟩
  refine walk_loop hF x.cps.toList 0 .beg 0 [] none none none none (by rw [hll]; simpa using hx) (fun e dp' he => ?_) fun s m dp t4 t5 t6 t7 he => ?_
  · exact hP _ _ (.inl ⟨e, he, rfl⟩) (Ot_new hp)
  · walk_at "al"
    refine ⟨sz1000 (by decide), inT (ys := ["name", "head", "hole", "behind"]) ?_⟩
    rw [i_end, Nat.zero_add, hll] at *
    have hr : run [] x.length s m dp = if Rd.fin s = true ∧ dp = [] then .ok () else .error x.length := rfl
    rw [hr] at he
    have s2 : 2 ≤ sizeLine := sz1000 (by decide)
    cases hf : Rd.fin s with
    | false =>
      rw [hf, if_neg (fun z => Bool.false_ne_true z.1)] at he
      exact by_f ⟨s2, hP _ _ (.inr (.inr ⟨he, rfl⟩)) (Ot_new hp)⟩
    | true =>
      refine by_t ⟨Nat.zero_le _, ?_⟩
      rw [rs_ref upS_same]
      refine ⟨stk_cmp dp, cmpOk_nil, s2, ?_⟩
      rw [eqD_nil, stk_nil]
      cases dp with
      | nil =>
        rw [hf, if_pos ⟨rfl, rfl⟩] at he
        exact hP _ _ (.inr (.inl ⟨he, rfl⟩)) (Ot_new hp)
      | cons k r =>
        rw [if_neg (fun z => nomatch z.2)] at he
        exact hP _ _ (.inr (.inr ⟨he, rfl⟩)) (Ot_new hp)
/-! ### the bounds -/
abbrev brk : List (D × D) := [(.str "(", .int 1), (.str ")", .int (-1))]
theorem brk_merge : mergeD [] [(.str "(", .int 1), (.str ")", .int (-1))] = brk := by decide +kernel
theorem brk_lk (c : Nat) : (lkD brk (.str (sgn c))).getD (.int 0) = .int (if c = 40 then 1 else if c = 41 then -1 else 0) := by
  have e1 : (D.str "(" = D.str (sgn c)) ↔ c = 40 := by
    constructor
    · intro h
      injection h with h
      have := sgn_eq (c := c) op_l
      rw [← h, decide_eq_true rfl] at this
      exact of_decide_eq_true this.symm
    · intro h
      subst h
      decide +kernel
  have e2 : (D.str ")" = D.str (sgn c)) ↔ c = 41 := by
    constructor
    · intro h
      injection h with h
      have := sgn_eq (c := c) cp_l
      rw [← h, decide_eq_true rfl] at this
      exact of_decide_eq_true this.symm
    · intro h
      subst h
      decide +kernel
  rw [lkD_cons, lkD_cons]
  by_cases h1 : c = 40
  · rw [if_pos h1, if_pos (e1.mpr h1)]; rfl
  · rw [if_neg h1, if_neg (fun z => h1 (e1.mp z))]
    by_cases h2 : c = 41
    · rw [if_pos h2, if_pos (e2.mpr h2)]; rfl
    · rw [if_neg h2, if_neg (fun z => h2 (e2.mp z))]; rfl
theorem split_len (x : Str) : (Txt.split x " ").length ≤ x.length + 1 := by
  have hj := PySem.StrLaws.join_split x " "
  have e := TL.tl_join " " (Txt.split x " ")
  rw [hj] at e
  have g : ∀ ps : List T, ps.length ≤ (TL.joinL (TL.tl (" " : Str)) ps).length + 1 := fun ps => by
    have hs : TL.tl (" " : Str) = [32] := sp_l
    rw [hs]
    induction ps with
    | nil => simp
    | cons p ps ih =>
      cases ps with
      | nil => simp
      | cons q r =>
        show _ ≤ (p ++ ([32] ++ TL.joinL [32] (q :: r))).length + 1
        simp only [List.length_append, List.length_cons, List.length_nil] at ih ⊢
        omega
  have h := g ((Txt.split x " ").map TL.tl)
  rw [← e] at h
  rw [List.length_map] at h
  have : (TL.tl x).length = x.length := Array.length_toList
  omega
def Sbd (F : AF) : Prop := ∀ (x : Str) (Γ : Sto) (P : QV) X, x.length ≤ 1000000 → P (.bl (bnd x.cps.toList)) Γ → F [.str x] Γ P X
abbrev bodyB : AS := (aSeq (aAsg (aOp oAdd (aVar 3) (aDGet2 (aDisp [((aC (.str "(")), (aC (.int 1))), ((aC (.str ")")), (aUn oNeg (aC (.int 1))))]) (aVar 1) (aC (.int 0)))) (agN 3))
    (aAsg (aCB cMax2 (aCons (aVar 4) (aCons (aVar 3) aNil))) (agN 4)))
theorem bd_loop {Γ : Sto} {Po : AEnds} {x : Str} : ∀ (l : T) (i j : Int) (t1 t2 t5 : Option D), (∀ c, c ∈ l → True) → (∀ t1, Po.nx [some (.str x), t1, t2, some (.int (l.foldl bf (i, j)).1), some (.int (l.foldl bf (i, j)).2), t5] Γ) →
    aLoop (agN 1) bodyB Po (l.map fun c => D.str (sgn c)) [some (.str x), t1, t2, some (.int i), some (.int j), t5] Γ
  | [], i, j, t1, t2, t5, _, h => h t1
  | c :: l, i, j, t1, t2, t5, _, h => by
    show bodyB { nx := aLoop (agN 1) bodyB Po (l.map fun c => D.str (sgn c)), rt := Po.rt, bk := Po.nx, ct := aLoop (agN 1) bodyB Po (l.map fun c => D.str (sgn c)), ex := Po.ex } [some (.str x), some (.str (sgn c)), t2, some (.int i), some (.int j), t5] Γ
    have ih := fun i j t1 => bd_loop (Γ := Γ) (Po := Po) (x := x) l i j t1 t2 t5 (fun _ _ => trivial)
    revert ih
    generalize aLoop (agN 1) bodyB Po (l.map fun c => D.str (sgn c)) = Lp
    intro ih
    delta bodyB
    walk_at "al"
    refine ⟨by decide, fun kv hk => ?_, ?_⟩
    · simp only [List.mem_cons, List.not_mem_nil, or_false] at hk
      rcases hk with rfl | rfl <;> rfl
    · rw [brk_merge]
      refine ⟨rfl, .inl ⟨rfl, fun kv hk => ?_⟩, ?_⟩
      · simp only [List.mem_cons, List.not_mem_nil, or_false] at hk
        rcases hk with rfl | rfl <;> rfl
      · rw [brk_lk]
        exact ih _ _ _ h
theorem s_bounds : Sbd (afn N__law_bounds p__law_bounds (u__law_bounds K cs)) := fun x Γ P X hx hP => by
  refine ⟨rfl, ?_⟩
  have hll : x.cps.toList.length = x.length := Array.length_toList
  show u__law_bounds K cs _ [some (.str x), none, none, none, none, none] Γ
  delta u__law_bounds
  walk_at "al"
  refine ⟨sz1000 (by decide), rfl, rfl, ?_⟩
  refine bd_loop x.cps.toList 1 1 none none none (fun _ _ => trivial) fun t1 => ?_
  walk_at "al"
  have h1 : (Txt.replace x "(" " ").length = x.length := repl_sp_len op_l
  have h2 : (Txt.replace (Txt.replace x "(" " ") ")" " ").length = x.length := (repl_sp_len cp_l).trans h1
  have h3 : (rp3 x).length = x.length := rp3_len x
  have sp1 : (" " : Str).length = 1 := by decide +kernel
  refine ⟨by rw [sp1]; omega, by rw [h1, sp1]; omega, by rw [h2, sp1]; omega, by decide +kernel, ?_, ?_⟩
  · show (rp3 x).length + 2 ≤ _
    rw [h3, sizeLine_eq]
    omega
  · show (decide ((x.cps.toList.foldl bf (1, 1)).2 < 6) = true → _) ∧ (decide ((x.cps.toList.foldl bf (1, 1)).2 < 6) = false → _)
    have hb : bnd x.cps.toList = (decide ((x.cps.toList.foldl bf (1, 1)).2 < 6) && decide (((cw sep false x.cps.toList : Nat) : Int) < 31)) := rfl
    cases hq : decide ((x.cps.toList.foldl bf (1, 1)).2 < 6) with
    | false =>
      rw [hq, Bool.false_and] at hb
      rw [hb] at hP
      exact by_f hP
    | true =>
      rw [hq, Bool.true_and] at hb
      rw [hb] at hP
      refine by_t ⟨?_, ?_⟩
      · rw [List.length_map]
        have := split_len (rp3 x)
        show (Txt.split (rp3 x) " ").length < _
        rw [sizeLine_eq]
        omega
      · refine lcL_filter (p := fun d => match d with | .str y => !decide (y = "") | _ => false) (by simp) _ [] (fun d hd P X hp => ?_) ?_
        · obtain ⟨y, _, rfl⟩ := List.mem_map.mp hd
          exact hp
        · show P (.bl (decide ((((((Txt.split (rp3 x) " ").map D.str).filter _).length : Nat) : Int) < 31))) Γ
          have e : ∀ ys : List Str, ((ys.map D.str).filter fun d => match d with | .str y => !decide (y = ("" : Str)) | _ => false).length = (ys.filter fun y : Str => !decide (y = ("" : Str))).length := fun ys => by
            rw [List.filter_map, List.length_map]
            rfl
          rw [e, words_cw]
          exact hP
/-! ### what is due -/
def dueD (x : Str) : D := match read x.cps.toList with
  | .error e => .int (e : Nat)
  | .ok _ => .non
def Sdu (F : AF) : Prop := ∀ (x : Str) (Γ : Sto) (P : QV) X, x.length ≤ 1000000 → (∀ Γ', Ot [] Γ Γ' → P (dueD x) Γ') → F [.str x] Γ P X
theorem s_due {Fw Fb : AF} (hw : Swk Fw) (hb : Sbd Fb) : Sdu (afn N__law_due p__law_due (u__law_due_v2 K cs Fw Fb)) := fun x Γ P X hx hP => by
  refine ⟨rfl, ?_⟩
  have hll : x.cps.toList.length = x.length := Array.length_toList
  obtain ⟨tt1, tt2⟩ := told_text x.cps.toList
  rw [hll] at tt2
  show u__law_due_v2 K cs Fw Fb _ [some (.str x), none, none] Γ
  delta u__law_due_v2
  walk_at "al"
  refine hw x Γ _ _ hx fun z Γ' hz o => ?_
  have hP := hP Γ' o
  unfold dueD at hP
  rcases hz with ⟨e, he, rfl⟩ | ⟨he, rfl⟩ | ⟨he, rfl⟩
  · rw [tt1 e he] at hP
    exact ⟨rfl, rfl, by_t hP⟩
  · refine ⟨rfl, rfl, by_f (by_t (hb x Γ' _ _ hx ?_))⟩
    obtain ⟨q1, q2⟩ := tt2 he
    cases hq : bnd x.cps.toList with
    | false =>
      rw [q1 hq] at hP
      exact by_f ⟨by rw [sizeLine_eq]; omega, hP⟩
    | true =>
      obtain ⟨d, hd, _⟩ := q2 hq
      rw [hd] at hP
      exact by_t hP
  · rw [tt1 _ he] at hP
    exact ⟨rfl, rfl, by_f (by_f (by_f ⟨by rw [sizeLine_eq]; omega, hP⟩))⟩
/-! ### what is told -/
def toldD (x : Str) : D := match read x.cps.toList with
  | .error e => .int (e : Nat)
  | .ok d => d
def Stl (F : AF) : Prop := (∀ (x : Str) (Γ : Sto) (P : QV) X, x.length < sizeLine → PyData.strOk x = true → (∀ Γ', Ot [] Γ Γ' → P (toldD x) Γ') → F [.str x] Γ P X) ∧
  ∀ d, short d → isStr d = false → Pu F [d] (.int 0)
theorem s_told (kx : Kx K cs) {Fr : AF} (hr : Srd cs Fr) : Stl (afn N__law_told p__law_told (u__law_told_v2 K cs Fr)) := by
  have s2 : 2 ≤ sizeLine := sz1000 (by decide)
  have ky : PySem.W.kitAny K (.ref cs.NoText) [.ref cs.BadPattern, .ref cs.BadTerm] = some false := by
    exact L2.kitAny_cons kx.i_NoText_BadPattern (fun _ => L2.kitAny_cons kx.i_NoText_BadTerm (fun _ => L2.kitAny_nil) (fun z => by cases z)) fun z => by cases z
  have fin : ∀ (d : D) (i : Int) (Γ : Sto) (P : QV) (X : D → Sto → Prop), P (.int i) Γ → (aSeq (aIfS (aTest (aOp oIsN (aVar 3) (aC .non))) (aRet (aVar 2)) aNext)
    (aSeq (aIfS (aOr (aNot (aTest (aIsi K (aVar 3) (aC (.ref cs.NoText))))) (aOr (aTest (aIsiT K (aVar 3) (aTup (aCons (aC (.ref cs.BadPattern)) (aCons (aC (.ref cs.BadTerm)) aNil))))) (aNot (aTest (aIsi K (aVar 3) (aC (.ty "ValueError"))))))) (aRet (aC (.str "other"))) aNext)
    (aRet (aXc K "at" (aVar 3))))) { nx := fun _ Γ' => P .non Γ', rt := P, bk := fun _ _ => False, ct := fun _ _ => False, ex := fun x _ Γ' => X x Γ' } [some d, none, some .non, some (.exc1 cs.NoText "at" (.int i))] Γ := fun d i Γ P X h => by
    walk_at "al"
    refine by_f ⟨kx.ex_NoText, _, kx.i_NoText_NoText, by_f ⟨s2, kx.ex_NoText, _, _, rfl, ky, by_f ⟨kx.ex_NoText, _, kx.v_NoText, by_f ⟨kx.xf_NoText, kx.o_NoText.2, rfl, h⟩⟩⟩⟩
  refine ⟨fun x Γ P X hx ho hP => ⟨rfl, ?_⟩, fun d hs hd Γ P X hP => ⟨rfl, ?_⟩⟩
  · show u__law_told_v2 K cs Fr _ [some (.str x), none, none, none] Γ
    delta u__law_told_v2
    walk_at "al"
    refine ⟨s2, rfl, rfl, ?_⟩
    refine hr.1 x Γ _ _ hx ho (fun d hd _ Γ' o => ?_) fun e he Γ' o => ?_
    · have hP := hP Γ' o
      unfold toldD at hP
      rw [hd] at hP
      exact by_t hP
    · have hP := hP Γ' o
      unfold toldD at hP
      rw [he] at hP
      rw [kx.m_NoText_MatchError]
      exact fin (.str x) _ Γ' P X hP
  · show u__law_told_v2 K cs Fr _ [some d, none, none, none] Γ
    delta u__law_told_v2
    walk_at "al"
    refine ⟨s2, rfl, rfl, ?_⟩
    refine hr.2 d hs hd Γ _ _ ?_
    rw [kx.m_NoText_MatchError]
    exact fin d _ Γ P X hP
end K05

set_option Elab.async false
set_option linter.all false
set_option maxRecDepth 100000
set_option maxHeartbeats 4000000
namespace K05
open PySem L2 DL AL LM Ma LMs Rd
variable [Wd]
local macro_rules | `(tactic| walk_at "al") => `(tactic| dsimp only [aSeq, aIfS, aRet, aRetN, aNext, aCont, aDrop, aAsg, aTest, aNot, aAnd, aOr, aYes, aOp, aUn, aC, aVar, aCB, aCons, aNil, aTup, aLst, aChain, aAndV, aOrV, aNotV, aIf, aSl, aPart, aNoPart, aCall, aCallK, aStar, aPar, aPar3, aAug, aFor, aRng, aSeqI, aLc, aListO, aRel, aLstO, aRaise0, aRaise1, aIsi, agN, agT, agCons, agNil, itemsOf, wipeD, List.map, List.set, List.getElem?_cons_zero, List.getElem?_cons_succ, List.append, List.length, oCmp, oInt, oIntC, onB, by2, oIxB, oIx, oIsN, oNotN, oAdd, cLen, oSl, oLtB, oTup, oNeg, aFree, aFreeD, aTry, aTryAs, clsD, oMulB, oMul, AL.pick, List.filterMap, cSum, cInt, cMax, cMax2, oIxC, aDNew, oGeB, aDNewO, aSetI, aMu, onL, mAppend, mPop, aMp, mCount, isLst, oEqB, oEq, oNeB, oNe, aEnum, aDGet2, aDisp, aPr, aSplit, aRepl, aXc, aIsiT, isDct, onDct, Rd.rs_int, Rd.rs_str, Rd.rs_bl, Rd.rs_non, Rd.rs_lst, Rd.rs_tup, Rd.rs_dct])
variable {K : PySem.W.Frag} {cs : Cs}
theorem _root_.Rd.Ot.dr {Γ Γ' : Sto} {a : Addr} (h : Ot [] Γ Γ') (d : Dr Γ a) : Dr Γ' a := by
  obtain ⟨c, hc⟩ := d
  exact ⟨c, by rw [h a (by simp) (by rw [hc]; exact fun z => nomatch z)]; exact hc⟩
theorem shl (x : Str) (h : (decide (x.length < 1000) && PyData.strOk x) = true) : short (.str x) := by
  simp only [Bool.and_eq_true, decide_eq_true_eq] at h
  exact ⟨small (by omega), h.2⟩
/-! ### a text spoilt -/
theorem app_ok {x y : Str} (h : PyData.strOk x = true) (g : PyData.strOk y = true) : PyData.strOk (x ++ y) = true := strOk_of fun c hc => by
  rw [app_toList] at hc
  rcases List.mem_append.mp hc with z | z
  · exact strOk_mem h c z
  · exact strOk_mem g c z
theorem cut_len (x : Str) (lo hi : Option Int) : (cutS x lo hi).length ≤ x.length := by
  unfold cutS
  show (List.toArray _).size ≤ _
  rw [List.size_toArray, List.length_take, List.length_drop]
  have : x.cps.toList.length = x.length := Array.length_toList
  omega
abbrev bits : List Str := (["a", "z", "(", ")", ",", "?", " ", "?x", "f(", ",a", "A", "0", "-", "abcdefgh", "?abcd", "()", ")a", "a b"] : List Str) ++ (["\n", "\t"] : List Str)
theorem bits_ok : ∀ x, x ∈ bits → x.length ≤ 8 ∧ PyData.strOk x = true := fun x hx => by
  have h : (bits.all fun x => decide (x.length ≤ 8) && PyData.strOk x) = true := by decide +kernel
  have := List.all_eq_true.mp h x hx
  simpa using this
theorem bits_ne : bits.map D.str ≠ [] := by simp [bits]
theorem bits_len : (bits.map D.str).length = 20 := by rw [List.length_map]; rfl
def Ssp (F : AF) : Prop := ∀ (x : Str) (a : Addr) (Γ : Sto) (P : QV) X, Dr Γ a → x.length ≤ 100000 → PyData.strOk x = true → (∀ y : Str, y.length ≤ 2 * x.length + 8 → PyData.strOk y = true → P (.str y) Γ) → F [.ref a, .str x] Γ P X
theorem s_spoilt {Ft Fp : AF} (ht : Stk Ft) (hp : Spk Fp) : Ssp (afn N__law_spoilt p__law_spoilt (u__law_spoilt K cs Ft Fp)) := fun x a Γ P X dr hx ho hP => by
  refine ⟨rfl, ?_⟩
  have hz : ∀ {n : Nat}, n ≤ 600000 → n ≤ sizeLine := fun h => by rw [sizeLine_eq]; omega
  show u__law_spoilt K cs Ft Fp _ [some (.ref a), some (.str x), none, none, none] Γ
  delta u__law_spoilt
  walk_at "al"
  refine ⟨hz (by omega), ?_⟩
  refine ht Γ a _ _ _ dr (by omega) (by omega) fun i i0 i1 => ?_
  refine ht Γ a 3 _ _ dr (by decide) (by decide) fun j j0 j1 => ?_
  refine ⟨hz (by decide), hz (by decide), hz (by decide), ?_⟩
  refine ⟨fun _ => ?_, fun _ => ?_⟩
  · have c1 := cut_len x none (some i)
    have c2 := cut_len x (some (i + 1)) none
    refine ⟨hz (by omega), hz (by omega), hz (by omega), hP _ ?_ (app_ok (cutS_ok ho) (cutS_ok ho))⟩
    rw [app_length]
    omega
  · refine ⟨hz (by omega), ?_⟩
    refine hp Γ a (bits.map D.str) _ _ dr bits_ne (by rw [bits_len]; decide) fun d hd => ?_
    obtain ⟨y, hy, rfl⟩ := List.mem_map.mp hd
    obtain ⟨b1, b2⟩ := bits_ok y hy
    have c1 := cut_len x none (some i)
    have c2 := cut_len x (some (i + j - 1)) none
    have e := app_length (cutS x none (some i)) y
    refine ⟨hz (by omega), hz (by omega), hz (by omega), hP _ ?_ (app_ok (app_ok (cutS_ok ho) b2) (cutS_ok ho))⟩
    rw [app_length]
    omega
/-! ### much opened -/
theorem rep_fo (k : Nat) : (repS ("f(" : Str) k).cps.toList = (List.replicate k [102, 40]).flatten := by
  have e : ("f(" : Str).cps.toList = [102, 40] := by decide +kernel
  unfold repS
  rw [e]
theorem fo_len : ∀ k : Nat, ((List.replicate k [102, 40]).flatten : T).length = 2 * k
  | 0 => rfl
  | k + 1 => by
    rw [List.replicate_succ, List.flatten_cons, List.length_append, fo_len k]
    simp
    omega
theorem run_cons {c n m m' : Nat} {l : T} {s s' : Sg} {dp dp' : List Nat} (h : Rd.step s m dp c = some (s', m', dp')) : run (c :: l) n s m dp = run l (n + 1) s' m' dp' := by
  unfold Rd.run
  rw [h]
  cases l <;> rfl
theorem run_none {c n m : Nat} {l : T} {s : Sg} {dp : List Nat} (h : Rd.step s m dp c = none) : run (c :: l) n s m dp = .error n := by
  unfold Rd.run
  rw [h]
theorem fo_run (r : T) : ∀ (k n : Nat) (dp : List Nat), ∃ dp', run ((List.replicate k [102, 40]).flatten ++ r) n .beg 0 dp = run r (n + 2 * k) .beg 0 dp'
  | 0, n, dp => ⟨dp, by simp⟩
  | k + 1, n, dp => by
    obtain ⟨dp', h⟩ := fo_run r k (n + 2) (1 :: dp)
    refine ⟨dp', ?_⟩
    rw [List.replicate_succ, List.flatten_cons, List.append_assoc, show n + 2 * (k + 1) = n + 2 + 2 * k by omega, ← h]
    have l1 : isLet 102 = true := by decide +kernel
    have l2 : isLet 40 = false := by decide +kernel
    have e1 : Rd.step .beg 0 dp 102 = some (.name, 1, dp) := by
      unfold Rd.step
      dsimp only
      rw [l1, if_pos rfl]
    have e2 : Rd.step .name 1 dp 40 = some (.beg, 0, 1 :: dp) := by
      unfold Rd.step
      dsimp only
      rw [l2, if_neg Bool.false_ne_true]
      rfl
    show run (102 :: 40 :: ((List.replicate k [102, 40]).flatten ++ r)) n .beg 0 dp = _
    rw [run_cons e1, run_cons e2]
theorem fo_ok (k : Nat) : PyData.strOk (repS ("f(" : Str) k) = true := strOk_of fun c hc => by
  rw [rep_fo] at hc
  obtain ⟨l, hl, hc⟩ := List.mem_flatten.mp hc
  rw [(List.mem_replicate.mp hl).2] at hc
  simp only [List.mem_cons, List.not_mem_nil, or_false] at hc
  rcases hc with rfl | rfl <;> decide
theorem fo_told (k : Nat) : toldD (repS ("f(" : Str) k) = .int ((2 * k : Nat) : Int) := by
  obtain ⟨dp', h⟩ := fo_run [] k 0 []
  rw [List.append_nil, ← rep_fo, Nat.zero_add] at h
  have h2 : run [] (2 * k) .beg 0 dp' = .error (2 * k) := rfl
  rw [h2] at h
  have e := (told_text (repS ("f(" : Str) k).cps.toList).1 (2 * k) h
  unfold toldD
  rw [e]
theorem fo_told2 (k : Nat) : toldD (repS ("f(" : Str) k ++ ")") = .int ((2 * k : Nat) : Int) := by
  obtain ⟨dp', h⟩ := fo_run [41] k 0 []
  have e0 : (repS ("f(" : Str) k ++ ")").cps.toList = (List.replicate k [102, 40]).flatten ++ [41] := by rw [app_toList, rep_fo, cp_l]
  have hs : Rd.step .beg 0 dp' 41 = none := by
    unfold Rd.step
    dsimp only
    rw [show isLet 41 = false by decide +kernel, if_neg Bool.false_ne_true]
    rfl
  rw [run_none hs, ← e0, Nat.zero_add] at h
  have e := (told_text (repS ("f(" : Str) k ++ ")").cps.toList).1 (2 * k) h
  unfold toldD
  rw [e]
theorem fo_slen (k : Nat) : (repS ("f(" : Str) k).length = 2 * k := by
  show (repS ("f(" : Str) k).cps.size = _
  rw [← Array.length_toList, rep_fo, fo_len]
/-! ### the law -/
abbrev odd5 : List D := [.non, .int 0, .bl true, .tup [.str "a"], .lst [.str "a"], .dct [], .tup [], .int 7]
theorem odd5_ok : ∀ d, d ∈ odd5 → short d ∧ isStr d = false := by
  intro d hd
  simp only [List.mem_cons, List.not_mem_nil, or_false] at hd
  rcases hd with rfl | rfl | rfl | rfl | rfl | rfl | rfl | rfl <;> exact ⟨trivial, rfl⟩
abbrev ev (a : Addr) (t2 t3 t4 t5 t6 t7 t8 : Option D) : DL.Env := [none, some (.ref a), t2, t3, t4, t5, t6, t7, t8]
section
variable {Fpat Ftk Fwr Fsp Fdu Ftl Fpick : AF} {a c : Addr}
theorem spoil_loop (hsp : Ssp Fsp) {Γ : Sto} (dr : Dr Γ a) {Po : AEnds} {t2 t3 t4 t7 t8 : Option D} : ∀ (xs : List D) (x : Str) (t6 : Option D), (x.length + 8) * 2 ^ xs.length ≤ 100000 → PyData.strOk x = true →
    (∀ (y : Str) t6, y.length ≤ 100000 → PyData.strOk y = true → Po.nx (ev a t2 t3 t4 (some (.str y)) t6 t7 t8) Γ) →
    aLoop (agN 6) (aAsg (aCall Fsp (aCons (aVar 1) (aCons (aVar 5) aNil))) (agN 5)) Po xs (ev a t2 t3 t4 (some (.str x)) t6 t7 t8) Γ
  | [], x, t6, hl, ho, h => h x t6 (by simp at hl; omega) ho
  | z :: xs, x, t6, hl, ho, h => by
    have e : 2 ^ (z :: xs).length = 2 * 2 ^ xs.length := by rw [List.length_cons, Nat.pow_succ, Nat.mul_comm]
    rw [e] at hl
    have h1 : 1 ≤ 2 ^ xs.length := Nat.one_le_two_pow
    have h2 : x.length + 8 ≤ (x.length + 8) * (2 * 2 ^ xs.length) := Nat.le_mul_of_pos_right _ (by omega)
    show Fsp [.ref a, .str x] Γ _ _
    refine hsp x a Γ _ _ dr (by omega) ho fun y hy oy => ?_
    refine spoil_loop hsp dr xs y _ ?_ oy h
    have h3 : (y.length + 8) * 2 ^ xs.length ≤ (2 * (x.length + 8)) * 2 ^ xs.length := Nat.mul_le_mul_right _ (by omega)
    have h4 : (2 * (x.length + 8)) * 2 ^ xs.length = (x.length + 8) * (2 * 2 ^ xs.length) := by
      rw [Nat.mul_comm 2 (x.length + 8), Nat.mul_assoc]
    omega
theorem turn (hpat : Spat 7 Fpat) (htk : Stk Ftk) (hwr : Stxt 7 Fwr) (hsp : Ssp Fsp) (hdu : Sdu Fdu) (htl : Stl Ftl) {Po : AEnds} : ∀ (xs : List D) (Γ : Sto) (t2 t3 t4 t5 t6 t7 t8 : Option D), Dr Γ a → (∀ Γ' t2 t3 t4 t5 t6 t7 t8, Dr Γ' a → Po.nx (ev a t2 t3 t4 t5 t6 t7 t8) Γ') →
    aLoop (agN 2) (u_law_K05_b1 K cs Fpat Ftk Fwr Fsp Fdu Ftl Fpick) Po xs (ev a t2 t3 t4 t5 t6 t7 t8) Γ
  | [], Γ, t2, t3, t4, t5, t6, t7, t8, dr, h => h Γ _ _ _ _ _ _ _ dr
  | x :: xs, Γ, t2, t3, t4, t5, t6, t7, t8, dr, h => by
    have go : ∀ Γ' t2 t3 t4 t5 t6 t7 t8, Dr Γ' a → aLoop (agN 2) (u_law_K05_b1 K cs Fpat Ftk Fwr Fsp Fdu Ftl Fpick) Po xs (ev a t2 t3 t4 t5 t6 t7 t8) Γ' := fun Γ' t2 t3 t4 t5 t6 t7 t8 dr' => turn hpat htk hwr hsp hdu htl xs Γ' t2 t3 t4 t5 t6 t7 t8 dr' h
    have hz : ∀ {n : Nat}, n ≤ 600000 → n ≤ sizeLine := fun h => by rw [sizeLine_eq]; omega
    show u_law_K05_b1 K cs Fpat Ftk Fwr Fsp Fdu Ftl Fpick { nx := aLoop (agN 2) (u_law_K05_b1 K cs Fpat Ftk Fwr Fsp Fdu Ftl Fpick) Po xs, rt := Po.rt, bk := Po.nx, ct := aLoop (agN 2) (u_law_K05_b1 K cs Fpat Ftk Fwr Fsp Fdu Ftl Fpick) Po xs, ex := Po.ex } (ev a (some x) t3 t4 t5 t6 t7 t8) Γ
    revert go
    generalize aLoop (agN 2) (u_law_K05_b1 K cs Fpat Ftk Fwr Fsp Fdu Ftl Fpick) Po xs = Lp
    intro go
    delta u_law_K05_b1
    walk_at "al"
    refine htk Γ a 6 _ _ dr (by decide) (by decide) fun i i0 i1 => ?_
    refine htk Γ a 2 _ _ dr (by decide) (by decide) fun j j0 j1 => ?_
    obtain ⟨k, hk⟩ : ∃ k : Nat, 1 + i = (k : Int) := ⟨(1 + i).toNat, by omega⟩
    show Fpat [.ref a, .int (1 + i), .bl (decide (j = 0))] Γ _ _
    rw [hk]
    refine hpat Γ a k _ _ _ (by omega) (by omega) dr fun d hd => ?_
    have hw := LMs.gpat.wf hd
    have htl' : (txt k d).length ≤ 20000 := Nat.le_trans (txt_len hw) (Nat.le_trans (tB_mono (n := k) (m := 6) (by omega)) (by decide))
    delta u_law_K05_b1_1
    walk_at "al"
    refine hwr d k (by omega) (by omega) hw Γ _ _ ?_
    delta u_law_K05_b1_2
    walk_at "al"
    refine htk Γ a 4 _ _ dr (by decide) (by decide) fun q q0 q1 => ⟨by decide, by omega, by omega, ?_⟩
    refine spoil_loop hsp dr _ (txt k d) _ ?_ (txt_ok hw) fun y t6 hy oy => ?_
    · have hn : (rng (q % 3).toNat).length ≤ 2 := by
        have : (rng (q % 3).toNat).length = (q % 3).toNat := by simp [rng]
        rw [this]
        omega
      have h2 : 2 ^ (rng (q % 3).toNat).length ≤ 2 ^ 2 := Nat.pow_le_pow_right (by decide) hn
      have h3 := Nat.mul_le_mul (Nat.add_le_add_right htl' 8) h2
      omega
    delta u_law_K05_b1_3
    walk_at "al"
    refine hdu y Γ _ _ (by omega) fun Γ1 o1 => ?_
    have dr1 := o1.dr dr
    refine htl.1 y Γ1 _ _ (by rw [sizeLine_eq]; omega) oy fun Γ2 o2 => ?_
    have dr2 := o2.dr dr1
    delta u_law_K05_b1_4
    walk_at "al"
    unfold dueD toldD
    cases hr : read y.cps.toList with
    | error e =>
      dsimp only
      refine by_t ?_
      show ((!decide (((e : Nat) : Int) = ((e : Nat) : Int))) = true → _) ∧ ((!decide (((e : Nat) : Int) = ((e : Nat) : Int))) = false → _)
      rw [decide_eq_true rfl]
      have ti : isTyD "int" (.int (e : Nat)) = some true := by
        unfold isTyD
        rw [if_neg (show ¬ tyOf (.int (e : Nat)) = "" by simp [tyOf])]
        exact (by decide +kernel : kitB "int" "int" = some true)
      refine by_f ⟨true, ti, by_f ?_⟩
      delta u_law_K05_b1_5
      walk_at "al"
      refine by_f (by_f ?_)
      delta u_law_K05_b1_6
      walk_at "al"
      exact by_f (by_f (go Γ2 _ _ _ _ _ _ _ dr2))
    | ok d1 =>
      dsimp only
      obtain ⟨w1, w2, w3⟩ : wf 5 d1 ∧ isPat d1 = true ∧ (txt 5 d1).cps.toList = nob y.cps.toList := by
        obtain ⟨tt1, tt2⟩ := told_text y.cps.toList
        cases hq : run y.cps.toList 0 .beg 0 [] with
        | error e => rw [tt1 e hq] at hr; cases hr
        | ok u =>
          obtain ⟨q1, q2⟩ := tt2 hq
          cases hb : bnd y.cps.toList with
          | false => rw [q1 hb] at hr; cases hr
          | true =>
            obtain ⟨d, e1, e2, e3, e4⟩ := q2 hb
            rw [e1] at hr
            cases hr
            exact ⟨e2, e3, e4⟩
      refine by_f (by_f ?_)
      delta u_law_K05_b1_5
      walk_at "al"
      have hrs : AL.rs Γ2 d1 = d1 := by rcases w1.cases with ⟨x, rfl, _⟩ | ⟨m, w, ps, _, rfl, _⟩ <;> rfl
      rw [hrs]
      refine by_t ?_
      have ty : ∀ Q : D → Prop, Q (.bl true) → cIsi K [d1, .tup [.ty "tuple", .ty "str"]] Q := fun Q hq => by
        rcases w1.cases with ⟨x, rfl, _⟩ | ⟨m, w, ps, _, rfl, _⟩
        · exact ⟨by simp [tyOf], ["tuple", "str"], true, rfl, (by decide +kernel : anyTy "str" ["tuple", "str"] = some true), hq⟩
        · exact ⟨by simp [tyOf], ["tuple", "str"], true, rfl, (by decide +kernel : anyTy "tuple" ["tuple", "str"] = some true), hq⟩
      refine ⟨hz (by decide), ty _ ?_⟩
      refine by_f ?_
      delta u_law_K05_b1_6
      walk_at "al"
      refine by_t (hwr d1 5 (by decide) (by decide) w1 Γ2 _ _ ?_)
      have em : ("" : Str).length = 0 := by decide +kernel
      refine ⟨by rw [em]; omega, ?_⟩
      have eq : txt 5 d1 = Txt.replace y " " "" := PySem.W.str_of_cps (by rw [w3, repl_nob])
      show ((!decide (txt 5 d1 = Txt.replace y " " "")) = true → _) ∧ ((!decide (txt 5 d1 = Txt.replace y " " "")) = false → _)
      rw [decide_eq_true eq]
      exact by_f (go Γ2 _ _ _ _ _ _ _ dr2)
theorem law_core (hpat : Spat 7 Fpat) (htk : Stk Ftk) (hwr : Stxt 7 Fwr) (hsp : Ssp Fsp) (hdu : Sdu Fdu) (htl : Stl Ftl) (hpick : Spk Fpick) :
    u_law_K05 K cs Fpat Ftk Fwr Fsp Fdu Ftl Fpick endsL (none :: some (.ref a) :: List.replicate 7 none) (sto0 a c) := by
  have dr0 : Dr (sto0 a c) a := ⟨c, by unfold sto0; rw [if_pos rfl]⟩
  have hz : ∀ {n : Nat}, n ≤ 600000 → n ≤ sizeLine := fun h => by rw [sizeLine_eq]; omega
  have hl : ∀ {n : Nat}, n ≤ 600000 → n < sizeLine := fun h => by rw [sizeLine_eq]; omega
  show u_law_K05 K cs Fpat Ftk Fwr Fsp Fdu Ftl Fpick endsL (ev a none none none none none none none) (sto0 a c)
  delta u_law_K05
  walk_at "al"
  refine ⟨by decide, by decide, ?_⟩
  refine turn hpat htk hwr hsp hdu htl (rng 8) (sto0 a c) _ _ _ _ _ _ _ dr0 fun Γ t2 t3 t4 t5 t6 t7 t8 dr => ?_
  delta u_law_K05_1
  walk_at "al"
  refine ⟨hz (by decide), hz (by decide), hz (by decide), hz (by decide), ?_⟩
  refine hpick Γ a odd5 _ _ dr (by simp) (by decide) fun d hd => ?_
  obtain ⟨h1, h2⟩ := odd5_ok d hd
  delta u_law_K05_2
  walk_at "al"
  refine htl.2 d h1 h2 Γ _ _ (by_f ?_)
  delta u_law_K05_3
  walk_at "al"
  refine ⟨by decide, by decide, by decide +kernel, ?_⟩
  refine htl.1 _ Γ _ _ (by rw [fo_slen]; exact hl (by decide)) (fo_ok _) fun Γ1 o1 => ?_
  have e1 := fo_told 900
  have e2 := fo_told2 900
  rw [show ((900 : Int).toNat) = 900 from rfl, e1]
  refine by_t ?_
  refine ⟨by decide, by decide, by decide +kernel, hz (by rw [fo_slen]; decide +kernel), ?_⟩
  refine htl.1 _ Γ1 _ _ (by rw [app_length, fo_slen]; exact hl (by decide +kernel)) (app_ok (fo_ok _) (by decide +kernel)) fun Γ2 o2 => ?_
  rw [e2]
  rfl
end
theorem main (kx : Kx K cs) {a c : Addr} (h : a ≠ c) : Goal K cs 40 a c := by
  have let' : ∀ L, Slet (fs K cs (L + 1)).f_are_letters := fun L => s_letters
  have nam : ∀ L, Sname (fs K cs (L + 2)).f_is_name := fun L => s_name (let' L)
  have hol' : ∀ L, Shole (fs K cs (L + 2)).f_is_hole := fun L => s_hole (let' L)
  have mea : ∀ n, Smeas n (fs K cs (n + 2)).f_measured := fun n => by
    induction n with
    | zero => exact fun d m b k hk => absurd hk (by omega)
    | succ n ih => exact s_meas (hol' n) (nam n) ih
  have mea' : ∀ L, Smeas 6 (fs K cs (L + 8)).f_measured := fun L => fun d m b k hk hf => mea (L + 6) d m b k (by omega) hf
  have isp' : ∀ L, Sisp (fs K cs (L + 9)).f_is_pattern := fun L => s_isp (mea' L)
  have tk : ∀ L, Stk (fs K cs (L + 1)).f__law_take := fun L => s_take
  have pk : ∀ L, Spk (fs K cs (L + 2)).f__law_pick := fun L => s_pick (tk L)
  have wd : ∀ L, Swd (fs K cs (L + 3)).f__law_word := fun L => s_word (tk (L + 1)) (pk L)
  have hl : ∀ L, Shl (fs K cs (L + 3)).f__law_hole := fun L => s_holeL (tk (L + 1)) (pk L)
  have ptn : ∀ n, Spat n (fs K cs (n + 3)).f__law_pattern := fun n => by
    induction n with
    | zero => exact fun Γ a k b P X h1 hk => absurd hk (by omega)
    | succ n ih => exact s_patL (tk (n + 2)) (hl n) (wd n) ih
  have wL : ∀ n, Stxt n (fs K cs n).f__law_written := fun n => by
    induction n with
    | zero => exact fun d k hk => absurd hk (by omega)
    | succ n ih => exact s_writtenL ih
  have bk : ∀ L, Sbk (fs K cs (L + 1)).f_behind_blanks := fun L => s_blanks
  have lt : ∀ L, Slt cs (fs K cs (L + 1)).f_behind_letters := fun L => s_lettersAt
  have lf : ∀ L, Slf cs (fs K cs (L + 2)).f_leaf_at := fun L => s_leaf (bk L) (lt L)
  have cl : ∀ L, Scl cs (fs K cs (L + 2)).f_closed := fun L => s_closed (bk L)
  have rd : Srd cs (fs K cs 39).f_read_pattern := s_read (lf 36) (cl 36) (isp' 29)
  have nx : Snx (fs K cs 38).f__law_next := s_next
  have wk : Swk (fs K cs 39).f__law_walk := s_walk nx
  have bd : Sbd (fs K cs 39).f__law_bounds := s_bounds
  have du : Sdu (fs K cs 40).f__law_due := s_due wk bd
  have tl : Stl (fs K cs 40).f__law_told := s_told kx rd
  have sp : Ssp (fs K cs 40).f__law_spoilt := s_spoilt (tk 38) (pk 37)
  exact law_core (Fpat := (fs K cs 40).f__law_pattern) (fun Γ a k b P X h1 hk => ptn 37 Γ a k b P X h1 (by omega)) (tk 39) (fun d k hk => wL 40 d k (by omega)) sp du tl (pk 38)
end K05

set_option Elab.async false
set_option linter.all false
set_option maxRecDepth 100000
set_option maxHeartbeats 4000000
namespace K05
open PySem L2 DL AL LM
def top (i : Nat) : Stmt := PySem.Challenge.pw_likematch_k05_texts_read_or_refused.main.body.getD i (.Pass ⟨0, 0, 0, 0⟩)
def cbody : Stmt → List Stmt
  | .ClassDef _ _ _ b _ _ _ _ _ _ _ => b
  | _ => []
abbrev s_init_NoText : Stmt := (cbody (top 4)).getD 0 (.Pass ⟨0, 0, 0, 0⟩)
theorem sc_init_NoText : FnScope ["self", "at"] ["self", "at"] (defScope s_init_NoText) := ⟨rfl, rfl, rfl, by decide +kernel, rfl, by decide +kernel, by decide +kernel⟩
theorem b_init_NoText : BindsS "__init__" "NoText.__init__" s_init_NoText ["self", "at"] := fun _ _ _ _ _ _ us hl => match us, hl with | [_, _], _ => rfl
theorem d_init_NoText {P : Program} [Wd] {K : PySem.W.Frag} {mg : Str → Option Value} {base : Heap} {cs : Cs} {f : Addr} {cdv : Value} {A : Around} {outer : List PySem.Env} {s : Shared} {H : Hp} {E : XK} : PSs (cxOf CX0 P Wd.w K mg base ["self", "at"] "NoText.__init__" (defScope s_init_NoText) f cdv A outer s H E).nox (defBody s_init_NoText) (tOst K "at" (tVar 0) (tVar 1)) := (pss_one (ps_ost (pv 0) (pv 1)))
structure Gb (P : Program) [Wd] (K : PySem.W.Frag) (mg : Str → Option Value) (base : Heap) (cs : Cs) : Prop where
  n_ValueError : mg "ValueError" = none
  n_abs : mg "abs" = none
  n_all : mg "all" = none
  n_enumerate : mg "enumerate" = none
  n_int : mg "int" = none
  n_isinstance : mg "isinstance" = none
  n_len : mg "len" = none
  n_list : mg "list" = none
  n_max : mg "max" = none
  n_range : mg "range" = none
  n_str : mg "str" = none
  n_sum : mg "sum" = none
  n_tuple : mg "tuple" = none
  c_LETTERS : ∃ t, mg "LETTERS" = some (.str "abcdefghijklmnopqrstuvwxyz" t)
  c_LONGEST : ∃ t, mg "LONGEST" = some (.int 8 t)
  c_LONGEST_HOLE : ∃ t, mg "LONGEST_HOLE" = some (.int 4 t)
  c_MOST_DEEP : ∃ t, mg "MOST_DEEP" = some (.int 5 t)
  c_MOST_PARTS : ∃ t, mg "MOST_PARTS" = some (.int 3 t)
  c_MOST_SIZE : ∃ t, mg "MOST_SIZE" = some (.int 30 t)
  y_NoText : Exc1 P Wd.w K mg base "NoText" cs.NoText "at"
  g_BadPattern : mg "BadPattern" = some (.ref cs.BadPattern)
  g_BadTerm : mg "BadTerm" = some (.ref cs.BadTerm)
  g_MatchError : mg "MatchError" = some (.ref cs.MatchError)
  g_NoText : mg "NoText" = some (.ref cs.NoText)

abbrev s_are_letters : Stmt := top 12
theorem sc_are_letters : FnScope N_are_letters p_are_letters (defScope s_are_letters) := ⟨rfl, rfl, rfl, by decide +kernel, rfl, by decide +kernel, by decide +kernel⟩
theorem b_are_letters : BindsS "are_letters" "are_letters" s_are_letters p_are_letters := fun _ _ _ _ _ _ us hl => match us, hl with | [_, _], _ => rfl
theorem d_are_letters {P : Program} [Wd] {K : PySem.W.Frag} {mg : Str → Option Value} {base : Heap} {cs : Cs} {f : Addr} {cdv : Value} {A : Around} {outer : List PySem.Env} {s : Shared} {H : Hp} {E : XK} {k : Nat} (G : Gb P K mg base cs) (hr : Room k (A.deeper (PyProof.Rows.envOfC "are_letters" (defScope s_are_letters) s.heap.objs.size f cdv))) :
    PSs (cxOf (L2.CX P Wd.w) P Wd.w K mg base N_are_letters "are_letters" (defScope s_are_letters) f cdv A outer s H E) (defBody s_are_letters) (LM.t_are_letters K cs fun cls d _ H' => E cls d H') :=
  (pss_one (ps_ret (pe_and (pe_chain op_le op_le pe_int (pe_callB call_lenA (by rfl) G.n_len PySem.boot_len (L2.pa_cons (pv 0) L2.pa_nil)) (pv 1)) (pe_one (pe_callB (cr_all rfl) (by rfl) G.n_all (by decide +kernel) (L2.pa_cons (pe_lc (own := [("sign", 2)]) (g := (gName 2)) (by rfl) sc_are_letters.nd (pi_seq (pv 0)) (blkOk_by (own := [("sign", 2)]) (N := N_are_letters) (sc := defScope s_are_letters) (by decide +kernel)) (fun _ _ _ _ _ => (pg_name (i := 2) sc_are_letters.nd rfl (Or.inl rfl))) (fun _ _ _ _ _ => pts_nil) (fun _ _ _ _ _ => (pe_cmpR op_inB (pv 2) (pe_gstr (by rfl) G.c_LETTERS) (by with_unfolding_all rfl)))) L2.pa_nil))))))

abbrev s_is_name : Stmt := top 13
theorem sc_is_name : FnScope N_is_name p_is_name (defScope s_is_name) := ⟨rfl, rfl, rfl, by decide +kernel, rfl, by decide +kernel, by decide +kernel⟩
theorem b_is_name : BindsS "is_name" "is_name" s_is_name p_is_name := fun _ _ _ _ _ _ us hl => match us, hl with | [_], _ => rfl
theorem d_is_name {P : Program} [Wd] {K : PySem.W.Frag} {mg : Str → Option Value} {base : Heap} {cs : Cs} {f : Addr} {cdv : Value} {A : Around} {outer : List PySem.Env} {s : Shared} {H : Hp} {E : XK} {k : Nat} {F_are_letters : AF} (G : Gb P K mg base cs) (C_are_letters : ClA P Wd.w K mg base k "are_letters" s_are_letters p_are_letters (spA F_are_letters)) (hr : Room k (A.deeper (PyProof.Rows.envOfC "is_name" (defScope s_is_name) s.heap.objs.size f cdv))) :
    PSs (cxOf (L2.CX P Wd.w) P Wd.w K mg base N_is_name "is_name" (defScope s_is_name) f cdv A outer s H E) (defBody s_is_name) (LM.t_is_name K cs F_are_letters fun cls d _ H' => E cls d H') :=
  (pss_one (ps_ret (pe_and (pe_callB call_isiA (by rfl) G.n_isinstance (by decide +kernel) (L2.pa_cons (pv 0) (L2.pa_cons (pe_gty (by rfl) G.n_str (by decide +kernel)) L2.pa_nil))) (pe_one (pe_clA C_are_letters hr (by rfl) (takes_of rfl rfl rfl rfl) b_are_letters (L2.pa_cons (pv 0) (L2.pa_cons (pe_gint (by rfl) G.c_LONGEST) L2.pa_nil)))))))

abbrev s_is_hole : Stmt := top 14
theorem sc_is_hole : FnScope N_is_hole p_is_hole (defScope s_is_hole) := ⟨rfl, rfl, rfl, by decide +kernel, rfl, by decide +kernel, by decide +kernel⟩
theorem b_is_hole : BindsS "is_hole" "is_hole" s_is_hole p_is_hole := fun _ _ _ _ _ _ us hl => match us, hl with | [_], _ => rfl
theorem d_is_hole {P : Program} [Wd] {K : PySem.W.Frag} {mg : Str → Option Value} {base : Heap} {cs : Cs} {f : Addr} {cdv : Value} {A : Around} {outer : List PySem.Env} {s : Shared} {H : Hp} {E : XK} {k : Nat} {F_are_letters : AF} (G : Gb P K mg base cs) (C_are_letters : ClA P Wd.w K mg base k "are_letters" s_are_letters p_are_letters (spA F_are_letters)) (hr : Room k (A.deeper (PyProof.Rows.envOfC "is_hole" (defScope s_is_hole) s.heap.objs.size f cdv))) :
    PSs (cxOf (L2.CX P Wd.w) P Wd.w K mg base N_is_hole "is_hole" (defScope s_is_hole) f cdv A outer s H E) (defBody s_is_hole) (LM.t_is_hole K cs F_are_letters fun cls d _ H' => E cls d H') :=
  (pss_one (ps_ret (pe_and (pe_callB call_isiA (by rfl) G.n_isinstance (by decide +kernel) (L2.pa_cons (pv 0) (L2.pa_cons (pe_gty (by rfl) G.n_str (by decide +kernel)) L2.pa_nil))) (pe_and (pe_cmpR (op_eqB hr.units) (pe_slice sl_any (pv 0) L2.po_none (L2.po_some pe_int)) pe_str (nomark _)) (pe_one (pe_clA C_are_letters hr (by rfl) (takes_of rfl rfl rfl rfl) b_are_letters (L2.pa_cons (pe_slice sl_any (pv 0) (L2.po_some pe_int) L2.po_none) (L2.pa_cons (pe_gint (by rfl) G.c_LONGEST_HOLE) L2.pa_nil))))))))

abbrev s_measured : Stmt := top 15
theorem sc_measured : FnScope N_measured p_measured (defScope s_measured) := ⟨rfl, rfl, rfl, by decide +kernel, rfl, by decide +kernel, by decide +kernel⟩
theorem bk_measured_2_holed : BindsK "measured" "measured" s_measured p_measured 2 ["holed"] [0, 1, 2] := fun _ _ _ _ _ _ us ws h1 h2 => match us, ws, h1, h2 with | [_, _], [_], _, _ => rfl
theorem d_measured {P : Program} [Wd] {K : PySem.W.Frag} {mg : Str → Option Value} {base : Heap} {cs : Cs} {f : Addr} {cdv : Value} {A : Around} {outer : List PySem.Env} {s : Shared} {H : Hp} {E : XK} {k : Nat} {F_is_hole : AF} {F_is_name : AF} {F_measured : AF} (G : Gb P K mg base cs) (C_is_hole : ClA P Wd.w K mg base k "is_hole" s_is_hole p_is_hole (spA F_is_hole)) (C_is_name : ClA P Wd.w K mg base k "is_name" s_is_name p_is_name (spA F_is_name)) (C_measured : ClA P Wd.w K mg base k "measured" s_measured p_measured (spA F_measured)) (hr : Room k (A.deeper (PyProof.Rows.envOfC "measured" (defScope s_measured) s.heap.objs.size f cdv))) :
    PSs (cxOf (L2.CX P Wd.w) P Wd.w K mg base N_measured "measured" (defScope s_measured) f cdv A outer s H E) (defBody s_measured) (LM.t_measured K cs F_is_hole F_is_name F_measured fun cls d _ H' => E cls d H') :=
  (pss_cons (ps_if (pt_cmpR (op_eqB hr.units) (pv 1) pe_int (nomark _)) (pss_one (ps_ret pe_int)) pss_nil)
    (pss_cons (ps_if (pt_val (pe_callB call_isiA (by rfl) G.n_isinstance (by decide +kernel) (L2.pa_cons (pv 0) (L2.pa_cons (pe_gty (by rfl) G.n_str (by decide +kernel)) L2.pa_nil)))) (pss_one (ps_ret (pe_callTy call_intA (by rfl) G.n_int (by decide +kernel) (L2.pa_cons (pe_and (pv 2) (pe_one (pe_clA C_is_hole hr (by rfl) (takes_of rfl rfl rfl rfl) b_is_hole (L2.pa_cons (pv 0) L2.pa_nil)))) L2.pa_nil)))) pss_nil)
    (pss_cons (ps_if ((pw_or (L2.pt_not (pt_val (pe_callB call_isiA (by rfl) G.n_isinstance (by decide +kernel) (L2.pa_cons (pv 0) (L2.pa_cons (pe_gty (by rfl) G.n_tuple (by decide +kernel)) L2.pa_nil))))) (pw_or (L2.pt_not (pt_chain op_le op_le pe_int (pe_callB call_lenA (by rfl) G.n_len PySem.boot_len (L2.pa_cons (pv 0) L2.pa_nil)) (pe_op op_addA (pe_gint (by rfl) G.c_MOST_PARTS) pe_int))) (pw_or1 (L2.pt_not (pt_val (pe_clA C_is_name hr (by rfl) (takes_of rfl rfl rfl rfl) b_is_name (L2.pa_cons (pe_ix ix_B (pv 0) pe_int (fun _ _ => rfl)) L2.pa_nil)))))))).pt (pss_one (ps_ret pe_int)) pss_nil)
    (pss_cons (ps_asg (pv 0) (pg_starT (i := 1) (n := 2) (by rfl) (pgs_cons (pg_name (i := 4) sc_measured.nd rfl (Or.inl rfl)) (pgs_starN (pg_name (i := 5) sc_measured.nd rfl (Or.inl rfl)) pgs_nil)) (by decide)))
    (pss_cons (ps_setLc (i := 3) (own := [("part", 6)]) (g := (gName 6)) (by rfl) sc_measured.nd rfl rfl (sw_true rfl rfl rfl (by decide +kernel)) (pi_seq (pv 5)) (blkOk_by (own := [("part", 6)]) (N := N_measured) (sc := defScope s_measured) (by decide +kernel)) (fun _ _ _ _ _ => (pg_name (i := 6) sc_measured.nd rfl (Or.inl rfl))) (fun _ _ _ _ _ => pts_nil) (fun _ _ _ _ _ => (pe_clK (ks := ["holed"]) C_measured hr (by rfl) takes0 bk_measured_2_holed (L2.pa_cons (pv 6) (L2.pa_cons (pe_op op_sub (pv 1) pe_int) L2.pa_nil)) (pk_cons (pv 2) pk_nil))))
    (pss_one (ps_ret (pe_ifExp (pt_cmpR op_inB pe_int (pv 3) (by with_unfolding_all rfl)) pe_int (pe_op op_addA pe_int (pe_callB (cr_sum rfl) (by rfl) G.n_sum (by decide +kernel) (L2.pa_cons (pv 3) L2.pa_nil)))))))))))

abbrev s_is_pattern : Stmt := top 16
theorem sc_is_pattern : FnScope N_is_pattern p_is_pattern (defScope s_is_pattern) := ⟨rfl, rfl, rfl, by decide +kernel, rfl, by decide +kernel, by decide +kernel⟩
theorem b_is_pattern : BindsS "is_pattern" "is_pattern" s_is_pattern p_is_pattern := fun _ _ _ _ _ _ us hl => match us, hl with | [_], _ => rfl
theorem d_is_pattern {P : Program} [Wd] {K : PySem.W.Frag} {mg : Str → Option Value} {base : Heap} {cs : Cs} {f : Addr} {cdv : Value} {A : Around} {outer : List PySem.Env} {s : Shared} {H : Hp} {E : XK} {k : Nat} {F_measured : AF} (G : Gb P K mg base cs) (C_measured : ClA P Wd.w K mg base k "measured" s_measured p_measured (spA F_measured)) (hr : Room k (A.deeper (PyProof.Rows.envOfC "is_pattern" (defScope s_is_pattern) s.heap.objs.size f cdv))) :
    PSs (cxOf (L2.CX P Wd.w) P Wd.w K mg base N_is_pattern "is_pattern" (defScope s_is_pattern) f cdv A outer s H E) (defBody s_is_pattern) (LM.t_is_pattern K cs F_measured fun cls d _ H' => E cls d H') :=
  (pss_one (ps_ret (pe_chain op_le op_le pe_int (pe_clK (ks := ["holed"]) C_measured hr (by rfl) (takes_of rfl rfl rfl rfl) bk_measured_2_holed (L2.pa_cons (pv 0) (L2.pa_cons (pe_gint (by rfl) G.c_MOST_DEEP) L2.pa_nil)) (pk_cons pe_bl pk_nil)) (pe_gint (by rfl) G.c_MOST_SIZE))))

abbrev s_behind_blanks : Stmt := top 18
theorem sc_behind_blanks : FnScope N_behind_blanks p_behind_blanks (defScope s_behind_blanks) := ⟨rfl, rfl, rfl, by decide +kernel, rfl, by decide +kernel, by decide +kernel⟩
theorem b_behind_blanks : BindsS "behind_blanks" "behind_blanks" s_behind_blanks p_behind_blanks := fun _ _ _ _ _ _ us hl => match us, hl with | [_, _], _ => rfl
theorem d_behind_blanks {P : Program} [Wd] {K : PySem.W.Frag} {mg : Str → Option Value} {base : Heap} {cs : Cs} {f : Addr} {cdv : Value} {A : Around} {outer : List PySem.Env} {s : Shared} {H : Hp} {E : XK} {k : Nat} (G : Gb P K mg base cs) (hr : Room k (A.deeper (PyProof.Rows.envOfC "behind_blanks" (defScope s_behind_blanks) s.heap.objs.size f cdv))) :
    PSs (cxOf (L2.CX P Wd.w) P Wd.w K mg base N_behind_blanks "behind_blanks" (defScope s_behind_blanks) f cdv A outer s H E) (defBody s_behind_blanks) (LM.t_behind_blanks K cs fun cls d _ H' => E cls d H') :=
  (pss_cons (ps_while (passes_of rfl) (pt_cmpR (op_eqB hr.units) (pe_slice sl_any (pv 0) (L2.po_some (pv 1)) (L2.po_some (pe_op op_addA (pv 1) pe_int))) pe_str (nomark _)) (pss_one (ps_aug (i := 1) sc_behind_blanks.nd rfl (Or.inl rfl) pe_int ip_add)))
    (pss_one (ps_ret (pv 1))))

abbrev s_behind_letters : Stmt := top 19
theorem sc_behind_letters : FnScope N_behind_letters p_behind_letters (defScope s_behind_letters) := ⟨rfl, rfl, rfl, by decide +kernel, rfl, by decide +kernel, by decide +kernel⟩
theorem b_behind_letters : BindsS "behind_letters" "behind_letters" s_behind_letters p_behind_letters := fun _ _ _ _ _ _ us hl => match us, hl with | [_, _, _], _ => rfl
theorem d_behind_letters {P : Program} [Wd] {K : PySem.W.Frag} {mg : Str → Option Value} {base : Heap} {cs : Cs} {f : Addr} {cdv : Value} {A : Around} {outer : List PySem.Env} {s : Shared} {H : Hp} {E : XK} {k : Nat} (G : Gb P K mg base cs) (hr : Room k (A.deeper (PyProof.Rows.envOfC "behind_letters" (defScope s_behind_letters) s.heap.objs.size f cdv))) (hk : 2 ≤ k) :
    PSs (cxOf (L2.CX P Wd.w) P Wd.w K mg base N_behind_letters "behind_letters" (defScope s_behind_letters) f cdv A outer s H E) (defBody s_behind_letters) (LM.t_behind_letters K cs fun cls d _ H' => E cls d H') :=
  (pss_cons (ps_set (i := 3) sc_behind_letters.nd rfl (Or.inl rfl) (pv 1))
    (pss_cons (ps_while (passes_of rfl) ((pw_and (pt_cmpR (op_ltB hr.units) (pv 3) (pe_op op_addA (pv 1) (pv 2)) (nomark _)) (pw_and (pt_cmpR (op_ltB hr.units) (pv 3) (pe_callB call_lenA (by rfl) G.n_len PySem.boot_len (L2.pa_cons (pv 0) L2.pa_nil)) (nomark _)) (pw_and1 (pt_cmpR op_inB (pe_ix ix_B (pv 0) (pv 3) (fun _ _ => rfl)) (pe_gstr (by rfl) G.c_LETTERS) (by with_unfolding_all rfl)))))).pt (pss_one (ps_aug (i := 3) sc_behind_letters.nd rfl (Or.inl rfl) pe_int ip_add)))
    (pss_cons (ps_if ((pw_or (pt_cmpR (op_eqB hr.units) (pv 3) (pv 1) (nomark _)) (pw_or1 ((pw_and (pt_cmpR (op_eqB hr.units) (pv 3) (pe_op op_addA (pv 1) (pv 2)) (nomark _)) (pw_and (pt_cmpR (op_ltB hr.units) (pv 3) (pe_callB call_lenA (by rfl) G.n_len PySem.boot_len (L2.pa_cons (pv 0) L2.pa_nil)) (nomark _)) (pw_and1 (pt_cmpR op_inB (pe_ix ix_B (pv 0) (pv 3) (fun _ _ => rfl)) (pe_gstr (by rfl) G.c_LETTERS) (by with_unfolding_all rfl)))))).pt))).pt (pss_one (ps_raise1 G.y_NoText rfl (takes_of rfl rfl rfl rfl) hr hk (by rfl) (pv 3))) pss_nil)
    (pss_one (ps_ret (pv 3))))))

abbrev s_leaf_at : Stmt := top 20
theorem sc_leaf_at : FnScope N_leaf_at p_leaf_at (defScope s_leaf_at) := ⟨rfl, rfl, rfl, by decide +kernel, rfl, by decide +kernel, by decide +kernel⟩
theorem b_leaf_at : BindsS "leaf_at" "leaf_at" s_leaf_at p_leaf_at := fun _ _ _ _ _ _ us hl => match us, hl with | [_, _], _ => rfl
theorem d_leaf_at {P : Program} [Wd] {K : PySem.W.Frag} {mg : Str → Option Value} {base : Heap} {cs : Cs} {f : Addr} {cdv : Value} {A : Around} {outer : List PySem.Env} {s : Shared} {H : Hp} {E : XK} {k : Nat} {F_behind_blanks : AF} {F_behind_letters : AF} (G : Gb P K mg base cs) (C_behind_blanks : ClA P Wd.w K mg base k "behind_blanks" s_behind_blanks p_behind_blanks (spA F_behind_blanks)) (C_behind_letters : ClA P Wd.w K mg base k "behind_letters" s_behind_letters p_behind_letters (spA F_behind_letters)) (hr : Room k (A.deeper (PyProof.Rows.envOfC "leaf_at" (defScope s_leaf_at) s.heap.objs.size f cdv))) :
    PSs (cxOf (L2.CX P Wd.w) P Wd.w K mg base N_leaf_at "leaf_at" (defScope s_leaf_at) f cdv A outer s H E) (defBody s_leaf_at) (LM.t_leaf_at K cs F_behind_blanks F_behind_letters fun cls d _ H' => E cls d H') :=
  (pss_cons (ps_set (i := 1) sc_leaf_at.nd rfl (Or.inl rfl) (pe_clA C_behind_blanks hr (by rfl) (takes_of rfl rfl rfl rfl) b_behind_blanks (L2.pa_cons (pv 0) (L2.pa_cons (pv 1) L2.pa_nil))))
    (pss_cons (ps_if (pt_cmpR (op_eqB hr.units) (pe_slice sl_any (pv 0) (L2.po_some (pv 1)) (L2.po_some (pe_op op_addA (pv 1) pe_int))) pe_str (nomark _)) (pss_cons (ps_set (i := 2) sc_leaf_at.nd rfl (Or.inl rfl) (pe_clA C_behind_letters hr (by rfl) (takes_of rfl rfl rfl rfl) b_behind_letters (L2.pa_cons (pv 0) (L2.pa_cons (pe_op op_addA (pv 1) pe_int) (L2.pa_cons (pe_gint (by rfl) G.c_LONGEST_HOLE) L2.pa_nil)))))
    (pss_one (ps_ret (pe_tup (L2.pa_cons (pe_slice sl_any (pv 0) (L2.po_some (pv 1)) (L2.po_some (pv 2))) (L2.pa_cons (pe_clA C_behind_blanks hr (by rfl) (takes_of rfl rfl rfl rfl) b_behind_blanks (L2.pa_cons (pv 0) (L2.pa_cons (pv 2) L2.pa_nil))) L2.pa_nil)))))) pss_nil)
    (pss_cons (ps_set (i := 2) sc_leaf_at.nd rfl (Or.inl rfl) (pe_clA C_behind_letters hr (by rfl) (takes_of rfl rfl rfl rfl) b_behind_letters (L2.pa_cons (pv 0) (L2.pa_cons (pv 1) (L2.pa_cons (pe_gint (by rfl) G.c_LONGEST) L2.pa_nil)))))
    (pss_one (ps_ret (pe_tup (L2.pa_cons (pe_tup (L2.pa_cons (pe_slice sl_any (pv 0) (L2.po_some (pv 1)) (L2.po_some (pv 2))) L2.pa_nil)) (L2.pa_cons (pe_clA C_behind_blanks hr (by rfl) (takes_of rfl rfl rfl rfl) b_behind_blanks (L2.pa_cons (pv 0) (L2.pa_cons (pv 2) L2.pa_nil))) L2.pa_nil))))))))

abbrev s_closed : Stmt := top 21
theorem sc_closed : FnScope N_closed p_closed (defScope s_closed) := ⟨rfl, rfl, rfl, by decide +kernel, rfl, by decide +kernel, by decide +kernel⟩
theorem b_closed : BindsS "closed" "closed" s_closed p_closed := fun _ _ _ _ _ _ us hl => match us, hl with | [_, _, _, _], _ => rfl
theorem d_closed {P : Program} [Wd] {K : PySem.W.Frag} {mg : Str → Option Value} {base : Heap} {cs : Cs} {f : Addr} {cdv : Value} {A : Around} {outer : List PySem.Env} {s : Shared} {H : Hp} {E : XK} {k : Nat} {F_behind_blanks : AF} (G : Gb P K mg base cs) (C_behind_blanks : ClA P Wd.w K mg base k "behind_blanks" s_behind_blanks p_behind_blanks (spA F_behind_blanks)) (hr : Room k (A.deeper (PyProof.Rows.envOfC "closed" (defScope s_closed) s.heap.objs.size f cdv))) (hk : 2 ≤ k) :
    PSs (cxOf (L2.CX P Wd.w) P Wd.w K mg base N_closed "closed" (defScope s_closed) f cdv A outer s H E) (defBody s_closed) (LM.t_closed K cs F_behind_blanks fun cls d _ H' => E cls d H') :=
  (pss_cons (ps_while (passes_of rfl) (pt_cmpR (op_neE hr.units) (pv 3) (pe_lst L2.pa_nil) (nomark _)) (pss_cons (ps_expr (pe_bm PySem.F.plainAttrs_list PySem.F.slot_list_append PySem.F.type_list_append mt_append (pe_ix ix_B (pv 3) (pe_un un_neg pe_int) (fun _ _ => rfl)) (L2.pa_cons (pv 2) L2.pa_nil)))
    (pss_cons (ps_set (i := 4) sc_closed.nd rfl (Or.inl rfl) (pe_slice sl_any (pv 0) (L2.po_some (pv 1)) (L2.po_some (pe_op op_addA (pv 1) pe_int))))
    (pss_cons (ps_if ((pw_and (pt_cmpR (op_eqB hr.units) (pv 4) pe_str (nomark _)) (pw_and1 (pt_cmpR op_le (pe_callB call_lenA (by rfl) G.n_len PySem.boot_len (L2.pa_cons (pe_ix ix_B (pv 3) (pe_un un_neg pe_int) (fun _ _ => rfl)) L2.pa_nil)) (pe_gint (by rfl) G.c_MOST_PARTS) (nomark _))))).pt (pss_one (ps_ret (pe_tup (L2.pa_cons pe_non (L2.pa_cons (pe_op op_addA (pv 1) pe_int) L2.pa_nil))))) pss_nil)
    (pss_cons (ps_if (pt_cmpR (op_neB hr.units) (pv 4) pe_str (nomark _)) (pss_one (ps_raise1 G.y_NoText rfl (takes_of rfl rfl rfl rfl) hr hk (by rfl) (pv 1))) pss_nil)
    (pss_one (ps_par (i := 2) (j := 1) (by rfl) sc_closed.nd rfl rfl (by decide) rfl rfl (L2.pa_cons (pe_tupleOf (by rfl) G.n_tuple (pe_bm0 PySem.F.plainAttrs_list PySem.F.slot_list_pop PySem.F.type_list_pop mt_pop (pv 3))) (L2.pa_cons (pe_clA C_behind_blanks hr (by rfl) (takes_of rfl rfl rfl rfl) b_behind_blanks (L2.pa_cons (pv 0) (L2.pa_cons (pe_op op_addA (pv 1) pe_int) L2.pa_nil))) L2.pa_nil)) (by rfl))))))))
    (pss_one (ps_ret (pe_tup (L2.pa_cons (pv 2) (L2.pa_cons (pv 1) L2.pa_nil))))))

abbrev s_read_pattern : Stmt := top 22
theorem sc_read_pattern : FnScope N_read_pattern p_read_pattern (defScope s_read_pattern) := ⟨rfl, rfl, rfl, by decide +kernel, rfl, by decide +kernel, by decide +kernel⟩
theorem b_read_pattern : BindsS "read_pattern" "read_pattern" s_read_pattern p_read_pattern := fun _ _ _ _ _ _ us hl => match us, hl with | [_], _ => rfl
theorem d_read_pattern {P : Program} [Wd] {K : PySem.W.Frag} {mg : Str → Option Value} {base : Heap} {cs : Cs} {f : Addr} {cdv : Value} {A : Around} {outer : List PySem.Env} {s : Shared} {H : Hp} {E : XK} {k : Nat} {F_leaf_at : AF} {F_closed : AF} {F_is_pattern : AF} (G : Gb P K mg base cs) (C_leaf_at : ClA P Wd.w K mg base k "leaf_at" s_leaf_at p_leaf_at (spA F_leaf_at)) (C_closed : ClA P Wd.w K mg base k "closed" s_closed p_closed (spA F_closed)) (C_is_pattern : ClA P Wd.w K mg base k "is_pattern" s_is_pattern p_is_pattern (spA F_is_pattern)) (hr : Room k (A.deeper (PyProof.Rows.envOfC "read_pattern" (defScope s_read_pattern) s.heap.objs.size f cdv))) (hk : 2 ≤ k) :
    PSs (cxOf (L2.CX P Wd.w) P Wd.w K mg base N_read_pattern "read_pattern" (defScope s_read_pattern) f cdv A outer s H E) (defBody s_read_pattern) (LM.t_read_pattern K cs F_leaf_at F_closed F_is_pattern fun cls d _ H' => E cls d H') :=
  (pss_cons (ps_if (L2.pt_not (pt_val (pe_callB call_isiA (by rfl) G.n_isinstance (by decide +kernel) (L2.pa_cons (pv 0) (L2.pa_cons (pe_gty (by rfl) G.n_str (by decide +kernel)) L2.pa_nil))))) (pss_one (ps_raise1 G.y_NoText rfl (takes_of rfl rfl rfl rfl) hr hk (by rfl) pe_int)) pss_nil)
    (pss_cons (ps_par3 (i := 1) (j := 2) (l := 3) (by rfl) sc_read_pattern.nd rfl rfl rfl (by decide) (by decide) (by decide) rfl rfl rfl (L2.pa_cons (pe_lst L2.pa_nil) (L2.pa_cons pe_non (L2.pa_cons pe_int L2.pa_nil))) (by rfl))
    (pss_cons (ps_while (passes_of rfl) (pt_cmpR op_isN1 (pv 2) pe_non (nomark _)) (pss_cons (ps_asg (pe_clA C_leaf_at hr (by rfl) (takes_of rfl rfl rfl rfl) b_leaf_at (L2.pa_cons (pv 0) (L2.pa_cons (pv 3) L2.pa_nil))) (pg_tup (by rfl) (pgs_cons (pg_name (i := 4) sc_read_pattern.nd rfl (Or.inl rfl)) (pgs_cons (pg_name (i := 3) sc_read_pattern.nd rfl (Or.inl rfl)) pgs_nil))))
    (pss_one (ps_if ((pw_and (pt_val (pe_callB call_isiA (by rfl) G.n_isinstance (by decide +kernel) (L2.pa_cons (pv 4) (L2.pa_cons (pe_gty (by rfl) G.n_tuple (by decide +kernel)) L2.pa_nil)))) (pw_and1 (pt_cmpR (op_eqB hr.units) (pe_slice sl_any (pv 0) (L2.po_some (pv 3)) (L2.po_some (pe_op op_addA (pv 3) pe_int))) pe_str (nomark _))))).pt (pss_cons (ps_expr (pe_bm PySem.F.plainAttrs_list PySem.F.slot_list_append PySem.F.type_list_append mt_append (pv 1) (L2.pa_cons (pe_callTy (call_listB rfl) (by rfl) G.n_list (by decide +kernel) (L2.pa_cons (pv 4) L2.pa_nil)) L2.pa_nil)))
    (pss_one (ps_aug (i := 3) sc_read_pattern.nd rfl (Or.inl rfl) pe_int ip_add))) (pss_one (ps_asg (pe_clA C_closed hr (by rfl) (takes_of rfl rfl rfl rfl) b_closed (L2.pa_cons (pv 0) (L2.pa_cons (pv 3) (L2.pa_cons (pv 4) (L2.pa_cons (pv 1) L2.pa_nil))))) (pg_tup (by rfl) (pgs_cons (pg_name (i := 2) sc_read_pattern.nd rfl (Or.inl rfl)) (pgs_cons (pg_name (i := 3) sc_read_pattern.nd rfl (Or.inl rfl)) pgs_nil)))))))))
    (pss_cons (ps_if (pt_cmpR (op_ltB hr.units) (pv 3) (pe_callB call_lenA (by rfl) G.n_len PySem.boot_len (L2.pa_cons (pv 0) L2.pa_nil)) (nomark _)) (pss_one (ps_raise1 G.y_NoText rfl (takes_of rfl rfl rfl rfl) hr hk (by rfl) (pv 3))) pss_nil)
    (pss_cons (ps_if (L2.pt_not (pt_val (pe_clA C_is_pattern hr (by rfl) (takes_of rfl rfl rfl rfl) b_is_pattern (L2.pa_cons (pv 2) L2.pa_nil)))) (pss_one (ps_raise1 G.y_NoText rfl (takes_of rfl rfl rfl rfl) hr hk (by rfl) (pe_callB call_lenA (by rfl) G.n_len PySem.boot_len (L2.pa_cons (pv 0) L2.pa_nil)))) pss_nil)
    (pss_one (ps_ret (pv 2))))))))

abbrev s__law_begin : Stmt := top 24
theorem sc__law_begin : FnScope N__law_begin p__law_begin (defScope s__law_begin) := ⟨rfl, rfl, rfl, by decide +kernel, rfl, by decide +kernel, by decide +kernel⟩
theorem b__law_begin : BindsS "_law_begin" "_law_begin" s__law_begin p__law_begin := fun _ _ _ _ _ _ us hl => match us, hl with | [_], _ => rfl
theorem d__law_begin {P : Program} [Wd] {K : PySem.W.Frag} {mg : Str → Option Value} {base : Heap} {cs : Cs} {f : Addr} {cdv : Value} {A : Around} {outer : List PySem.Env} {s : Shared} {H : Hp} {E : XK} {k : Nat} (G : Gb P K mg base cs) (hr : Room k (A.deeper (PyProof.Rows.envOfC "_law_begin" (defScope s__law_begin) s.heap.objs.size f cdv))) :
    PSs (cxOf CX0 P Wd.w K mg base N__law_begin "_law_begin" (defScope s__law_begin) f cdv A outer s H E).nox (defBody s__law_begin) (t_begin K) :=
  (pss_cons (ps_setLc (i := 1) (own := [("_law_cell", 2)]) (g := (gName 2)) (by rfl) sc__law_begin.nd rfl rfl (sw_true rfl rfl rfl (by decide +kernel)) (pi_any (pe_slice sl_any (pv 0) L2.po_none (L2.po_some pe_int))) (blkOk_by (own := [("_law_cell", 2)]) (N := N__law_begin) (sc := defScope s__law_begin) (by decide +kernel)) (fun _ _ _ _ _ => (pg_name (i := 2) sc__law_begin.nd rfl (Or.inl rfl))) (fun _ _ _ _ _ => pts_nil) (fun _ _ _ _ _ => (pe_callB call_absA (by rfl) G.n_abs (by decide +kernel) (L2.pa_cons (pv 2) L2.pa_nil))))
    (pss_cons (ps_if (pt_cmpR (op_eqA hr.units) (pv 1) (pe_lst L2.pa_nil) (nomark _)) (pss_one (ps_set (i := 1) sc__law_begin.nd rfl (Or.inl rfl) (pe_lst (L2.pa_cons pe_int L2.pa_nil)))) pss_nil)
    (pss_one (ps_ret (pe_lst (L2.pa_cons (pv 1) (L2.pa_cons pe_int (L2.pa_cons pe_int L2.pa_nil))))))))

abbrev s__law_take : Stmt := top 25
theorem sc__law_take : FnScope N__law_take p__law_take (defScope s__law_take) := ⟨rfl, rfl, rfl, by decide +kernel, rfl, by decide +kernel, by decide +kernel⟩
theorem b__law_take : BindsS "_law_take" "_law_take" s__law_take p__law_take := fun _ _ _ _ _ _ us hl => match us, hl with | [_, _], _ => rfl
theorem d__law_take {P : Program} [Wd] {K : PySem.W.Frag} {mg : Str → Option Value} {base : Heap} {cs : Cs} {f : Addr} {cdv : Value} {A : Around} {outer : List PySem.Env} {s : Shared} {H : Hp} {E : XK} {k : Nat} (G : Gb P K mg base cs) (hr : Room k (A.deeper (PyProof.Rows.envOfC "_law_take" (defScope s__law_take) s.heap.objs.size f cdv))) :
    PSs (cxOf CX0 P Wd.w K mg base N__law_take "_law_take" (defScope s__law_take) f cdv A outer s H E).nox (defBody s__law_take) (t_take K) :=
  (pss_cons (ps_set (i := 2) sc__law_take.nd rfl (Or.inl rfl) (pe_ix ix_seq (pv 0) pe_int (fun _ _ => rfl)))
    (pss_cons (ps_set (i := 3) sc__law_take.nd rfl (Or.inl rfl) (pe_op op_mod (pe_ix ix_seq (pv 0) pe_int (fun _ _ => rfl)) (pe_callB call_lenA (by rfl) G.n_len PySem.boot_len (L2.pa_cons (pv 2) L2.pa_nil))))
    (pss_cons (ps_set (i := 4) sc__law_take.nd rfl (Or.inl rfl) (pe_ix ix_seq (pv 2) (pv 3) (fun _ _ => rfl)))
    (pss_cons (ps_if (pt_cmpR op_ge (pv 4) (pe_op op_pow pe_int pe_int) (nomark _)) (pss_cons (ps_asg (pe_op op_fdiv (pv 4) (pv 1)) (pg_sub (pv 2) (pv 3) set_list))
    (pss_one (ps_ret (pe_op op_mod (pv 4) (pv 1))))) pss_nil)
    (pss_cons (ps_asg (pe_op op_addA (pe_ix ix_seq (pv 0) pe_int (fun _ _ => rfl)) pe_int) (pg_sub (pv 0) pe_int set_list))
    (pss_cons (ps_asg (pe_op op_mod (pe_op op_addA (pe_op op_addA (pe_op op_mulA (pe_ix ix_seq (pv 0) pe_int (fun _ _ => rfl)) pe_int) (pv 4)) pe_int) pe_int) (pg_sub (pv 0) pe_int set_list))
    (pss_one (ps_ret (pe_op op_mod (pe_op op_fdiv (pe_op op_mod (pe_op op_mulA (pe_ix ix_seq (pv 0) pe_int (fun _ _ => rfl)) (pe_ix ix_seq (pv 0) pe_int (fun _ _ => rfl))) pe_int) pe_int) (pv 1))))))))))

abbrev s__law_pick : Stmt := top 26
theorem sc__law_pick : FnScope N__law_pick p__law_pick (defScope s__law_pick) := ⟨rfl, rfl, rfl, by decide +kernel, rfl, by decide +kernel, by decide +kernel⟩
theorem b__law_pick : BindsS "_law_pick" "_law_pick" s__law_pick p__law_pick := fun _ _ _ _ _ _ us hl => match us, hl with | [_, _], _ => rfl
theorem d__law_pick {P : Program} [Wd] {K : PySem.W.Frag} {mg : Str → Option Value} {base : Heap} {cs : Cs} {f : Addr} {cdv : Value} {A : Around} {outer : List PySem.Env} {s : Shared} {H : Hp} {E : XK} {k : Nat} {F__law_take : AF} (G : Gb P K mg base cs) (C__law_take : ClA P Wd.w K mg base k "_law_take" s__law_take p__law_take (spA F__law_take)) (hr : Room k (A.deeper (PyProof.Rows.envOfC "_law_pick" (defScope s__law_pick) s.heap.objs.size f cdv))) :
    PSs (cxOf (L2.CX P Wd.w) P Wd.w K mg base N__law_pick "_law_pick" (defScope s__law_pick) f cdv A outer s H E) (defBody s__law_pick) (LM.t__law_pick K cs F__law_take fun cls d _ H' => E cls d H') :=
  (pss_one (ps_ret (pe_ix ix_B (pv 1) (pe_clA C__law_take hr (by rfl) (takes_of rfl rfl rfl rfl) b__law_take (L2.pa_cons (pv 0) (L2.pa_cons (pe_callB call_lenA (by rfl) G.n_len PySem.boot_len (L2.pa_cons (pv 1) L2.pa_nil)) L2.pa_nil))) (fun _ _ => rfl))))

abbrev s__law_word : Stmt := top 27
theorem sc__law_word : FnScope N__law_word p__law_word (defScope s__law_word) := ⟨rfl, rfl, rfl, by decide +kernel, rfl, by decide +kernel, by decide +kernel⟩
theorem b__law_word : BindsS "_law_word" "_law_word" s__law_word p__law_word := fun _ _ _ _ _ _ us hl => match us, hl with | [_], _ => rfl
theorem d__law_word {P : Program} [Wd] {K : PySem.W.Frag} {mg : Str → Option Value} {base : Heap} {cs : Cs} {f : Addr} {cdv : Value} {A : Around} {outer : List PySem.Env} {s : Shared} {H : Hp} {E : XK} {k : Nat} {F__law_take : AF} {F__law_pick : AF} (G : Gb P K mg base cs) (C__law_take : ClA P Wd.w K mg base k "_law_take" s__law_take p__law_take (spA F__law_take)) (C__law_pick : ClA P Wd.w K mg base k "_law_pick" s__law_pick p__law_pick (spA F__law_pick)) (hr : Room k (A.deeper (PyProof.Rows.envOfC "_law_word" (defScope s__law_word) s.heap.objs.size f cdv))) :
    PSs (cxOf (L2.CX P Wd.w) P Wd.w K mg base N__law_word "_law_word" (defScope s__law_word) f cdv A outer s H E) (defBody s__law_word) (LM.t__law_word K cs F__law_take F__law_pick fun cls d _ H' => E cls d H') :=
  (pss_cons (ps_set (i := 1) sc__law_word.nd rfl (Or.inl rfl) (pe_clA C__law_take hr (by rfl) (takes_of rfl rfl rfl rfl) b__law_take (L2.pa_cons (pv 0) (L2.pa_cons pe_int L2.pa_nil))))
    (pss_cons (ps_if (pt_cmpR (op_ltB hr.units) (pv 1) pe_int (nomark _)) (pss_one (ps_ret (pe_clA C__law_pick hr (by rfl) (takes_of rfl rfl rfl rfl) b__law_pick (L2.pa_cons (pv 0) (L2.pa_cons (pe_lst (L2.pa_cons pe_str (L2.pa_cons pe_str (L2.pa_cons pe_str (L2.pa_cons pe_str L2.pa_nil))))) L2.pa_nil))))) pss_nil)
    (pss_cons (ps_if (pt_cmpR (op_eqB hr.units) (pv 1) pe_int (nomark _)) (pss_one (ps_ret (pe_clA C__law_pick hr (by rfl) (takes_of rfl rfl rfl rfl) b__law_pick (L2.pa_cons (pv 0) (L2.pa_cons (pe_lst (L2.pa_cons pe_str (L2.pa_cons pe_str (L2.pa_cons pe_str (L2.pa_cons pe_str (L2.pa_cons pe_str (L2.pa_cons pe_str (L2.pa_cons pe_str (L2.pa_cons pe_str (L2.pa_cons pe_str (L2.pa_cons pe_str L2.pa_nil))))))))))) L2.pa_nil))))) pss_nil)
    (pss_cons (ps_set (i := 2) sc__law_word.nd rfl (Or.inl rfl) pe_str)
    (pss_cons (ps_for (passes_of rfl) rfl (pi_range1 (by rfl) G.n_range (L2.pa_cons (pe_op op_addA pe_int (pe_clA C__law_take hr (by rfl) (takes_of rfl rfl rfl rfl) b__law_take (L2.pa_cons (pv 0) (L2.pa_cons pe_int L2.pa_nil)))) L2.pa_nil)) (pg_name (i := 3) sc__law_word.nd rfl (Or.inl rfl)) (pss_one (ps_set (i := 2) sc__law_word.nd rfl (Or.inl rfl) (pe_op op_addA (pv 2) (pe_ix ix_B pe_str (pe_clA C__law_take hr (by rfl) (takes_of rfl rfl rfl rfl) b__law_take (L2.pa_cons (pv 0) (L2.pa_cons pe_int L2.pa_nil))) (fun _ _ => rfl))))))
    (pss_one (ps_ret (pv 2))))))))

abbrev s__law_hole : Stmt := top 28
theorem sc__law_hole : FnScope N__law_hole p__law_hole (defScope s__law_hole) := ⟨rfl, rfl, rfl, by decide +kernel, rfl, by decide +kernel, by decide +kernel⟩
theorem b__law_hole : BindsS "_law_hole" "_law_hole" s__law_hole p__law_hole := fun _ _ _ _ _ _ us hl => match us, hl with | [_], _ => rfl
theorem d__law_hole {P : Program} [Wd] {K : PySem.W.Frag} {mg : Str → Option Value} {base : Heap} {cs : Cs} {f : Addr} {cdv : Value} {A : Around} {outer : List PySem.Env} {s : Shared} {H : Hp} {E : XK} {k : Nat} {F__law_take : AF} {F__law_pick : AF} (G : Gb P K mg base cs) (C__law_take : ClA P Wd.w K mg base k "_law_take" s__law_take p__law_take (spA F__law_take)) (C__law_pick : ClA P Wd.w K mg base k "_law_pick" s__law_pick p__law_pick (spA F__law_pick)) (hr : Room k (A.deeper (PyProof.Rows.envOfC "_law_hole" (defScope s__law_hole) s.heap.objs.size f cdv))) :
    PSs (cxOf (L2.CX P Wd.w) P Wd.w K mg base N__law_hole "_law_hole" (defScope s__law_hole) f cdv A outer s H E) (defBody s__law_hole) (LM.t__law_hole K cs F__law_take F__law_pick fun cls d _ H' => E cls d H') :=
  (pss_cons (ps_if (pt_cmpR op_gt (pe_clA C__law_take hr (by rfl) (takes_of rfl rfl rfl rfl) b__law_take (L2.pa_cons (pv 0) (L2.pa_cons pe_int L2.pa_nil))) pe_int (nomark _)) (pss_one (ps_ret (pe_clA C__law_pick hr (by rfl) (takes_of rfl rfl rfl rfl) b__law_pick (L2.pa_cons (pv 0) (L2.pa_cons (pe_lst (L2.pa_cons pe_str (L2.pa_cons pe_str (L2.pa_cons pe_str L2.pa_nil)))) L2.pa_nil))))) pss_nil)
    (pss_cons (ps_set (i := 1) sc__law_hole.nd rfl (Or.inl rfl) pe_str)
    (pss_cons (ps_for (passes_of rfl) rfl (pi_range1 (by rfl) G.n_range (L2.pa_cons (pe_op op_addA pe_int (pe_clA C__law_take hr (by rfl) (takes_of rfl rfl rfl rfl) b__law_take (L2.pa_cons (pv 0) (L2.pa_cons pe_int L2.pa_nil)))) L2.pa_nil)) (pg_name (i := 2) sc__law_hole.nd rfl (Or.inl rfl)) (pss_one (ps_set (i := 1) sc__law_hole.nd rfl (Or.inl rfl) (pe_op op_addA (pv 1) (pe_ix ix_B pe_str (pe_clA C__law_take hr (by rfl) (takes_of rfl rfl rfl rfl) b__law_take (L2.pa_cons (pv 0) (L2.pa_cons pe_int L2.pa_nil))) (fun _ _ => rfl))))))
    (pss_one (ps_ret (pv 1))))))

abbrev s__law_pattern : Stmt := top 29
theorem sc__law_pattern : FnScope N__law_pattern p__law_pattern (defScope s__law_pattern) := ⟨rfl, rfl, rfl, by decide +kernel, rfl, by decide +kernel, by decide +kernel⟩
theorem b__law_pattern : BindsS "_law_pattern" "_law_pattern" s__law_pattern p__law_pattern := fun _ _ _ _ _ _ us hl => match us, hl with | [_, _, _], _ => rfl
theorem d__law_pattern {P : Program} [Wd] {K : PySem.W.Frag} {mg : Str → Option Value} {base : Heap} {cs : Cs} {f : Addr} {cdv : Value} {A : Around} {outer : List PySem.Env} {s : Shared} {H : Hp} {E : XK} {k : Nat} {F__law_take : AF} {F__law_hole : AF} {F__law_word : AF} {F__law_pattern : AF} (G : Gb P K mg base cs) (C__law_take : ClA P Wd.w K mg base k "_law_take" s__law_take p__law_take (spA F__law_take)) (C__law_hole : ClA P Wd.w K mg base k "_law_hole" s__law_hole p__law_hole (spA F__law_hole)) (C__law_word : ClA P Wd.w K mg base k "_law_word" s__law_word p__law_word (spA F__law_word)) (C__law_pattern : ClA P Wd.w K mg base k "_law_pattern" s__law_pattern p__law_pattern (spA F__law_pattern)) (hr : Room k (A.deeper (PyProof.Rows.envOfC "_law_pattern" (defScope s__law_pattern) s.heap.objs.size f cdv))) :
    PSs (cxOf (L2.CX P Wd.w) P Wd.w K mg base N__law_pattern "_law_pattern" (defScope s__law_pattern) f cdv A outer s H E) (defBody s__law_pattern) (LM.t__law_pattern K cs F__law_take F__law_hole F__law_word F__law_pattern fun cls d _ H' => E cls d H') :=
  (pss_cons (ps_if ((pw_and (pt_val (pv 2)) (pw_and1 (pt_cmpR (op_eqB hr.units) (pe_clA C__law_take hr (by rfl) (takes_of rfl rfl rfl rfl) b__law_take (L2.pa_cons (pv 0) (L2.pa_cons pe_int L2.pa_nil))) pe_int (nomark _))))).pt (pss_one (ps_ret (pe_clA C__law_hole hr (by rfl) (takes_of rfl rfl rfl rfl) b__law_hole (L2.pa_cons (pv 0) L2.pa_nil)))) pss_nil)
    (pss_cons (ps_set (i := 3) sc__law_pattern.nd rfl (Or.inl rfl) (pe_ifExp (pt_cmpR op_gt (pv 1) pe_int (nomark _)) (pe_clA C__law_take hr (by rfl) (takes_of rfl rfl rfl rfl) b__law_take (L2.pa_cons (pv 0) (L2.pa_cons pe_int L2.pa_nil))) pe_int))
    (pss_one (ps_ret (pe_tupleOf (by rfl) G.n_tuple (pe_op op_addA (pe_lst (L2.pa_cons (pe_clA C__law_word hr (by rfl) (takes_of rfl rfl rfl rfl) b__law_word (L2.pa_cons (pv 0) L2.pa_nil)) L2.pa_nil)) (pe_lc (own := [("_law_k", 4)]) (g := (gName 4)) (by rfl) sc__law_pattern.nd (pi_range1 (by rfl) G.n_range (L2.pa_cons (pv 3) L2.pa_nil)) (blkOk_by (own := [("_law_k", 4)]) (N := N__law_pattern) (sc := defScope s__law_pattern) (by decide +kernel)) (fun _ _ _ _ _ => (pg_name (i := 4) sc__law_pattern.nd rfl (Or.inl rfl))) (fun _ _ _ _ _ => pts_nil) (fun _ _ _ _ _ => (pe_clA C__law_pattern hr (by rfl) takes0 b__law_pattern (L2.pa_cons (pv 0) (L2.pa_cons (pe_op op_sub (pv 1) pe_int) (L2.pa_cons (pv 2) L2.pa_nil))))))))))))

abbrev s__law_written : Stmt := top 30
theorem sc__law_written : FnScope N__law_written p__law_written (defScope s__law_written) := ⟨rfl, rfl, rfl, by decide +kernel, rfl, by decide +kernel, by decide +kernel⟩
theorem b__law_written : BindsS "_law_written" "_law_written" s__law_written p__law_written := fun _ _ _ _ _ _ us hl => match us, hl with | [_], _ => rfl
theorem d__law_written {P : Program} [Wd] {K : PySem.W.Frag} {mg : Str → Option Value} {base : Heap} {cs : Cs} {f : Addr} {cdv : Value} {A : Around} {outer : List PySem.Env} {s : Shared} {H : Hp} {E : XK} {k : Nat} {F__law_written : AF} (G : Gb P K mg base cs) (C__law_written : ClA P Wd.w K mg base k "_law_written" s__law_written p__law_written (spA F__law_written)) (hr : Room k (A.deeper (PyProof.Rows.envOfC "_law_written" (defScope s__law_written) s.heap.objs.size f cdv))) :
    PSs (cxOf (L2.CX P Wd.w) P Wd.w K mg base N__law_written "_law_written" (defScope s__law_written) f cdv A outer s H E) (defBody s__law_written) (LM.t__law_written K cs F__law_written fun cls d _ H' => E cls d H') :=
  (pss_cons (ps_if (pt_val (pe_callB call_isiA (by rfl) G.n_isinstance (by decide +kernel) (L2.pa_cons (pv 0) (L2.pa_cons (pe_gty (by rfl) G.n_str (by decide +kernel)) L2.pa_nil)))) (pss_one (ps_ret (pv 0))) pss_nil)
    (pss_cons (ps_set (i := 1) sc__law_written.nd rfl (Or.inl rfl) (pe_join pe_str (pe_lc (own := [("_law_part", 2)]) (g := (gName 2)) (by rfl) sc__law_written.nd (pi_seq (pe_slice sl_any (pv 0) (L2.po_some pe_int) L2.po_none)) (blkOk_by (own := [("_law_part", 2)]) (N := N__law_written) (sc := defScope s__law_written) (by decide +kernel)) (fun _ _ _ _ _ => (pg_name (i := 2) sc__law_written.nd rfl (Or.inl rfl))) (fun _ _ _ _ _ => pts_nil) (fun _ _ _ _ _ => (pe_clA C__law_written hr (by rfl) takes0 b__law_written (L2.pa_cons (pv 2) L2.pa_nil))))))
    (pss_one (ps_ret (pe_ifExp (pt_cmpR op_gt (pe_callB call_lenA (by rfl) G.n_len PySem.boot_len (L2.pa_cons (pv 0) L2.pa_nil)) pe_int (nomark _)) (pe_op op_addA (pe_op op_addA (pe_op op_addA (pe_ix ix_B (pv 0) pe_int (fun _ _ => rfl)) pe_str) (pv 1)) pe_str) (pe_ix ix_B (pv 0) pe_int (fun _ _ => rfl)))))))

abbrev s__law_next : Stmt := top 31
theorem sc__law_next : FnScope N__law_next p__law_next (defScope s__law_next) := ⟨rfl, rfl, rfl, by decide +kernel, rfl, by decide +kernel, by decide +kernel⟩
theorem b__law_next : BindsS "_law_next" "_law_next" s__law_next p__law_next := fun _ _ _ _ _ _ us hl => match us, hl with | [_, _, _, _], _ => rfl
theorem d__law_next {P : Program} [Wd] {K : PySem.W.Frag} {mg : Str → Option Value} {base : Heap} {cs : Cs} {f : Addr} {cdv : Value} {A : Around} {outer : List PySem.Env} {s : Shared} {H : Hp} {E : XK} {k : Nat} (G : Gb P K mg base cs) (hr : Room k (A.deeper (PyProof.Rows.envOfC "_law_next" (defScope s__law_next) s.heap.objs.size f cdv))) :
    PSs (cxOf (L2.CX P Wd.w) P Wd.w K mg base N__law_next "_law_next" (defScope s__law_next) f cdv A outer s H E) (defBody s__law_next) (LM.t__law_next K cs fun cls d _ H' => E cls d H') :=
  (pss_cons (ps_set (i := 4) sc__law_next.nd rfl (Or.inl rfl) (pe_cmpR op_inB (pv 1) pe_str (by with_unfolding_all rfl)))
    (pss_cons (ps_if (pt_cmpR (op_eqB hr.units) (pv 0) pe_str (nomark _)) (pss_cons (ps_if ((pw_or (pt_val (pv 4)) (pw_or1 (pt_cmpR (op_eqB hr.units) (pv 1) pe_str (nomark _))))).pt (pss_one (ps_ret (pe_ifExp (pt_val (pv 4)) (pe_tup (L2.pa_cons pe_str (L2.pa_cons pe_int (L2.pa_cons pe_int L2.pa_nil)))) (pe_tup (L2.pa_cons pe_str (L2.pa_cons pe_int (L2.pa_cons pe_int L2.pa_nil))))))) pss_nil)
    (pss_one (ps_ret (pe_ifExp (pt_cmpR (op_eqB hr.units) (pv 1) pe_str (nomark _)) (pe_tup (L2.pa_cons pe_str (L2.pa_cons pe_int (L2.pa_cons pe_int L2.pa_nil)))) pe_non)))) pss_nil)
    (pss_cons (ps_if ((pw_and (pt_cmpR op_inB (pv 0) (pe_tup (L2.pa_cons pe_str (L2.pa_cons pe_str L2.pa_nil))) (by with_unfolding_all rfl)) (pw_and1 (pt_val (pv 4))))).pt (pss_one (ps_ret (pe_ifExp (pt_cmpR (op_ltB hr.units) (pv 2) pe_int (nomark _)) (pe_tup (L2.pa_cons pe_str (L2.pa_cons (pe_op op_addA (pv 2) pe_int) (L2.pa_cons pe_int L2.pa_nil)))) pe_non))) pss_nil)
    (pss_cons (ps_if (pt_cmpR (op_eqB hr.units) (pv 0) pe_str (nomark _)) (pss_one (ps_ret pe_non)) pss_nil)
    (pss_cons (ps_if ((pw_and (pt_cmpR (op_eqB hr.units) (pv 0) pe_str (nomark _)) (pw_and1 (pt_val (pv 4))))).pt (pss_one (ps_ret (pe_ifExp (pt_cmpR (op_ltB hr.units) (pv 2) pe_int (nomark _)) (pe_tup (L2.pa_cons pe_str (L2.pa_cons (pe_op op_addA (pv 2) pe_int) (L2.pa_cons pe_int L2.pa_nil)))) pe_non))) pss_nil)
    (pss_cons (ps_if (pt_cmpR (op_eqB hr.units) (pv 1) pe_str (nomark _)) (pss_one (ps_ret (pe_tup (L2.pa_cons (pe_ifExp (pt_cmpR op_inB (pv 0) (pe_tup (L2.pa_cons pe_str (L2.pa_cons pe_str L2.pa_nil))) (by with_unfolding_all rfl)) pe_str pe_str) (L2.pa_cons pe_int (L2.pa_cons pe_int L2.pa_nil)))))) pss_nil)
    (pss_cons (ps_if ((pw_and (pt_cmpR (op_eqB hr.units) (pv 1) pe_str (nomark _)) (pw_and1 (pt_cmpR op_inB (pv 0) (pe_tup (L2.pa_cons pe_str (L2.pa_cons pe_str L2.pa_nil))) (by with_unfolding_all rfl))))).pt (pss_one (ps_ret (pe_tup (L2.pa_cons pe_str (L2.pa_cons pe_int (L2.pa_cons pe_int L2.pa_nil)))))) pss_nil)
    (pss_cons (ps_if ((pw_and (pt_cmpR (op_eqB hr.units) (pv 1) pe_str (nomark _)) (pw_and (pt_cmpR (op_neB hr.units) (pv 3) (pe_lst L2.pa_nil) (nomark _)) (pw_and1 (pt_cmpR (op_ltB hr.units) (pe_ix ix_B (pv 3) (pe_un un_neg pe_int) (fun _ _ => rfl)) pe_int (nomark _)))))).pt (pss_one (ps_ret (pe_tup (L2.pa_cons pe_str (L2.pa_cons pe_int (L2.pa_cons pe_int L2.pa_nil)))))) pss_nil)
    (pss_one (ps_ret (pe_ifExp ((pw_and (pt_cmpR (op_eqB hr.units) (pv 1) pe_str (nomark _)) (pw_and1 (pt_cmpR (op_neB hr.units) (pv 3) (pe_lst L2.pa_nil) (nomark _))))).pt (pe_tup (L2.pa_cons pe_str (L2.pa_cons pe_int (L2.pa_cons (pe_un un_neg pe_int) L2.pa_nil)))) pe_non)))))))))))

abbrev s__law_walk : Stmt := top 32
theorem sc__law_walk : FnScope N__law_walk p__law_walk (defScope s__law_walk) := ⟨rfl, rfl, rfl, by decide +kernel, rfl, by decide +kernel, by decide +kernel⟩
theorem b__law_walk : BindsS "_law_walk" "_law_walk" s__law_walk p__law_walk := fun _ _ _ _ _ _ us hl => match us, hl with | [_], _ => rfl
theorem d__law_walk {P : Program} [Wd] {K : PySem.W.Frag} {mg : Str → Option Value} {base : Heap} {cs : Cs} {f : Addr} {cdv : Value} {A : Around} {outer : List PySem.Env} {s : Shared} {H : Hp} {E : XK} {k : Nat} {F__law_next : AF} (G : Gb P K mg base cs) (C__law_next : ClA P Wd.w K mg base k "_law_next" s__law_next p__law_next (spA F__law_next)) (hr : Room k (A.deeper (PyProof.Rows.envOfC "_law_walk" (defScope s__law_walk) s.heap.objs.size f cdv))) :
    PSs (cxOf (L2.CX P Wd.w) P Wd.w K mg base N__law_walk "_law_walk" (defScope s__law_walk) f cdv A outer s H E) (defBody s__law_walk) (LM.t__law_walk K cs F__law_next fun cls d _ H' => E cls d H') :=
  (pss_cons (ps_par3 (i := 1) (j := 2) (l := 3) (by rfl) sc__law_walk.nd rfl rfl rfl (by decide) (by decide) (by decide) rfl rfl rfl (L2.pa_cons pe_str (L2.pa_cons pe_int (L2.pa_cons (pe_lst L2.pa_nil) L2.pa_nil))) (by rfl))
    (pss_cons (ps_for (passes_of rfl) rfl (pi_enumA (by rfl) G.n_enumerate (L2.pa_cons (pv 0) L2.pa_nil)) (pg_tup (by rfl) (pgs_cons (pg_name (i := 4) sc__law_walk.nd rfl (Or.inl rfl)) (pgs_cons (pg_name (i := 5) sc__law_walk.nd rfl (Or.inl rfl)) pgs_nil))) (pss_cons (ps_set (i := 6) sc__law_walk.nd rfl (Or.inl rfl) (pe_clA C__law_next hr (by rfl) (takes_of rfl rfl rfl rfl) b__law_next (L2.pa_cons (pv 1) (L2.pa_cons (pv 5) (L2.pa_cons (pv 2) (L2.pa_cons (pv 3) L2.pa_nil))))))
    (pss_cons (ps_if (pt_cmpR op_isN1 (pv 6) pe_non (nomark _)) (pss_one (ps_ret (pe_tup (L2.pa_cons (pv 4) (L2.pa_cons pe_bl L2.pa_nil))))) pss_nil)
    (pss_cons (ps_asg (pv 6) (pg_tup (by rfl) (pgs_cons (pg_name (i := 1) sc__law_walk.nd rfl (Or.inl rfl)) (pgs_cons (pg_name (i := 2) sc__law_walk.nd rfl (Or.inl rfl)) (pgs_cons (pg_name (i := 7) sc__law_walk.nd rfl (Or.inl rfl)) pgs_nil)))))
    (pss_cons (ps_if (pt_cmpR (op_eqB hr.units) (pv 7) pe_int (nomark _)) (pss_one (ps_expr (pe_bm PySem.F.plainAttrs_list PySem.F.slot_list_append PySem.F.type_list_append mt_append (pv 3) (L2.pa_cons pe_int L2.pa_nil)))) pss_nil)
    (pss_cons (ps_if (pt_cmpR (op_eqB hr.units) (pv 7) pe_int (nomark _)) (pss_one (ps_asg (pe_op op_addA (pe_ix ix_B (pv 3) (pe_un un_neg pe_int) (fun _ _ => rfl)) pe_int) (pg_sub (pv 3) (pe_un un_neg pe_int) (set_B rfl hr.units)))) pss_nil)
    (pss_one (ps_if (pt_cmpR (op_eqB hr.units) (pv 7) (pe_un un_neg pe_int) (nomark _)) (pss_one (ps_expr (pe_bm0 PySem.F.plainAttrs_list PySem.F.slot_list_pop PySem.F.type_list_pop mt_pop (pv 3)))) pss_nil))))))))
    (pss_one (ps_ret (pe_tup (L2.pa_cons pe_non (L2.pa_cons (pe_and (pe_cmpR op_inB (pv 1) (pe_tup (L2.pa_cons pe_str (L2.pa_cons pe_str (L2.pa_cons pe_str (L2.pa_cons pe_str L2.pa_nil))))) (by with_unfolding_all rfl)) (pe_one (pe_cmpR (op_eqB hr.units) (pv 3) (pe_lst L2.pa_nil) (nomark _)))) L2.pa_nil)))))))

abbrev s__law_bounds : Stmt := top 33
theorem sc__law_bounds : FnScope N__law_bounds p__law_bounds (defScope s__law_bounds) := ⟨rfl, rfl, rfl, by decide +kernel, rfl, by decide +kernel, by decide +kernel⟩
theorem b__law_bounds : BindsS "_law_bounds" "_law_bounds" s__law_bounds p__law_bounds := fun _ _ _ _ _ _ us hl => match us, hl with | [_], _ => rfl
theorem d__law_bounds {P : Program} [Wd] {K : PySem.W.Frag} {mg : Str → Option Value} {base : Heap} {cs : Cs} {f : Addr} {cdv : Value} {A : Around} {outer : List PySem.Env} {s : Shared} {H : Hp} {E : XK} {k : Nat} (G : Gb P K mg base cs) (hr : Room k (A.deeper (PyProof.Rows.envOfC "_law_bounds" (defScope s__law_bounds) s.heap.objs.size f cdv))) :
    PSs (cxOf (L2.CX P Wd.w) P Wd.w K mg base N__law_bounds "_law_bounds" (defScope s__law_bounds) f cdv A outer s H E) (defBody s__law_bounds) (LM.t__law_bounds K cs fun cls d _ H' => E cls d H') :=
  (pss_tupT (L2.pa_cons pe_int L2.pa_nil) (pg_tup (by rfl) (pgs_cons (pg_name (i := 3) sc__law_bounds.nd rfl (Or.inl rfl)) (pgs_cons (pg_name (i := 4) sc__law_bounds.nd rfl (Or.inl rfl)) pgs_nil)))
    (psst_cons (PST.of (ps_for (passes_of rfl) rfl (pi_seq (pv 0)) (pg_name (i := 1) sc__law_bounds.nd rfl (Or.inl rfl)) (pss_cons (ps_set (i := 3) sc__law_bounds.nd rfl (Or.inl rfl) (pe_op op_addA (pv 3) (pe_dgetA rfl hr.units (pe_frz (pe_disp (pps_cons pe_str pe_int (pps_cons pe_str (pe_un un_neg pe_int) pps_nil)) rfl rfl (by simp) (by simp))) (pv 1) pe_int ⟨rfl, rfl, rfl, rfl⟩)))
    (pss_one (ps_set (i := 4) sc__law_bounds.nd rfl (Or.inl rfl) (pe_callB (call_max2' rfl) (by rfl) G.n_max (by decide +kernel) (L2.pa_cons (pv 4) (L2.pa_cons (pv 3) L2.pa_nil))))))))
    (psst_cons (pst_set (i := 2) sc__law_bounds.nd rfl (Or.inl rfl) (pet_split (CwR.pet_replT (CwR.pet_replT (CwR.pet_replC (pv 0)))) pe_str))
    (CwR.psst_one (PST.of (ps_ret (pe_and (pe_cmpR (op_ltB hr.units) (pv 4) pe_int (nomark _)) (pe_one (pe_cmpR (op_ltB hr.units) (pe_callB call_lenA (by rfl) G.n_len PySem.boot_len (L2.pa_cons (pe_lc (own := [("_law_word_here", 5)]) (g := (gName 5)) (by rfl) sc__law_bounds.nd (pi_seq (pv 2)) (blkOk_by (own := [("_law_word_here", 5)]) (N := N__law_bounds) (sc := defScope s__law_bounds) (by decide +kernel)) (fun _ _ _ _ _ => (pg_name (i := 5) sc__law_bounds.nd rfl (Or.inl rfl))) (fun _ _ _ _ _ => (pts_one (pt_cmpR (op_neB hr.units) (pv 5) pe_str (nomark _)))) (fun _ _ _ _ _ => (pv 5))) L2.pa_nil)) pe_int (nomark _))))))))))

abbrev s__law_due : Stmt := top 34
theorem sc__law_due : FnScope N__law_due p__law_due (defScope s__law_due) := ⟨rfl, rfl, rfl, by decide +kernel, rfl, by decide +kernel, by decide +kernel⟩
theorem b__law_due : BindsS "_law_due" "_law_due" s__law_due p__law_due := fun _ _ _ _ _ _ us hl => match us, hl with | [_], _ => rfl
theorem d__law_due {P : Program} [Wd] {K : PySem.W.Frag} {mg : Str → Option Value} {base : Heap} {cs : Cs} {f : Addr} {cdv : Value} {A : Around} {outer : List PySem.Env} {s : Shared} {H : Hp} {E : XK} {k : Nat} {F__law_walk : AF} {F__law_bounds : AF} (G : Gb P K mg base cs) (C__law_walk : ClA P Wd.w K mg base k "_law_walk" s__law_walk p__law_walk (spA F__law_walk)) (C__law_bounds : ClA P Wd.w K mg base k "_law_bounds" s__law_bounds p__law_bounds (spA F__law_bounds)) (hr : Room k (A.deeper (PyProof.Rows.envOfC "_law_due" (defScope s__law_due) s.heap.objs.size f cdv))) :
    PSs (cxOf (L2.CX P Wd.w) P Wd.w K mg base N__law_due "_law_due" (defScope s__law_due) f cdv A outer s H E) (defBody s__law_due) (LM.t__law_due_v2 K cs F__law_walk F__law_bounds fun cls d _ H' => E cls d H') :=
  (pss_cons (ps_asg (pe_clA C__law_walk hr (by rfl) (takes_of rfl rfl rfl rfl) b__law_walk (L2.pa_cons (pv 0) L2.pa_nil)) (pg_tup (by rfl) (pgs_cons (pg_name (i := 1) sc__law_due.nd rfl (Or.inl rfl)) (pgs_cons (pg_name (i := 2) sc__law_due.nd rfl (Or.inl rfl)) pgs_nil))))
    (pss_cons (ps_if (pt_cmpR op_notN1 (pv 1) pe_non (nomark _)) (pss_one (ps_ret (pv 1))) pss_nil)
    (pss_one (ps_ret (pe_ifExp ((pw_and (pt_val (pv 2)) (pw_and1 (pt_val (pe_clA C__law_bounds hr (by rfl) (takes_of rfl rfl rfl rfl) b__law_bounds (L2.pa_cons (pv 0) L2.pa_nil)))))).pt pe_non (pe_callB call_lenA (by rfl) G.n_len PySem.boot_len (L2.pa_cons (pv 0) L2.pa_nil)))))))

abbrev s__law_told : Stmt := top 35
theorem sc__law_told : FnScope N__law_told p__law_told (defScope s__law_told) := ⟨rfl, rfl, rfl, by decide +kernel, rfl, by decide +kernel, by decide +kernel⟩
theorem b__law_told : BindsS "_law_told" "_law_told" s__law_told p__law_told := fun _ _ _ _ _ _ us hl => match us, hl with | [_], _ => rfl
theorem d__law_told {P : Program} [Wd] {K : PySem.W.Frag} {mg : Str → Option Value} {base : Heap} {cs : Cs} {f : Addr} {cdv : Value} {A : Around} {outer : List PySem.Env} {s : Shared} {H : Hp} {E : XK} {k : Nat} {F_read_pattern : AF} (G : Gb P K mg base cs) (C_read_pattern : ClA P Wd.w K mg base k "read_pattern" s_read_pattern p_read_pattern (spA F_read_pattern)) (hr : Room k (A.deeper (PyProof.Rows.envOfC "_law_told" (defScope s__law_told) s.heap.objs.size f cdv))) :
    PSs (cxOf (L2.CX P Wd.w) P Wd.w K mg base N__law_told "_law_told" (defScope s__law_told) f cdv A outer s H E) (defBody s__law_told) (LM.t__law_told_v2 K cs F_read_pattern fun cls d _ H' => E cls d H') :=
  (pss_cons (ps_asg (pe_tup (L2.pa_cons pe_non (L2.pa_cons pe_non L2.pa_nil))) (pg_tup (by rfl) (pgs_cons (pg_name (i := 2) sc__law_told.nd rfl (Or.inl rfl)) (pgs_cons (pg_name (i := 3) sc__law_told.nd rfl (Or.inl rfl)) pgs_nil))))
    (pss_cons (ps_tryCAs (i := 1) (tb := fun W => (tAsg (tCallS (spA F_read_pattern) (WE W) (tCons (tVar 0) tNil)) (gName 2))) (ts := (tAsg (tVar 1) (gName 3))) rfl rfl sc__law_told.nd rfl rfl ⟨by rfl, by decide, Or.inl G.g_MatchError⟩ (takes_of rfl rfl rfl rfl) (fun W pn xe tk po => (pss_one (ps_set (i := 2) sc__law_told.nd rfl (Or.inl rfl) (pe_clA C_read_pattern hr (by rfl) tk b_read_pattern (L2.pa_cons (pv 0) L2.pa_nil))))) (fun a pn => (pss_one (ps_set (i := 3) sc__law_told.nd rfl (Or.inl rfl) (pv 1)))))
    (pss_cons (ps_if (pt_cmpR op_isN1 (pv 3) pe_non (nomark _)) (pss_one (ps_ret (pv 2))) pss_nil)
    (pss_cons (ps_if ((pw_or (L2.pt_not (pt_val (pe_callB call_isiA (by rfl) G.n_isinstance (by decide +kernel) (L2.pa_cons (pv 3) (L2.pa_cons (pe_gref (by rfl) G.g_NoText) L2.pa_nil))))) (pw_or (pt_val (pe_callB call_isCT (by rfl) G.n_isinstance (by decide +kernel) (L2.pa_cons (pv 3) (L2.pa_cons (pe_tup (L2.pa_cons (pe_gref (by rfl) G.g_BadPattern) (L2.pa_cons (pe_gref (by rfl) G.g_BadTerm) L2.pa_nil))) L2.pa_nil)))) (pw_or1 (L2.pt_not (pt_val (pe_callB call_isiA (by rfl) G.n_isinstance (by decide +kernel) (L2.pa_cons (pv 3) (L2.pa_cons (pe_gty (by rfl) G.n_ValueError (by decide +kernel)) L2.pa_nil))))))))).pt (pss_one (ps_ret pe_str)) pss_nil)
    (pss_one (ps_ret (pe_xc (pv 3))))))))

abbrev s__law_spoilt : Stmt := top 36
theorem sc__law_spoilt : FnScope N__law_spoilt p__law_spoilt (defScope s__law_spoilt) := ⟨rfl, rfl, rfl, by decide +kernel, rfl, by decide +kernel, by decide +kernel⟩
theorem b__law_spoilt : BindsS "_law_spoilt" "_law_spoilt" s__law_spoilt p__law_spoilt := fun _ _ _ _ _ _ us hl => match us, hl with | [_, _], _ => rfl
theorem d__law_spoilt {P : Program} [Wd] {K : PySem.W.Frag} {mg : Str → Option Value} {base : Heap} {cs : Cs} {f : Addr} {cdv : Value} {A : Around} {outer : List PySem.Env} {s : Shared} {H : Hp} {E : XK} {k : Nat} {F__law_take : AF} {F__law_pick : AF} (G : Gb P K mg base cs) (C__law_take : ClA P Wd.w K mg base k "_law_take" s__law_take p__law_take (spA F__law_take)) (C__law_pick : ClA P Wd.w K mg base k "_law_pick" s__law_pick p__law_pick (spA F__law_pick)) (hr : Room k (A.deeper (PyProof.Rows.envOfC "_law_spoilt" (defScope s__law_spoilt) s.heap.objs.size f cdv))) :
    PSs (cxOf (L2.CX P Wd.w) P Wd.w K mg base N__law_spoilt "_law_spoilt" (defScope s__law_spoilt) f cdv A outer s H E) (defBody s__law_spoilt) (LM.t__law_spoilt K cs F__law_take F__law_pick fun cls d _ H' => E cls d H') :=
  (pss_cons (ps_par (i := 3) (j := 4) (by rfl) sc__law_spoilt.nd rfl rfl (by decide) rfl rfl (L2.pa_cons (pe_clA C__law_take hr (by rfl) (takes_of rfl rfl rfl rfl) b__law_take (L2.pa_cons (pv 0) (L2.pa_cons (pe_op op_addA (pe_callB call_lenA (by rfl) G.n_len PySem.boot_len (L2.pa_cons (pv 1) L2.pa_nil)) pe_int) L2.pa_nil))) (L2.pa_cons (pe_clA C__law_take hr (by rfl) (takes_of rfl rfl rfl rfl) b__law_take (L2.pa_cons (pv 0) (L2.pa_cons pe_int L2.pa_nil))) L2.pa_nil)) (by rfl))
    (pss_cons (ps_set (i := 2) sc__law_spoilt.nd rfl (Or.inl rfl) (pe_lst (L2.pa_cons pe_str (L2.pa_cons pe_str (L2.pa_cons pe_str (L2.pa_cons pe_str (L2.pa_cons pe_str (L2.pa_cons pe_str (L2.pa_cons pe_str (L2.pa_cons pe_str (L2.pa_cons pe_str (L2.pa_cons pe_str (L2.pa_cons pe_str (L2.pa_cons pe_str (L2.pa_cons pe_str (L2.pa_cons pe_str (L2.pa_cons pe_str (L2.pa_cons pe_str (L2.pa_cons pe_str (L2.pa_cons pe_str L2.pa_nil))))))))))))))))))))
    (pss_cons (ps_set (i := 2) sc__law_spoilt.nd rfl (Or.inl rfl) (pe_op op_addA (pv 2) (pe_lst (L2.pa_cons pe_str (L2.pa_cons pe_str L2.pa_nil)))))
    (pss_cons (ps_if (pt_cmpR (op_eqB hr.units) (pv 4) pe_int (nomark _)) (pss_one (ps_ret (pe_op op_addA (pe_slice sl_any (pv 1) L2.po_none (L2.po_some (pv 3))) (pe_slice sl_any (pv 1) (L2.po_some (pe_op op_addA (pv 3) pe_int)) L2.po_none)))) pss_nil)
    (pss_one (ps_ret (pe_op op_addA (pe_op op_addA (pe_slice sl_any (pv 1) L2.po_none (L2.po_some (pv 3))) (pe_clA C__law_pick hr (by rfl) (takes_of rfl rfl rfl rfl) b__law_pick (L2.pa_cons (pv 0) (L2.pa_cons (pv 2) L2.pa_nil)))) (pe_slice sl_any (pv 1) (L2.po_some (pe_op op_sub (pe_op op_addA (pv 3) (pv 4)) pe_int)) L2.po_none))))))))

abbrev s_law : Stmt := top 37
theorem sc_law : FnScope N_law p_law (defScope s_law) := ⟨rfl, rfl, rfl, by decide +kernel, rfl, by decide +kernel, by decide +kernel⟩
theorem b_law : BindsS "law" "law" s_law p_law := fun _ _ _ _ _ _ us hl => match us, hl with | [_], _ => rfl
theorem d_law {P : Program} [Wd] {K : PySem.W.Frag} {mg : Str → Option Value} {base : Heap} {cs : Cs} {f : Addr} {cdv : Value} {A : Around} {outer : List PySem.Env} {s : Shared} {H : Hp} {E : XK} {k : Nat} {F__law_begin' : Unit} {F__law_pattern : AF} {F__law_take : AF} {F__law_written : AF} {F__law_spoilt : AF} {F__law_due : AF} {F__law_told : AF} {F__law_pick : AF} (G : Gb P K mg base cs) (C__law_pattern : ClA P Wd.w K mg base k "_law_pattern" s__law_pattern p__law_pattern (spA F__law_pattern)) (C__law_take : ClA P Wd.w K mg base k "_law_take" s__law_take p__law_take (spA F__law_take)) (C__law_written : ClA P Wd.w K mg base k "_law_written" s__law_written p__law_written (spA F__law_written)) (C__law_spoilt : ClA P Wd.w K mg base k "_law_spoilt" s__law_spoilt p__law_spoilt (spA F__law_spoilt)) (C__law_due : ClA P Wd.w K mg base k "_law_due" s__law_due p__law_due (spA F__law_due)) (C__law_told : ClA P Wd.w K mg base k "_law_told" s__law_told p__law_told (spA F__law_told)) (C__law_pick : ClA P Wd.w K mg base k "_law_pick" s__law_pick p__law_pick (spA F__law_pick)) (hr : Room k (A.deeper (PyProof.Rows.envOfC "law" (defScope s_law) s.heap.objs.size f cdv))) (C__law_begin : ClA P Wd.w K mg base k "_law_begin" s__law_begin p__law_begin (spBegin K)) :
    PSs (cxOf (L2.CX P Wd.w) P Wd.w K mg base N_law "law" (defScope s_law) f cdv A outer s H E) (defBody s_law) (tSeq (tAsg (tCallS (spBegin K) (WE fun cls d _ H' => E cls d H') (tCons (tVar 0) tNil)) (gName 1)) (LM.t_law_K05 K cs F__law_pattern F__law_take F__law_written F__law_spoilt F__law_due F__law_told F__law_pick fun cls d _ H' => E cls d H')) :=
  (pss_cons (ps_set (i := 1) sc_law.nd rfl (Or.inl rfl) (pe_clA C__law_begin hr (by rfl) (takes_of rfl rfl rfl rfl) b__law_begin (L2.pa_cons (pv 0) L2.pa_nil)))
  (pss_cons (ps_forT (passes_of rfl) rfl (pis_rangeC (by rfl) G.n_range) (pg_name (i := 2) sc_law.nd rfl (Or.inl rfl)) (psst_cons (PST.of (ps_set (i := 4) sc_law.nd rfl (Or.inl rfl) (pe_clA C__law_pattern hr (by rfl) (takes_of rfl rfl rfl rfl) b__law_pattern (L2.pa_cons (pv 1) (L2.pa_cons (pe_op op_addA pe_int (pe_clA C__law_take hr (by rfl) (takes_of rfl rfl rfl rfl) b__law_take (L2.pa_cons (pv 1) (L2.pa_cons pe_int L2.pa_nil)))) (L2.pa_cons (pe_cmpR (op_eqB hr.units) (pe_clA C__law_take hr (by rfl) (takes_of rfl rfl rfl rfl) b__law_take (L2.pa_cons (pv 1) (L2.pa_cons pe_int L2.pa_nil))) pe_int (nomark _)) L2.pa_nil))))))
    (psst_cons (PST.of (ps_set (i := 5) sc_law.nd rfl (Or.inl rfl) (pe_clA C__law_written hr (by rfl) (takes_of rfl rfl rfl rfl) b__law_written (L2.pa_cons (pv 4) L2.pa_nil))))
    (psst_cons (PST.of (ps_for (passes_of rfl) rfl (pi_range1 (by rfl) G.n_range (L2.pa_cons (pe_op op_mod (pe_clA C__law_take hr (by rfl) (takes_of rfl rfl rfl rfl) b__law_take (L2.pa_cons (pv 1) (L2.pa_cons pe_int L2.pa_nil))) pe_int) L2.pa_nil)) (pg_name (i := 6) sc_law.nd rfl (Or.inl rfl)) (pss_one (ps_set (i := 5) sc_law.nd rfl (Or.inl rfl) (pe_clA C__law_spoilt hr (by rfl) (takes_of rfl rfl rfl rfl) b__law_spoilt (L2.pa_cons (pv 1) (L2.pa_cons (pv 5) L2.pa_nil)))))))
    (psst_cons (PST.of (ps_par (i := 7) (j := 8) (by rfl) sc_law.nd rfl rfl (by decide) rfl rfl (L2.pa_cons (pe_clA C__law_due hr (by rfl) (takes_of rfl rfl rfl rfl) b__law_due (L2.pa_cons (pv 5) L2.pa_nil)) (L2.pa_cons (pe_clA C__law_told hr (by rfl) (takes_of rfl rfl rfl rfl) b__law_told (L2.pa_cons (pv 5) L2.pa_nil)) L2.pa_nil)) (by rfl)))
    (psst_cons (PST.of (ps_if ((pw_and (pt_cmpR op_notN1 (pv 7) pe_non (nomark _)) (pw_and1 ((pw_or (pt_cmpR (op_neB hr.units) (pv 8) (pv 7) (nomark _)) (pw_or1 (L2.pt_not (pt_val (pe_callB call_isiA (by rfl) G.n_isinstance (by decide +kernel) (L2.pa_cons (pv 8) (L2.pa_cons (pe_gty (by rfl) G.n_int (by decide +kernel)) L2.pa_nil)))))))).pt))).pt (pss_one (ps_ret pe_bl)) pss_nil))
    (psst_cons (PST.of (ps_if ((pw_and (pt_cmpR op_isN1 (pv 7) pe_non (nomark _)) (pw_and1 (L2.pt_not (pt_val (pe_callB call_isiA (by rfl) G.n_isinstance (by decide +kernel) (L2.pa_cons (pv 8) (L2.pa_cons (pe_tup (L2.pa_cons (pe_gty (by rfl) G.n_tuple (by decide +kernel)) (L2.pa_cons (pe_gty (by rfl) G.n_str (by decide +kernel)) L2.pa_nil))) L2.pa_nil)))))))).pt (pss_one (ps_ret pe_bl)) pss_nil))
    (CwR.psst_one (pst_ifT (PWT.ptt (pwt_and (PTT.of (pt_cmpR op_isN1 (pv 7) pe_non (nomark _))) (pwt_and1 (ptt_cmpR (op_neB hr.units) (CwR.PET.of (pe_clA C__law_written hr (by rfl) (takes_of rfl rfl rfl rfl) b__law_written (L2.pa_cons (pv 8) L2.pa_nil))) (CwR.pet_replC (pv 5)) (nomark _))))) (PSsT.of (pss_one (ps_ret pe_bl))) (PSsT.of pss_nil))))))))))
    (pss_cons (ps_set (i := 3) sc_law.nd rfl (Or.inl rfl) (pe_clA C__law_pick hr (by rfl) (takes_of rfl rfl rfl rfl) b__law_pick (L2.pa_cons (pv 1) (L2.pa_cons (pe_lst (L2.pa_cons pe_non (L2.pa_cons pe_int (L2.pa_cons pe_bl (L2.pa_cons (pe_tup (L2.pa_cons pe_str L2.pa_nil)) (L2.pa_cons (pe_lst (L2.pa_cons pe_str L2.pa_nil)) (L2.pa_cons (pe_frz pe_dnewK) (L2.pa_cons (pe_tup L2.pa_nil) (L2.pa_cons pe_int L2.pa_nil))))))))) L2.pa_nil))))
    (pss_cons (ps_if (pt_cmpR (op_neB hr.units) (pe_clA C__law_told hr (by rfl) (takes_of rfl rfl rfl rfl) b__law_told (L2.pa_cons (pv 3) L2.pa_nil)) pe_int (nomark _)) (pss_one (ps_ret pe_bl)) pss_nil)
    (pss_one (ps_ret (pe_and (pe_cmpR (op_eqB hr.units) (pe_clA C__law_told hr (by rfl) (takes_of rfl rfl rfl rfl) b__law_told (L2.pa_cons (pe_op op_mulB pe_str pe_int) L2.pa_nil)) pe_int (nomark _)) (pe_one (pe_cmpR (op_eqB hr.units) (pe_clA C__law_told hr (by rfl) (takes_of rfl rfl rfl rfl) b__law_told (L2.pa_cons (pe_op op_addA (pe_op op_mulB pe_str pe_int) pe_str) L2.pa_nil)) pe_int (nomark _))))))))))

/-- the defs of the text -/
structure Fx (K : PySem.W.Frag) (mg : Str → Option Value) : Prop where
  f_are_letters : ∃ f fd, Df K mg "are_letters" s_are_letters f fd
  f_is_name : ∃ f fd, Df K mg "is_name" s_is_name f fd
  f_is_hole : ∃ f fd, Df K mg "is_hole" s_is_hole f fd
  f_measured : ∃ f fd, Df K mg "measured" s_measured f fd
  f_is_pattern : ∃ f fd, Df K mg "is_pattern" s_is_pattern f fd
  f_behind_blanks : ∃ f fd, Df K mg "behind_blanks" s_behind_blanks f fd
  f_behind_letters : ∃ f fd, Df K mg "behind_letters" s_behind_letters f fd
  f_leaf_at : ∃ f fd, Df K mg "leaf_at" s_leaf_at f fd
  f_closed : ∃ f fd, Df K mg "closed" s_closed f fd
  f_read_pattern : ∃ f fd, Df K mg "read_pattern" s_read_pattern f fd
  f__law_begin : ∃ f fd, Df K mg "_law_begin" s__law_begin f fd
  f__law_take : ∃ f fd, Df K mg "_law_take" s__law_take f fd
  f__law_pick : ∃ f fd, Df K mg "_law_pick" s__law_pick f fd
  f__law_word : ∃ f fd, Df K mg "_law_word" s__law_word f fd
  f__law_hole : ∃ f fd, Df K mg "_law_hole" s__law_hole f fd
  f__law_pattern : ∃ f fd, Df K mg "_law_pattern" s__law_pattern f fd
  f__law_written : ∃ f fd, Df K mg "_law_written" s__law_written f fd
  f__law_next : ∃ f fd, Df K mg "_law_next" s__law_next f fd
  f__law_walk : ∃ f fd, Df K mg "_law_walk" s__law_walk f fd
  f__law_bounds : ∃ f fd, Df K mg "_law_bounds" s__law_bounds f fd
  f__law_due : ∃ f fd, Df K mg "_law_due" s__law_due f fd
  f__law_told : ∃ f fd, Df K mg "_law_told" s__law_told f fd
  f__law_spoilt : ∃ f fd, Df K mg "_law_spoilt" s__law_spoilt f fd

structure Oks (P : Program) [Wd] (K : PySem.W.Frag) (mg : Str → Option Value) (base : Heap) (k : Nat) (F : Fs) : Prop where
  c_are_letters : ClA P Wd.w K mg base k "are_letters" s_are_letters p_are_letters (spA F.f_are_letters)
  c_is_name : ClA P Wd.w K mg base k "is_name" s_is_name p_is_name (spA F.f_is_name)
  c_is_hole : ClA P Wd.w K mg base k "is_hole" s_is_hole p_is_hole (spA F.f_is_hole)
  c_measured : ClA P Wd.w K mg base k "measured" s_measured p_measured (spA F.f_measured)
  c_is_pattern : ClA P Wd.w K mg base k "is_pattern" s_is_pattern p_is_pattern (spA F.f_is_pattern)
  c_behind_blanks : ClA P Wd.w K mg base k "behind_blanks" s_behind_blanks p_behind_blanks (spA F.f_behind_blanks)
  c_behind_letters : ClA P Wd.w K mg base k "behind_letters" s_behind_letters p_behind_letters (spA F.f_behind_letters)
  c_leaf_at : ClA P Wd.w K mg base k "leaf_at" s_leaf_at p_leaf_at (spA F.f_leaf_at)
  c_closed : ClA P Wd.w K mg base k "closed" s_closed p_closed (spA F.f_closed)
  c_read_pattern : ClA P Wd.w K mg base k "read_pattern" s_read_pattern p_read_pattern (spA F.f_read_pattern)
  c__law_take : ClA P Wd.w K mg base k "_law_take" s__law_take p__law_take (spA F.f__law_take)
  c__law_pick : ClA P Wd.w K mg base k "_law_pick" s__law_pick p__law_pick (spA F.f__law_pick)
  c__law_word : ClA P Wd.w K mg base k "_law_word" s__law_word p__law_word (spA F.f__law_word)
  c__law_hole : ClA P Wd.w K mg base k "_law_hole" s__law_hole p__law_hole (spA F.f__law_hole)
  c__law_pattern : ClA P Wd.w K mg base k "_law_pattern" s__law_pattern p__law_pattern (spA F.f__law_pattern)
  c__law_written : ClA P Wd.w K mg base k "_law_written" s__law_written p__law_written (spA F.f__law_written)
  c__law_next : ClA P Wd.w K mg base k "_law_next" s__law_next p__law_next (spA F.f__law_next)
  c__law_walk : ClA P Wd.w K mg base k "_law_walk" s__law_walk p__law_walk (spA F.f__law_walk)
  c__law_bounds : ClA P Wd.w K mg base k "_law_bounds" s__law_bounds p__law_bounds (spA F.f__law_bounds)
  c__law_due : ClA P Wd.w K mg base k "_law_due" s__law_due p__law_due (spA F.f__law_due)
  c__law_told : ClA P Wd.w K mg base k "_law_told" s__law_told p__law_told (spA F.f__law_told)
  c__law_spoilt : ClA P Wd.w K mg base k "_law_spoilt" s__law_spoilt p__law_spoilt (spA F.f__law_spoilt)
theorem oks {P : Program} [Wd] {K : PySem.W.Frag} {mg : Str → Option Value} {base : Heap} {cs : Cs} (G : Gb P K mg base cs) (T : Fx K mg) : ∀ L : Nat, Oks P K mg base (L + 2) (fs K cs L)
  | 0 => {
    c_are_letters := by
      obtain ⟨f, fd, D⟩ := T.f_are_letters
      exact cl_never D,
    c_is_name := by
      obtain ⟨f, fd, D⟩ := T.f_is_name
      exact cl_never D,
    c_is_hole := by
      obtain ⟨f, fd, D⟩ := T.f_is_hole
      exact cl_never D,
    c_measured := by
      obtain ⟨f, fd, D⟩ := T.f_measured
      exact cl_never D,
    c_is_pattern := by
      obtain ⟨f, fd, D⟩ := T.f_is_pattern
      exact cl_never D,
    c_behind_blanks := by
      obtain ⟨f, fd, D⟩ := T.f_behind_blanks
      exact cl_never D,
    c_behind_letters := by
      obtain ⟨f, fd, D⟩ := T.f_behind_letters
      exact cl_never D,
    c_leaf_at := by
      obtain ⟨f, fd, D⟩ := T.f_leaf_at
      exact cl_never D,
    c_closed := by
      obtain ⟨f, fd, D⟩ := T.f_closed
      exact cl_never D,
    c_read_pattern := by
      obtain ⟨f, fd, D⟩ := T.f_read_pattern
      exact cl_never D,
    c__law_take := by
      obtain ⟨f, fd, D⟩ := T.f__law_take
      exact cl_never D,
    c__law_pick := by
      obtain ⟨f, fd, D⟩ := T.f__law_pick
      exact cl_never D,
    c__law_word := by
      obtain ⟨f, fd, D⟩ := T.f__law_word
      exact cl_never D,
    c__law_hole := by
      obtain ⟨f, fd, D⟩ := T.f__law_hole
      exact cl_never D,
    c__law_pattern := by
      obtain ⟨f, fd, D⟩ := T.f__law_pattern
      exact cl_never D,
    c__law_written := by
      obtain ⟨f, fd, D⟩ := T.f__law_written
      exact cl_never D,
    c__law_next := by
      obtain ⟨f, fd, D⟩ := T.f__law_next
      exact cl_never D,
    c__law_walk := by
      obtain ⟨f, fd, D⟩ := T.f__law_walk
      exact cl_never D,
    c__law_bounds := by
      obtain ⟨f, fd, D⟩ := T.f__law_bounds
      exact cl_never D,
    c__law_due := by
      obtain ⟨f, fd, D⟩ := T.f__law_due
      exact cl_never D,
    c__law_told := by
      obtain ⟨f, fd, D⟩ := T.f__law_told
      exact cl_never D,
    c__law_spoilt := by
      obtain ⟨f, fd, D⟩ := T.f__law_spoilt
      exact cl_never D }
  | L + 1 => {
    c_are_letters := by
      obtain ⟨f, fd, D⟩ := T.f_are_letters
      have I := oks G T L
      exact cl_of D (okA D.fn sc_are_letters (ss_are_letters) fun cdv A outer s H E hr => d_are_letters G hr),
    c_is_name := by
      obtain ⟨f, fd, D⟩ := T.f_is_name
      have I := oks G T L
      exact cl_of D (okA D.fn sc_is_name (ss_is_name) fun cdv A outer s H E hr => d_is_name G I.c_are_letters hr),
    c_is_hole := by
      obtain ⟨f, fd, D⟩ := T.f_is_hole
      have I := oks G T L
      exact cl_of D (okA D.fn sc_is_hole (ss_is_hole) fun cdv A outer s H E hr => d_is_hole G I.c_are_letters hr),
    c_measured := by
      obtain ⟨f, fd, D⟩ := T.f_measured
      have I := oks G T L
      exact cl_of D (okA D.fn sc_measured (ss_measured) fun cdv A outer s H E hr => d_measured G I.c_is_hole I.c_is_name I.c_measured hr),
    c_is_pattern := by
      obtain ⟨f, fd, D⟩ := T.f_is_pattern
      have I := oks G T L
      exact cl_of D (okA D.fn sc_is_pattern (ss_is_pattern) fun cdv A outer s H E hr => d_is_pattern G I.c_measured hr),
    c_behind_blanks := by
      obtain ⟨f, fd, D⟩ := T.f_behind_blanks
      have I := oks G T L
      exact cl_of D (okA D.fn sc_behind_blanks (ss_behind_blanks) fun cdv A outer s H E hr => d_behind_blanks G hr),
    c_behind_letters := by
      obtain ⟨f, fd, D⟩ := T.f_behind_letters
      have I := oks G T L
      exact cl_of D (okA D.fn sc_behind_letters (ss_behind_letters ⟨G.y_NoText.o, G.y_NoText.n⟩) fun cdv A outer s H E hr => d_behind_letters G hr (by omega)),
    c_leaf_at := by
      obtain ⟨f, fd, D⟩ := T.f_leaf_at
      have I := oks G T L
      exact cl_of D (okA D.fn sc_leaf_at (ss_leaf_at) fun cdv A outer s H E hr => d_leaf_at G I.c_behind_blanks I.c_behind_letters hr),
    c_closed := by
      obtain ⟨f, fd, D⟩ := T.f_closed
      have I := oks G T L
      exact cl_of D (okA D.fn sc_closed (ss_closed ⟨G.y_NoText.o, G.y_NoText.n⟩) fun cdv A outer s H E hr => d_closed G I.c_behind_blanks hr (by omega)),
    c_read_pattern := by
      obtain ⟨f, fd, D⟩ := T.f_read_pattern
      have I := oks G T L
      exact cl_of D (okA D.fn sc_read_pattern (ss_read_pattern ⟨G.y_NoText.o, G.y_NoText.n⟩) fun cdv A outer s H E hr => d_read_pattern G I.c_leaf_at I.c_closed I.c_is_pattern hr (by omega)),
    c__law_take := by
      obtain ⟨f, fd, D⟩ := T.f__law_take
      exact (cl_take D (ok_take (k := 0) D.fn sc__law_take rfl rfl fun cdv A outer s H E hr => d__law_take G hr)).mono (by omega),
    c__law_pick := by
      obtain ⟨f, fd, D⟩ := T.f__law_pick
      have I := oks G T L
      exact cl_of D (okA D.fn sc__law_pick (ss__law_pick) fun cdv A outer s H E hr => d__law_pick G I.c__law_take hr),
    c__law_word := by
      obtain ⟨f, fd, D⟩ := T.f__law_word
      have I := oks G T L
      exact cl_of D (okA D.fn sc__law_word (ss__law_word) fun cdv A outer s H E hr => d__law_word G I.c__law_take I.c__law_pick hr),
    c__law_hole := by
      obtain ⟨f, fd, D⟩ := T.f__law_hole
      have I := oks G T L
      exact cl_of D (okA D.fn sc__law_hole (ss__law_hole) fun cdv A outer s H E hr => d__law_hole G I.c__law_take I.c__law_pick hr),
    c__law_pattern := by
      obtain ⟨f, fd, D⟩ := T.f__law_pattern
      have I := oks G T L
      exact cl_of D (okA D.fn sc__law_pattern (ss__law_pattern) fun cdv A outer s H E hr => d__law_pattern G I.c__law_take I.c__law_hole I.c__law_word I.c__law_pattern hr),
    c__law_written := by
      obtain ⟨f, fd, D⟩ := T.f__law_written
      have I := oks G T L
      exact cl_of D (okA D.fn sc__law_written (ss__law_written) fun cdv A outer s H E hr => d__law_written G I.c__law_written hr),
    c__law_next := by
      obtain ⟨f, fd, D⟩ := T.f__law_next
      have I := oks G T L
      exact cl_of D (okA D.fn sc__law_next (ss__law_next) fun cdv A outer s H E hr => d__law_next G hr),
    c__law_walk := by
      obtain ⟨f, fd, D⟩ := T.f__law_walk
      have I := oks G T L
      exact cl_of D (okA D.fn sc__law_walk (ss__law_walk) fun cdv A outer s H E hr => d__law_walk G I.c__law_next hr),
    c__law_bounds := by
      obtain ⟨f, fd, D⟩ := T.f__law_bounds
      have I := oks G T L
      exact cl_of D (okA D.fn sc__law_bounds (ss__law_bounds) fun cdv A outer s H E hr => d__law_bounds G hr),
    c__law_due := by
      obtain ⟨f, fd, D⟩ := T.f__law_due
      have I := oks G T L
      exact cl_of D (okA D.fn sc__law_due (ss__law_due_v2) fun cdv A outer s H E hr => d__law_due G I.c__law_walk I.c__law_bounds hr),
    c__law_told := by
      obtain ⟨f, fd, D⟩ := T.f__law_told
      have I := oks G T L
      exact cl_of D (okA D.fn sc__law_told (ss__law_told_v2) fun cdv A outer s H E hr => d__law_told G I.c_read_pattern hr),
    c__law_spoilt := by
      obtain ⟨f, fd, D⟩ := T.f__law_spoilt
      have I := oks G T L
      exact cl_of D (okA D.fn sc__law_spoilt (ss__law_spoilt) fun cdv A outer s H E hr => d__law_spoilt G I.c__law_take I.c__law_pick hr) }
theorem law_ok {P : Program} [Wd] {K : PySem.W.Frag} {mg : Str → Option Value} {base : Heap} {cs : Cs} {f : Addr} {fd : FuncData} (G : Gb P K mg base cs) (T : Fx K mg) (F : L2.Fun K "law" "law" s_law f fd) (L : Nat)
    (h : ∀ a c, a ≠ c → u_law_K05 K cs (fs K cs L).f__law_pattern (fs K cs L).f__law_take (fs K cs L).f__law_written (fs K cs L).f__law_spoilt (fs K cs L).f__law_due (fs K cs L).f__law_told (fs K cs L).f__law_pick endsL (none :: some (.ref a) :: List.replicate 7 none) (sto0 a c)) : FnOk P Wd.w K mg base (L2.CX P Wd.w) (L + 3) f fd ["_law_script"] (spLaw K) := by
  obtain ⟨f0, fd0, D0⟩ := T.f__law_begin
  have I := oks G T L
  have C0 : ClA P Wd.w K mg base (L + 2) "_law_begin" s__law_begin p__law_begin (spBegin K) := (cl_of D0 (fn_toX (ok_begin (k := 0) D0.fn sc__law_begin rfl rfl fun cdv A outer s H E hr => d__law_begin G hr))).mono (by omega)
  exact ok_lawA F sc_law rfl (ss_law_K05) (fun cdv A outer s H E hr => d_law (F__law_begin' := ()) G I.c__law_pattern I.c__law_take I.c__law_written I.c__law_spoilt I.c__law_due I.c__law_told I.c__law_pick hr C0) h
end K05

set_option Elab.async false
set_option linter.all false
set_option maxRecDepth 100000
set_option maxHeartbeats 4000000
namespace K05
open PySem L2 DL AL LM
theorem all_mk {l : PySem.W.OpenLaw} {w : World} {K : PySem.W.Frag} {h : Heap} {mg : Str → Option Value} {fa : Addr} (cs : Cs) (X : K.In h) (G : h.Ns mainGlobals mg) (hfa : mg "law" = some (.ref fa)) {f0 : Addr} {od0 an0 : Option Addr} {sl0 : Array (Option Value)} {oc0 kV0 dc0 pm0 cd0 ct0 : Value} {f1 : Addr} {od1 an1 : Option Addr} {sl1 : Array (Option Value)} {oc1 kV1 dc1 pm1 cd1 ct1 : Value} {f2 : Addr} {od2 an2 : Option Addr} {sl2 : Array (Option Value)} {oc2 kV2 dc2 pm2 cd2 ct2 : Value} {f3 : Addr} {od3 an3 : Option Addr} {sl3 : Array (Option Value)} {oc3 kV3 dc3 pm3 cd3 ct3 : Value} {f4 : Addr} {od4 an4 : Option Addr} {sl4 : Array (Option Value)} {oc4 kV4 dc4 pm4 cd4 ct4 : Value} {f5 : Addr} {od5 an5 : Option Addr} {sl5 : Array (Option Value)} {oc5 kV5 dc5 pm5 cd5 ct5 : Value} {f6 : Addr} {od6 an6 : Option Addr} {sl6 : Array (Option Value)} {oc6 kV6 dc6 pm6 cd6 ct6 : Value} {f7 : Addr} {od7 an7 : Option Addr} {sl7 : Array (Option Value)} {oc7 kV7 dc7 pm7 cd7 ct7 : Value} {f8 : Addr} {od8 an8 : Option Addr} {sl8 : Array (Option Value)} {oc8 kV8 dc8 pm8 cd8 ct8 : Value} {f9 : Addr} {od9 an9 : Option Addr} {sl9 : Array (Option Value)} {oc9 kV9 dc9 pm9 cd9 ct9 : Value} {f10 : Addr} {od10 an10 : Option Addr} {sl10 : Array (Option Value)} {oc10 kV10 dc10 pm10 cd10 ct10 : Value} {f11 : Addr} {od11 an11 : Option Addr} {sl11 : Array (Option Value)} {oc11 kV11 dc11 pm11 cd11 ct11 : Value} {f12 : Addr} {od12 an12 : Option Addr} {sl12 : Array (Option Value)} {oc12 kV12 dc12 pm12 cd12 ct12 : Value} {f13 : Addr} {od13 an13 : Option Addr} {sl13 : Array (Option Value)} {oc13 kV13 dc13 pm13 cd13 ct13 : Value} {f14 : Addr} {od14 an14 : Option Addr} {sl14 : Array (Option Value)} {oc14 kV14 dc14 pm14 cd14 ct14 : Value} {f15 : Addr} {od15 an15 : Option Addr} {sl15 : Array (Option Value)} {oc15 kV15 dc15 pm15 cd15 ct15 : Value} {f16 : Addr} {od16 an16 : Option Addr} {sl16 : Array (Option Value)} {oc16 kV16 dc16 pm16 cd16 ct16 : Value} {f17 : Addr} {od17 an17 : Option Addr} {sl17 : Array (Option Value)} {oc17 kV17 dc17 pm17 cd17 ct17 : Value} {f18 : Addr} {od18 an18 : Option Addr} {sl18 : Array (Option Value)} {oc18 kV18 dc18 pm18 cd18 ct18 : Value} {f19 : Addr} {od19 an19 : Option Addr} {sl19 : Array (Option Value)} {oc19 kV19 dc19 pm19 cd19 ct19 : Value} {f20 : Addr} {od20 an20 : Option Addr} {sl20 : Array (Option Value)} {oc20 kV20 dc20 pm20 cd20 ct20 : Value} {f21 : Addr} {od21 an21 : Option Addr} {sl21 : Array (Option Value)} {oc21 kV21 dc21 pm21 cd21 ct21 : Value} {f22 : Addr} {od22 an22 : Option Addr} {sl22 : Array (Option Value)} {oc22 kV22 dc22 pm22 cd22 ct22 : Value} {f23 : Addr} {od23 an23 : Option Addr} {sl23 : Array (Option Value)} {oc23 kV23 dc23 pm23 cd23 ct23 : Value} {tk_LETTERS : Tok} {tk_LONGEST : Tok} {tk_LONGEST_HOLE : Tok} {tk_MOST_DEEP : Tok} {tk_MOST_PARTS : Tok} {tk_MOST_SIZE : Tok}
    (a0 : PySem.W.nsIn K mainGlobals "are_letters" = some (some (.ref f0))) (l0 : K.lookup f0 = some ⟨oc0, od0, .func (PySem.W.fnOf "are_letters" "are_letters" (defArgs s_are_letters) (defBody s_are_letters) (defScope s_are_letters) .none kV0 dc0 pm0 an0 cd0 ct0), sl0⟩) (c0 : PySem.W.codeIn K cd0 "are_letters" = true) (k0 : PySem.W.keepIn K (.ref f0) = true)
    (a1 : PySem.W.nsIn K mainGlobals "is_name" = some (some (.ref f1))) (l1 : K.lookup f1 = some ⟨oc1, od1, .func (PySem.W.fnOf "is_name" "is_name" (defArgs s_is_name) (defBody s_is_name) (defScope s_is_name) .none kV1 dc1 pm1 an1 cd1 ct1), sl1⟩) (c1 : PySem.W.codeIn K cd1 "is_name" = true) (k1 : PySem.W.keepIn K (.ref f1) = true)
    (a2 : PySem.W.nsIn K mainGlobals "is_hole" = some (some (.ref f2))) (l2 : K.lookup f2 = some ⟨oc2, od2, .func (PySem.W.fnOf "is_hole" "is_hole" (defArgs s_is_hole) (defBody s_is_hole) (defScope s_is_hole) .none kV2 dc2 pm2 an2 cd2 ct2), sl2⟩) (c2 : PySem.W.codeIn K cd2 "is_hole" = true) (k2 : PySem.W.keepIn K (.ref f2) = true)
    (a3 : PySem.W.nsIn K mainGlobals "measured" = some (some (.ref f3))) (l3 : K.lookup f3 = some ⟨oc3, od3, .func (PySem.W.fnOf "measured" "measured" (defArgs s_measured) (defBody s_measured) (defScope s_measured) .none kV3 dc3 pm3 an3 cd3 ct3), sl3⟩) (c3 : PySem.W.codeIn K cd3 "measured" = true) (k3 : PySem.W.keepIn K (.ref f3) = true)
    (a4 : PySem.W.nsIn K mainGlobals "is_pattern" = some (some (.ref f4))) (l4 : K.lookup f4 = some ⟨oc4, od4, .func (PySem.W.fnOf "is_pattern" "is_pattern" (defArgs s_is_pattern) (defBody s_is_pattern) (defScope s_is_pattern) .none kV4 dc4 pm4 an4 cd4 ct4), sl4⟩) (c4 : PySem.W.codeIn K cd4 "is_pattern" = true) (k4 : PySem.W.keepIn K (.ref f4) = true)
    (a5 : PySem.W.nsIn K mainGlobals "behind_blanks" = some (some (.ref f5))) (l5 : K.lookup f5 = some ⟨oc5, od5, .func (PySem.W.fnOf "behind_blanks" "behind_blanks" (defArgs s_behind_blanks) (defBody s_behind_blanks) (defScope s_behind_blanks) .none kV5 dc5 pm5 an5 cd5 ct5), sl5⟩) (c5 : PySem.W.codeIn K cd5 "behind_blanks" = true) (k5 : PySem.W.keepIn K (.ref f5) = true)
    (a6 : PySem.W.nsIn K mainGlobals "behind_letters" = some (some (.ref f6))) (l6 : K.lookup f6 = some ⟨oc6, od6, .func (PySem.W.fnOf "behind_letters" "behind_letters" (defArgs s_behind_letters) (defBody s_behind_letters) (defScope s_behind_letters) .none kV6 dc6 pm6 an6 cd6 ct6), sl6⟩) (c6 : PySem.W.codeIn K cd6 "behind_letters" = true) (k6 : PySem.W.keepIn K (.ref f6) = true)
    (a7 : PySem.W.nsIn K mainGlobals "leaf_at" = some (some (.ref f7))) (l7 : K.lookup f7 = some ⟨oc7, od7, .func (PySem.W.fnOf "leaf_at" "leaf_at" (defArgs s_leaf_at) (defBody s_leaf_at) (defScope s_leaf_at) .none kV7 dc7 pm7 an7 cd7 ct7), sl7⟩) (c7 : PySem.W.codeIn K cd7 "leaf_at" = true) (k7 : PySem.W.keepIn K (.ref f7) = true)
    (a8 : PySem.W.nsIn K mainGlobals "closed" = some (some (.ref f8))) (l8 : K.lookup f8 = some ⟨oc8, od8, .func (PySem.W.fnOf "closed" "closed" (defArgs s_closed) (defBody s_closed) (defScope s_closed) .none kV8 dc8 pm8 an8 cd8 ct8), sl8⟩) (c8 : PySem.W.codeIn K cd8 "closed" = true) (k8 : PySem.W.keepIn K (.ref f8) = true)
    (a9 : PySem.W.nsIn K mainGlobals "read_pattern" = some (some (.ref f9))) (l9 : K.lookup f9 = some ⟨oc9, od9, .func (PySem.W.fnOf "read_pattern" "read_pattern" (defArgs s_read_pattern) (defBody s_read_pattern) (defScope s_read_pattern) .none kV9 dc9 pm9 an9 cd9 ct9), sl9⟩) (c9 : PySem.W.codeIn K cd9 "read_pattern" = true) (k9 : PySem.W.keepIn K (.ref f9) = true)
    (a10 : PySem.W.nsIn K mainGlobals "_law_begin" = some (some (.ref f10))) (l10 : K.lookup f10 = some ⟨oc10, od10, .func (PySem.W.fnOf "_law_begin" "_law_begin" (defArgs s__law_begin) (defBody s__law_begin) (defScope s__law_begin) .none kV10 dc10 pm10 an10 cd10 ct10), sl10⟩) (c10 : PySem.W.codeIn K cd10 "_law_begin" = true) (k10 : PySem.W.keepIn K (.ref f10) = true)
    (a11 : PySem.W.nsIn K mainGlobals "_law_take" = some (some (.ref f11))) (l11 : K.lookup f11 = some ⟨oc11, od11, .func (PySem.W.fnOf "_law_take" "_law_take" (defArgs s__law_take) (defBody s__law_take) (defScope s__law_take) .none kV11 dc11 pm11 an11 cd11 ct11), sl11⟩) (c11 : PySem.W.codeIn K cd11 "_law_take" = true) (k11 : PySem.W.keepIn K (.ref f11) = true)
    (a12 : PySem.W.nsIn K mainGlobals "_law_pick" = some (some (.ref f12))) (l12 : K.lookup f12 = some ⟨oc12, od12, .func (PySem.W.fnOf "_law_pick" "_law_pick" (defArgs s__law_pick) (defBody s__law_pick) (defScope s__law_pick) .none kV12 dc12 pm12 an12 cd12 ct12), sl12⟩) (c12 : PySem.W.codeIn K cd12 "_law_pick" = true) (k12 : PySem.W.keepIn K (.ref f12) = true)
    (a13 : PySem.W.nsIn K mainGlobals "_law_word" = some (some (.ref f13))) (l13 : K.lookup f13 = some ⟨oc13, od13, .func (PySem.W.fnOf "_law_word" "_law_word" (defArgs s__law_word) (defBody s__law_word) (defScope s__law_word) .none kV13 dc13 pm13 an13 cd13 ct13), sl13⟩) (c13 : PySem.W.codeIn K cd13 "_law_word" = true) (k13 : PySem.W.keepIn K (.ref f13) = true)
    (a14 : PySem.W.nsIn K mainGlobals "_law_hole" = some (some (.ref f14))) (l14 : K.lookup f14 = some ⟨oc14, od14, .func (PySem.W.fnOf "_law_hole" "_law_hole" (defArgs s__law_hole) (defBody s__law_hole) (defScope s__law_hole) .none kV14 dc14 pm14 an14 cd14 ct14), sl14⟩) (c14 : PySem.W.codeIn K cd14 "_law_hole" = true) (k14 : PySem.W.keepIn K (.ref f14) = true)
    (a15 : PySem.W.nsIn K mainGlobals "_law_pattern" = some (some (.ref f15))) (l15 : K.lookup f15 = some ⟨oc15, od15, .func (PySem.W.fnOf "_law_pattern" "_law_pattern" (defArgs s__law_pattern) (defBody s__law_pattern) (defScope s__law_pattern) .none kV15 dc15 pm15 an15 cd15 ct15), sl15⟩) (c15 : PySem.W.codeIn K cd15 "_law_pattern" = true) (k15 : PySem.W.keepIn K (.ref f15) = true)
    (a16 : PySem.W.nsIn K mainGlobals "_law_written" = some (some (.ref f16))) (l16 : K.lookup f16 = some ⟨oc16, od16, .func (PySem.W.fnOf "_law_written" "_law_written" (defArgs s__law_written) (defBody s__law_written) (defScope s__law_written) .none kV16 dc16 pm16 an16 cd16 ct16), sl16⟩) (c16 : PySem.W.codeIn K cd16 "_law_written" = true) (k16 : PySem.W.keepIn K (.ref f16) = true)
    (a17 : PySem.W.nsIn K mainGlobals "_law_next" = some (some (.ref f17))) (l17 : K.lookup f17 = some ⟨oc17, od17, .func (PySem.W.fnOf "_law_next" "_law_next" (defArgs s__law_next) (defBody s__law_next) (defScope s__law_next) .none kV17 dc17 pm17 an17 cd17 ct17), sl17⟩) (c17 : PySem.W.codeIn K cd17 "_law_next" = true) (k17 : PySem.W.keepIn K (.ref f17) = true)
    (a18 : PySem.W.nsIn K mainGlobals "_law_walk" = some (some (.ref f18))) (l18 : K.lookup f18 = some ⟨oc18, od18, .func (PySem.W.fnOf "_law_walk" "_law_walk" (defArgs s__law_walk) (defBody s__law_walk) (defScope s__law_walk) .none kV18 dc18 pm18 an18 cd18 ct18), sl18⟩) (c18 : PySem.W.codeIn K cd18 "_law_walk" = true) (k18 : PySem.W.keepIn K (.ref f18) = true)
    (a19 : PySem.W.nsIn K mainGlobals "_law_bounds" = some (some (.ref f19))) (l19 : K.lookup f19 = some ⟨oc19, od19, .func (PySem.W.fnOf "_law_bounds" "_law_bounds" (defArgs s__law_bounds) (defBody s__law_bounds) (defScope s__law_bounds) .none kV19 dc19 pm19 an19 cd19 ct19), sl19⟩) (c19 : PySem.W.codeIn K cd19 "_law_bounds" = true) (k19 : PySem.W.keepIn K (.ref f19) = true)
    (a20 : PySem.W.nsIn K mainGlobals "_law_due" = some (some (.ref f20))) (l20 : K.lookup f20 = some ⟨oc20, od20, .func (PySem.W.fnOf "_law_due" "_law_due" (defArgs s__law_due) (defBody s__law_due) (defScope s__law_due) .none kV20 dc20 pm20 an20 cd20 ct20), sl20⟩) (c20 : PySem.W.codeIn K cd20 "_law_due" = true) (k20 : PySem.W.keepIn K (.ref f20) = true)
    (a21 : PySem.W.nsIn K mainGlobals "_law_told" = some (some (.ref f21))) (l21 : K.lookup f21 = some ⟨oc21, od21, .func (PySem.W.fnOf "_law_told" "_law_told" (defArgs s__law_told) (defBody s__law_told) (defScope s__law_told) .none kV21 dc21 pm21 an21 cd21 ct21), sl21⟩) (c21 : PySem.W.codeIn K cd21 "_law_told" = true) (k21 : PySem.W.keepIn K (.ref f21) = true)
    (a22 : PySem.W.nsIn K mainGlobals "_law_spoilt" = some (some (.ref f22))) (l22 : K.lookup f22 = some ⟨oc22, od22, .func (PySem.W.fnOf "_law_spoilt" "_law_spoilt" (defArgs s__law_spoilt) (defBody s__law_spoilt) (defScope s__law_spoilt) .none kV22 dc22 pm22 an22 cd22 ct22), sl22⟩) (c22 : PySem.W.codeIn K cd22 "_law_spoilt" = true) (k22 : PySem.W.keepIn K (.ref f22) = true)
    (a23 : PySem.W.nsIn K mainGlobals "law" = some (some (.ref f23))) (l23 : K.lookup f23 = some ⟨oc23, od23, .func (PySem.W.fnOf "law" "law" (defArgs s_law) (defBody s_law) (defScope s_law) .none kV23 dc23 pm23 an23 cd23 ct23), sl23⟩) (c23 : PySem.W.codeIn K cd23 "law" = true) (k23 : PySem.W.keepIn K (.ref f23) = true)
    (z_ValueError : PySem.W.nsIn K mainGlobals "ValueError" = some none)
    (z_abs : PySem.W.nsIn K mainGlobals "abs" = some none)
    (z_all : PySem.W.nsIn K mainGlobals "all" = some none)
    (z_enumerate : PySem.W.nsIn K mainGlobals "enumerate" = some none)
    (z_int : PySem.W.nsIn K mainGlobals "int" = some none)
    (z_isinstance : PySem.W.nsIn K mainGlobals "isinstance" = some none)
    (z_len : PySem.W.nsIn K mainGlobals "len" = some none)
    (z_list : PySem.W.nsIn K mainGlobals "list" = some none)
    (z_max : PySem.W.nsIn K mainGlobals "max" = some none)
    (z_range : PySem.W.nsIn K mainGlobals "range" = some none)
    (z_str : PySem.W.nsIn K mainGlobals "str" = some none)
    (z_sum : PySem.W.nsIn K mainGlobals "sum" = some none)
    (z_tuple : PySem.W.nsIn K mainGlobals "tuple" = some none)
    (y_LETTERS : PySem.W.nsIn K mainGlobals "LETTERS" = some (some (.str "abcdefghijklmnopqrstuvwxyz" tk_LETTERS)))
    (y_LONGEST : PySem.W.nsIn K mainGlobals "LONGEST" = some (some (.int 8 tk_LONGEST)))
    (y_LONGEST_HOLE : PySem.W.nsIn K mainGlobals "LONGEST_HOLE" = some (some (.int 4 tk_LONGEST_HOLE)))
    (y_MOST_DEEP : PySem.W.nsIn K mainGlobals "MOST_DEEP" = some (some (.int 5 tk_MOST_DEEP)))
    (y_MOST_PARTS : PySem.W.nsIn K mainGlobals "MOST_PARTS" = some (some (.int 3 tk_MOST_PARTS)))
    (y_MOST_SIZE : PySem.W.nsIn K mainGlobals "MOST_SIZE" = some (some (.int 30 tk_MOST_SIZE)))
    (g_BadPattern : PySem.W.nsIn K mainGlobals "BadPattern" = some (some (.ref cs.BadPattern)))
    (g_BadTerm : PySem.W.nsIn K mainGlobals "BadTerm" = some (some (.ref cs.BadTerm)))
    (g_MatchError : PySem.W.nsIn K mainGlobals "MatchError" = some (some (.ref cs.MatchError)))
    (g_NoText : PySem.W.nsIn K mainGlobals "NoText" = some (some (.ref cs.NoText)))
    (oc_NoText : ∃ nm q N bs bm sn sub ab col dd k0 k1 k2 k3 k5, K.lookup cs.NoText = some (excClassObj nm q cs.NoText N bs bm true sn sub ab col dd k0 k1 k2 k3 k5 "ValueError.__new__") ∧ PySem.HandSPX.refsVE bm = true) (os_NoText : PySem.W.findIn K (.ref cs.NoText) "__setattr__" = some (some (.builtin "object.__setattr__"))) (oe_NoText : PySem.W.subIn K (.ref cs.NoText) (.type "BaseException") = some true) (ot_NoText : PySem.W.typeIn K (.ref cs.NoText) = some (.type "type")) (ok_NoText : PySem.W.keepIn K (.ref cs.NoText) = true) (on_NoText : PySem.W.findIn K (.ref cs.NoText) "at" = some none)
    {fi_NoText : Addr} {iod_NoText ian_NoText : Option Addr} {isl_NoText : Array (Option Value)} {ioc_NoText ikV_NoText idc_NoText ipm_NoText icd_NoText ict_NoText : Value} (oi_NoText : PySem.W.findIn K (.ref cs.NoText) "__init__" = some (some (.ref fi_NoText))) (oj_NoText : PySem.W.typeIn K (.ref fi_NoText) = some (.type "function")) (ol_NoText : K.lookup fi_NoText = some ⟨ioc_NoText, iod_NoText, .func (PySem.W.fnOf "__init__" "NoText.__init__" (defArgs s_init_NoText) (defBody s_init_NoText) (defScope s_init_NoText) .none ikV_NoText idc_NoText ipm_NoText ian_NoText icd_NoText ict_NoText), isl_NoText⟩) (om_NoText : PySem.W.codeIn K icd_NoText "NoText.__init__" = true) (op_NoText : PySem.W.keepIn K (.ref fi_NoText) = true)
    (hn : PySem.W.specialIn K (.builtin "object.__class__") "__get__" = some (some (.builtin "getset_descriptor.__get__"))) (ht : PySem.W.takesIn K (.builtin "object.__class__") = some true)
    (ehg_NoText : PySem.W.findIn K (.ref cs.NoText) "__getattribute__" = some (some (.builtin "BaseException.__getattribute__")))
    (ehk_NoText : PySem.W.findIn K (.ref cs.NoText) "__getattr__" = some none)
    (ehs_NoText : PySem.W.subIn K (.ref cs.NoText) (.type "BaseException") = some true)
    (ehd_NoText : PySem.W.hasDictIn K cs.NoText = true)
    (eha_NoText : PySem.W.findIn K (.ref cs.NoText) "__class__" = some (some (.builtin "object.__class__")))
    (ehm_NoText : PySem.W.mroIn K cs.NoText (.type "object") = some true)
    (q_m_NoText_MatchError : PySem.W.exmOne K (.ref cs.NoText) (.ref cs.MatchError) = some true)
    (q_i_NoText_BadPattern : PySem.W.kitOne K (.ref cs.NoText) (.ref cs.BadPattern) = some false)
    (q_i_NoText_BadTerm : PySem.W.kitOne K (.ref cs.NoText) (.ref cs.BadTerm) = some false)
    (q_i_NoText_NoText : PySem.W.kitOne K (.ref cs.NoText) (.ref cs.NoText) = some true)
    (q_v_NoText : PySem.W.kitOne K (.ref cs.NoText) (.type "ValueError") = some true)
    (q_z_BadPattern : PySem.W.kitOne K (.type "NoneType") (.ref cs.BadPattern) = some false)
    (q_z_BadTerm : PySem.W.kitOne K (.type "NoneType") (.ref cs.BadTerm) = some false)
    (q_z_NoText : PySem.W.kitOne K (.type "NoneType") (.ref cs.NoText) = some false) :
    ∃ fd : FuncData, (∀ (s : Shared) (v : Value), BindsTo s fd ⟨[v], []⟩ [("_law_script", v)]) ∧ ∀ base : Heap, K.In base → base.Ns mainGlobals mg → FnOk l.prog w K mg base (L2.CX l.prog w) (40 + 3) fa fd ["_law_script"] (spLaw K) := by
  letI : Wd := ⟨w⟩
  have e := hfa.symm.trans (PySem.W.mg_of X G a23)
  cases e
  have T : Fx K mg := { f_are_letters := ⟨_, _, fun_mk (st := s_are_letters) l0 c0 k0, PySem.W.mg_of X G a0⟩, f_is_name := ⟨_, _, fun_mk (st := s_is_name) l1 c1 k1, PySem.W.mg_of X G a1⟩, f_is_hole := ⟨_, _, fun_mk (st := s_is_hole) l2 c2 k2, PySem.W.mg_of X G a2⟩, f_measured := ⟨_, _, fun_mk (st := s_measured) l3 c3 k3, PySem.W.mg_of X G a3⟩, f_is_pattern := ⟨_, _, fun_mk (st := s_is_pattern) l4 c4 k4, PySem.W.mg_of X G a4⟩, f_behind_blanks := ⟨_, _, fun_mk (st := s_behind_blanks) l5 c5 k5, PySem.W.mg_of X G a5⟩, f_behind_letters := ⟨_, _, fun_mk (st := s_behind_letters) l6 c6 k6, PySem.W.mg_of X G a6⟩, f_leaf_at := ⟨_, _, fun_mk (st := s_leaf_at) l7 c7 k7, PySem.W.mg_of X G a7⟩, f_closed := ⟨_, _, fun_mk (st := s_closed) l8 c8 k8, PySem.W.mg_of X G a8⟩, f_read_pattern := ⟨_, _, fun_mk (st := s_read_pattern) l9 c9 k9, PySem.W.mg_of X G a9⟩, f__law_begin := ⟨_, _, fun_mk (st := s__law_begin) l10 c10 k10, PySem.W.mg_of X G a10⟩, f__law_take := ⟨_, _, fun_mk (st := s__law_take) l11 c11 k11, PySem.W.mg_of X G a11⟩, f__law_pick := ⟨_, _, fun_mk (st := s__law_pick) l12 c12 k12, PySem.W.mg_of X G a12⟩, f__law_word := ⟨_, _, fun_mk (st := s__law_word) l13 c13 k13, PySem.W.mg_of X G a13⟩, f__law_hole := ⟨_, _, fun_mk (st := s__law_hole) l14 c14 k14, PySem.W.mg_of X G a14⟩, f__law_pattern := ⟨_, _, fun_mk (st := s__law_pattern) l15 c15 k15, PySem.W.mg_of X G a15⟩, f__law_written := ⟨_, _, fun_mk (st := s__law_written) l16 c16 k16, PySem.W.mg_of X G a16⟩, f__law_next := ⟨_, _, fun_mk (st := s__law_next) l17 c17 k17, PySem.W.mg_of X G a17⟩, f__law_walk := ⟨_, _, fun_mk (st := s__law_walk) l18 c18 k18, PySem.W.mg_of X G a18⟩, f__law_bounds := ⟨_, _, fun_mk (st := s__law_bounds) l19 c19 k19, PySem.W.mg_of X G a19⟩, f__law_due := ⟨_, _, fun_mk (st := s__law_due) l20 c20 k20, PySem.W.mg_of X G a20⟩, f__law_told := ⟨_, _, fun_mk (st := s__law_told) l21 c21 k21, PySem.W.mg_of X G a21⟩, f__law_spoilt := ⟨_, _, fun_mk (st := s__law_spoilt) l22 c22 k22, PySem.W.mg_of X G a22⟩ }
  have Gg : ∀ base, Gb l.prog K mg base cs := fun base => { n_ValueError := PySem.W.mg_none_of X G z_ValueError, n_abs := PySem.W.mg_none_of X G z_abs, n_all := PySem.W.mg_none_of X G z_all, n_enumerate := PySem.W.mg_none_of X G z_enumerate, n_int := PySem.W.mg_none_of X G z_int, n_isinstance := PySem.W.mg_none_of X G z_isinstance, n_len := PySem.W.mg_none_of X G z_len, n_list := PySem.W.mg_none_of X G z_list, n_max := PySem.W.mg_none_of X G z_max, n_range := PySem.W.mg_none_of X G z_range, n_str := PySem.W.mg_none_of X G z_str, n_sum := PySem.W.mg_none_of X G z_sum, n_tuple := PySem.W.mg_none_of X G z_tuple, c_LETTERS := ⟨_, PySem.W.mg_of X G y_LETTERS⟩, c_LONGEST := ⟨_, PySem.W.mg_of X G y_LONGEST⟩, c_LONGEST_HOLE := ⟨_, PySem.W.mg_of X G y_LONGEST_HOLE⟩, c_MOST_DEEP := ⟨_, PySem.W.mg_of X G y_MOST_DEEP⟩, c_MOST_PARTS := ⟨_, PySem.W.mg_of X G y_MOST_PARTS⟩, c_MOST_SIZE := ⟨_, PySem.W.mg_of X G y_MOST_SIZE⟩, y_NoText := ⟨⟨oc_NoText, os_NoText, oe_NoText, ot_NoText, ok_NoText⟩, PySem.W.mg_of X G g_NoText, on_NoText, _, _, _, oi_NoText, oj_NoText, ok_init (fun_mk (st := s_init_NoText) ol_NoText om_NoText op_NoText) sc_init_NoText rfl rfl (fun cdv A outer s H E => d_init_NoText (cs := cs)), (fun_mk (st := s_init_NoText) ol_NoText om_NoText op_NoText).binds b_init_NoText⟩, g_BadPattern := PySem.W.mg_of X G g_BadPattern, g_BadTerm := PySem.W.mg_of X G g_BadTerm, g_MatchError := PySem.W.mg_of X G g_MatchError, g_NoText := PySem.W.mg_of X G g_NoText }
  have kx : Kx K cs := { ex_NoText := ⟨ehg_NoText, ehk_NoText, ehs_NoText, ehd_NoText, eha_NoText, hn, ht, ehm_NoText⟩, o_NoText := ⟨⟨oc_NoText, os_NoText, oe_NoText, ot_NoText, ok_NoText⟩, on_NoText⟩, xf_NoText := ⟨ehg_NoText, ehk_NoText, ehs_NoText, ehd_NoText⟩, m_NoText_MatchError := q_m_NoText_MatchError, i_NoText_BadPattern := q_i_NoText_BadPattern, i_NoText_BadTerm := q_i_NoText_BadTerm, i_NoText_NoText := q_i_NoText_NoText, v_NoText := q_v_NoText, z_BadPattern := q_z_BadPattern, z_BadTerm := q_z_BadTerm, z_NoText := q_z_NoText }
  exact ⟨_, fun s v => .of_eq rfl, fun base _ _ => law_ok (Gg base) T (fun_mk (st := s_law) l23 c23 k23) 40 fun a c h => main kx h⟩
end K05

set_option Elab.async false
open PySem PySem.W PyProof.Rows
set_option maxRecDepth 100000 in
set_option maxHeartbeats 0 in
theorem PySem.Challenge.cw_likematch_k05_texts_read_or_refused_holds : PySem.Challenge.rw_likematch_k05_texts_read_or_refused.Holds := by
  w_on; o_law; k_head; (case hw => w_witness2)
  k_fill
  refine AL.walkA (k := 40 + 3) (l := PySem.Challenge.rw_likematch_k05_texts_read_or_refused) rfl rfl ⟨rfl, by decide, by decide⟩ (fun w h Y => PySem.W.kIn_of Y) ?F
  case F =>
    intro w mg fa h KX G hmg
    refine' K05.all_mk ⟨?cs_MatchError, ?cs_BadTerm, ?cs_BadPattern, 0, 0, 0, 0, 0, 0, 0, 0, 0, 0, 0, 0, ?cs_NoText⟩ KX G hmg ?a0 ?l0 ?c0 ?k0 ?a1 ?l1 ?c1 ?k1 ?a2 ?l2 ?c2 ?k2 ?a3 ?l3 ?c3 ?k3 ?a4 ?l4 ?c4 ?k4 ?a5 ?l5 ?c5 ?k5 ?a6 ?l6 ?c6 ?k6 ?a7 ?l7 ?c7 ?k7 ?a8 ?l8 ?c8 ?k8 ?a9 ?l9 ?c9 ?k9 ?a10 ?l10 ?c10 ?k10 ?a11 ?l11 ?c11 ?k11 ?a12 ?l12 ?c12 ?k12 ?a13 ?l13 ?c13 ?k13 ?a14 ?l14 ?c14 ?k14 ?a15 ?l15 ?c15 ?k15 ?a16 ?l16 ?c16 ?k16 ?a17 ?l17 ?c17 ?k17 ?a18 ?l18 ?c18 ?k18 ?a19 ?l19 ?c19 ?k19 ?a20 ?l20 ?c20 ?k20 ?a21 ?l21 ?c21 ?k21 ?a22 ?l22 ?c22 ?k22 ?a23 ?l23 ?c23 ?k23 ?z_ValueError ?z_abs ?z_all ?z_enumerate ?z_int ?z_isinstance ?z_len ?z_list ?z_max ?z_range ?z_str ?z_sum ?z_tuple ?y_LETTERS ?y_LONGEST ?y_LONGEST_HOLE ?y_MOST_DEEP ?y_MOST_PARTS ?y_MOST_SIZE ?g_BadPattern ?g_BadTerm ?g_MatchError ?g_NoText ?oc_NoText ?os_NoText ?oe_NoText ?ot_NoText ?ok_NoText ?on_NoText ?oi_NoText ?oj_NoText ?ol_NoText ?om_NoText ?op_NoText ?hn ?ht ?ehg_NoText ?ehk_NoText ?ehs_NoText ?ehd_NoText ?eha_NoText ?ehm_NoText ?q_m_NoText_MatchError ?q_i_NoText_BadPattern ?q_i_NoText_BadTerm ?q_i_NoText_NoText ?q_v_NoText ?q_z_BadPattern ?q_z_BadTerm ?q_z_NoText
    (case g_BadPattern => first | k_is | k_exc | rfl | exact ⟨_, _, _, _, _, _, _, _, _, _, _, _, _, _, _, by k_is, by decide +kernel⟩)
    (case g_BadTerm => first | k_is | k_exc | rfl | exact ⟨_, _, _, _, _, _, _, _, _, _, _, _, _, _, _, by k_is, by decide +kernel⟩)
    (case g_MatchError => first | k_is | k_exc | rfl | exact ⟨_, _, _, _, _, _, _, _, _, _, _, _, _, _, _, by k_is, by decide +kernel⟩)
    (case g_NoText => first | k_is | k_exc | rfl | exact ⟨_, _, _, _, _, _, _, _, _, _, _, _, _, _, _, by k_is, by decide +kernel⟩)
    (case a0 => first | k_is | k_exc | rfl | exact ⟨_, _, _, _, _, _, _, _, _, _, _, _, _, _, _, by k_is, by decide +kernel⟩)
    (case l0 => first | k_is | k_exc | rfl | exact ⟨_, _, _, _, _, _, _, _, _, _, _, _, _, _, _, by k_is, by decide +kernel⟩)
    (case c0 => first | k_is | k_exc | rfl | exact ⟨_, _, _, _, _, _, _, _, _, _, _, _, _, _, _, by k_is, by decide +kernel⟩)
    (case k0 => first | k_is | k_exc | rfl | exact ⟨_, _, _, _, _, _, _, _, _, _, _, _, _, _, _, by k_is, by decide +kernel⟩)
    (case a1 => first | k_is | k_exc | rfl | exact ⟨_, _, _, _, _, _, _, _, _, _, _, _, _, _, _, by k_is, by decide +kernel⟩)
    (case l1 => first | k_is | k_exc | rfl | exact ⟨_, _, _, _, _, _, _, _, _, _, _, _, _, _, _, by k_is, by decide +kernel⟩)
    (case c1 => first | k_is | k_exc | rfl | exact ⟨_, _, _, _, _, _, _, _, _, _, _, _, _, _, _, by k_is, by decide +kernel⟩)
    (case k1 => first | k_is | k_exc | rfl | exact ⟨_, _, _, _, _, _, _, _, _, _, _, _, _, _, _, by k_is, by decide +kernel⟩)
    (case a2 => first | k_is | k_exc | rfl | exact ⟨_, _, _, _, _, _, _, _, _, _, _, _, _, _, _, by k_is, by decide +kernel⟩)
    (case l2 => first | k_is | k_exc | rfl | exact ⟨_, _, _, _, _, _, _, _, _, _, _, _, _, _, _, by k_is, by decide +kernel⟩)
    (case c2 => first | k_is | k_exc | rfl | exact ⟨_, _, _, _, _, _, _, _, _, _, _, _, _, _, _, by k_is, by decide +kernel⟩)
    (case k2 => first | k_is | k_exc | rfl | exact ⟨_, _, _, _, _, _, _, _, _, _, _, _, _, _, _, by k_is, by decide +kernel⟩)
    (case a3 => first | k_is | k_exc | rfl | exact ⟨_, _, _, _, _, _, _, _, _, _, _, _, _, _, _, by k_is, by decide +kernel⟩)
    (case l3 => first | k_is | k_exc | rfl | exact ⟨_, _, _, _, _, _, _, _, _, _, _, _, _, _, _, by k_is, by decide +kernel⟩)
    (case c3 => first | k_is | k_exc | rfl | exact ⟨_, _, _, _, _, _, _, _, _, _, _, _, _, _, _, by k_is, by decide +kernel⟩)
    (case k3 => first | k_is | k_exc | rfl | exact ⟨_, _, _, _, _, _, _, _, _, _, _, _, _, _, _, by k_is, by decide +kernel⟩)
    (case a4 => first | k_is | k_exc | rfl | exact ⟨_, _, _, _, _, _, _, _, _, _, _, _, _, _, _, by k_is, by decide +kernel⟩)
    (case l4 => first | k_is | k_exc | rfl | exact ⟨_, _, _, _, _, _, _, _, _, _, _, _, _, _, _, by k_is, by decide +kernel⟩)
    (case c4 => first | k_is | k_exc | rfl | exact ⟨_, _, _, _, _, _, _, _, _, _, _, _, _, _, _, by k_is, by decide +kernel⟩)
    (case k4 => first | k_is | k_exc | rfl | exact ⟨_, _, _, _, _, _, _, _, _, _, _, _, _, _, _, by k_is, by decide +kernel⟩)
    (case a5 => first | k_is | k_exc | rfl | exact ⟨_, _, _, _, _, _, _, _, _, _, _, _, _, _, _, by k_is, by decide +kernel⟩)
    (case l5 => first | k_is | k_exc | rfl | exact ⟨_, _, _, _, _, _, _, _, _, _, _, _, _, _, _, by k_is, by decide +kernel⟩)
    (case c5 => first | k_is | k_exc | rfl | exact ⟨_, _, _, _, _, _, _, _, _, _, _, _, _, _, _, by k_is, by decide +kernel⟩)
    (case k5 => first | k_is | k_exc | rfl | exact ⟨_, _, _, _, _, _, _, _, _, _, _, _, _, _, _, by k_is, by decide +kernel⟩)
    (case a6 => first | k_is | k_exc | rfl | exact ⟨_, _, _, _, _, _, _, _, _, _, _, _, _, _, _, by k_is, by decide +kernel⟩)
    (case l6 => first | k_is | k_exc | rfl | exact ⟨_, _, _, _, _, _, _, _, _, _, _, _, _, _, _, by k_is, by decide +kernel⟩)
    (case c6 => first | k_is | k_exc | rfl | exact ⟨_, _, _, _, _, _, _, _, _, _, _, _, _, _, _, by k_is, by decide +kernel⟩)
    (case k6 => first | k_is | k_exc | rfl | exact ⟨_, _, _, _, _, _, _, _, _, _, _, _, _, _, _, by k_is, by decide +kernel⟩)
    (case a7 => first | k_is | k_exc | rfl | exact ⟨_, _, _, _, _, _, _, _, _, _, _, _, _, _, _, by k_is, by decide +kernel⟩)
    (case l7 => first | k_is | k_exc | rfl | exact ⟨_, _, _, _, _, _, _, _, _, _, _, _, _, _, _, by k_is, by decide +kernel⟩)
    (case c7 => first | k_is | k_exc | rfl | exact ⟨_, _, _, _, _, _, _, _, _, _, _, _, _, _, _, by k_is, by decide +kernel⟩)
    (case k7 => first | k_is | k_exc | rfl | exact ⟨_, _, _, _, _, _, _, _, _, _, _, _, _, _, _, by k_is, by decide +kernel⟩)
    (case a8 => first | k_is | k_exc | rfl | exact ⟨_, _, _, _, _, _, _, _, _, _, _, _, _, _, _, by k_is, by decide +kernel⟩)
    (case l8 => first | k_is | k_exc | rfl | exact ⟨_, _, _, _, _, _, _, _, _, _, _, _, _, _, _, by k_is, by decide +kernel⟩)
    (case c8 => first | k_is | k_exc | rfl | exact ⟨_, _, _, _, _, _, _, _, _, _, _, _, _, _, _, by k_is, by decide +kernel⟩)
    (case k8 => first | k_is | k_exc | rfl | exact ⟨_, _, _, _, _, _, _, _, _, _, _, _, _, _, _, by k_is, by decide +kernel⟩)
    (case a9 => first | k_is | k_exc | rfl | exact ⟨_, _, _, _, _, _, _, _, _, _, _, _, _, _, _, by k_is, by decide +kernel⟩)
    (case l9 => first | k_is | k_exc | rfl | exact ⟨_, _, _, _, _, _, _, _, _, _, _, _, _, _, _, by k_is, by decide +kernel⟩)
    (case c9 => first | k_is | k_exc | rfl | exact ⟨_, _, _, _, _, _, _, _, _, _, _, _, _, _, _, by k_is, by decide +kernel⟩)
    (case k9 => first | k_is | k_exc | rfl | exact ⟨_, _, _, _, _, _, _, _, _, _, _, _, _, _, _, by k_is, by decide +kernel⟩)
    (case a10 => first | k_is | k_exc | rfl | exact ⟨_, _, _, _, _, _, _, _, _, _, _, _, _, _, _, by k_is, by decide +kernel⟩)
    (case l10 => first | k_is | k_exc | rfl | exact ⟨_, _, _, _, _, _, _, _, _, _, _, _, _, _, _, by k_is, by decide +kernel⟩)
    (case c10 => first | k_is | k_exc | rfl | exact ⟨_, _, _, _, _, _, _, _, _, _, _, _, _, _, _, by k_is, by decide +kernel⟩)
    (case k10 => first | k_is | k_exc | rfl | exact ⟨_, _, _, _, _, _, _, _, _, _, _, _, _, _, _, by k_is, by decide +kernel⟩)
    (case a11 => first | k_is | k_exc | rfl | exact ⟨_, _, _, _, _, _, _, _, _, _, _, _, _, _, _, by k_is, by decide +kernel⟩)
    (case l11 => first | k_is | k_exc | rfl | exact ⟨_, _, _, _, _, _, _, _, _, _, _, _, _, _, _, by k_is, by decide +kernel⟩)
    (case c11 => first | k_is | k_exc | rfl | exact ⟨_, _, _, _, _, _, _, _, _, _, _, _, _, _, _, by k_is, by decide +kernel⟩)
    (case k11 => first | k_is | k_exc | rfl | exact ⟨_, _, _, _, _, _, _, _, _, _, _, _, _, _, _, by k_is, by decide +kernel⟩)
    (case a12 => first | k_is | k_exc | rfl | exact ⟨_, _, _, _, _, _, _, _, _, _, _, _, _, _, _, by k_is, by decide +kernel⟩)
    (case l12 => first | k_is | k_exc | rfl | exact ⟨_, _, _, _, _, _, _, _, _, _, _, _, _, _, _, by k_is, by decide +kernel⟩)
    (case c12 => first | k_is | k_exc | rfl | exact ⟨_, _, _, _, _, _, _, _, _, _, _, _, _, _, _, by k_is, by decide +kernel⟩)
    (case k12 => first | k_is | k_exc | rfl | exact ⟨_, _, _, _, _, _, _, _, _, _, _, _, _, _, _, by k_is, by decide +kernel⟩)
    (case a13 => first | k_is | k_exc | rfl | exact ⟨_, _, _, _, _, _, _, _, _, _, _, _, _, _, _, by k_is, by decide +kernel⟩)
    (case l13 => first | k_is | k_exc | rfl | exact ⟨_, _, _, _, _, _, _, _, _, _, _, _, _, _, _, by k_is, by decide +kernel⟩)
    (case c13 => first | k_is | k_exc | rfl | exact ⟨_, _, _, _, _, _, _, _, _, _, _, _, _, _, _, by k_is, by decide +kernel⟩)
    (case k13 => first | k_is | k_exc | rfl | exact ⟨_, _, _, _, _, _, _, _, _, _, _, _, _, _, _, by k_is, by decide +kernel⟩)
    (case a14 => first | k_is | k_exc | rfl | exact ⟨_, _, _, _, _, _, _, _, _, _, _, _, _, _, _, by k_is, by decide +kernel⟩)
    (case l14 => first | k_is | k_exc | rfl | exact ⟨_, _, _, _, _, _, _, _, _, _, _, _, _, _, _, by k_is, by decide +kernel⟩)
    (case c14 => first | k_is | k_exc | rfl | exact ⟨_, _, _, _, _, _, _, _, _, _, _, _, _, _, _, by k_is, by decide +kernel⟩)
    (case k14 => first | k_is | k_exc | rfl | exact ⟨_, _, _, _, _, _, _, _, _, _, _, _, _, _, _, by k_is, by decide +kernel⟩)
    (case a15 => first | k_is | k_exc | rfl | exact ⟨_, _, _, _, _, _, _, _, _, _, _, _, _, _, _, by k_is, by decide +kernel⟩)
    (case l15 => first | k_is | k_exc | rfl | exact ⟨_, _, _, _, _, _, _, _, _, _, _, _, _, _, _, by k_is, by decide +kernel⟩)
    (case c15 => first | k_is | k_exc | rfl | exact ⟨_, _, _, _, _, _, _, _, _, _, _, _, _, _, _, by k_is, by decide +kernel⟩)
    (case k15 => first | k_is | k_exc | rfl | exact ⟨_, _, _, _, _, _, _, _, _, _, _, _, _, _, _, by k_is, by decide +kernel⟩)
    (case a16 => first | k_is | k_exc | rfl | exact ⟨_, _, _, _, _, _, _, _, _, _, _, _, _, _, _, by k_is, by decide +kernel⟩)
    (case l16 => first | k_is | k_exc | rfl | exact ⟨_, _, _, _, _, _, _, _, _, _, _, _, _, _, _, by k_is, by decide +kernel⟩)
    (case c16 => first | k_is | k_exc | rfl | exact ⟨_, _, _, _, _, _, _, _, _, _, _, _, _, _, _, by k_is, by decide +kernel⟩)
    (case k16 => first | k_is | k_exc | rfl | exact ⟨_, _, _, _, _, _, _, _, _, _, _, _, _, _, _, by k_is, by decide +kernel⟩)
    (case a17 => first | k_is | k_exc | rfl | exact ⟨_, _, _, _, _, _, _, _, _, _, _, _, _, _, _, by k_is, by decide +kernel⟩)
    (case l17 => first | k_is | k_exc | rfl | exact ⟨_, _, _, _, _, _, _, _, _, _, _, _, _, _, _, by k_is, by decide +kernel⟩)
    (case c17 => first | k_is | k_exc | rfl | exact ⟨_, _, _, _, _, _, _, _, _, _, _, _, _, _, _, by k_is, by decide +kernel⟩)
    (case k17 => first | k_is | k_exc | rfl | exact ⟨_, _, _, _, _, _, _, _, _, _, _, _, _, _, _, by k_is, by decide +kernel⟩)
    (case a18 => first | k_is | k_exc | rfl | exact ⟨_, _, _, _, _, _, _, _, _, _, _, _, _, _, _, by k_is, by decide +kernel⟩)
    (case l18 => first | k_is | k_exc | rfl | exact ⟨_, _, _, _, _, _, _, _, _, _, _, _, _, _, _, by k_is, by decide +kernel⟩)
    (case c18 => first | k_is | k_exc | rfl | exact ⟨_, _, _, _, _, _, _, _, _, _, _, _, _, _, _, by k_is, by decide +kernel⟩)
    (case k18 => first | k_is | k_exc | rfl | exact ⟨_, _, _, _, _, _, _, _, _, _, _, _, _, _, _, by k_is, by decide +kernel⟩)
    (case a19 => first | k_is | k_exc | rfl | exact ⟨_, _, _, _, _, _, _, _, _, _, _, _, _, _, _, by k_is, by decide +kernel⟩)
    (case l19 => first | k_is | k_exc | rfl | exact ⟨_, _, _, _, _, _, _, _, _, _, _, _, _, _, _, by k_is, by decide +kernel⟩)
    (case c19 => first | k_is | k_exc | rfl | exact ⟨_, _, _, _, _, _, _, _, _, _, _, _, _, _, _, by k_is, by decide +kernel⟩)
    (case k19 => first | k_is | k_exc | rfl | exact ⟨_, _, _, _, _, _, _, _, _, _, _, _, _, _, _, by k_is, by decide +kernel⟩)
    (case a20 => first | k_is | k_exc | rfl | exact ⟨_, _, _, _, _, _, _, _, _, _, _, _, _, _, _, by k_is, by decide +kernel⟩)
    (case l20 => first | k_is | k_exc | rfl | exact ⟨_, _, _, _, _, _, _, _, _, _, _, _, _, _, _, by k_is, by decide +kernel⟩)
    (case c20 => first | k_is | k_exc | rfl | exact ⟨_, _, _, _, _, _, _, _, _, _, _, _, _, _, _, by k_is, by decide +kernel⟩)
    (case k20 => first | k_is | k_exc | rfl | exact ⟨_, _, _, _, _, _, _, _, _, _, _, _, _, _, _, by k_is, by decide +kernel⟩)
    (case a21 => first | k_is | k_exc | rfl | exact ⟨_, _, _, _, _, _, _, _, _, _, _, _, _, _, _, by k_is, by decide +kernel⟩)
    (case l21 => first | k_is | k_exc | rfl | exact ⟨_, _, _, _, _, _, _, _, _, _, _, _, _, _, _, by k_is, by decide +kernel⟩)
    (case c21 => first | k_is | k_exc | rfl | exact ⟨_, _, _, _, _, _, _, _, _, _, _, _, _, _, _, by k_is, by decide +kernel⟩)
    (case k21 => first | k_is | k_exc | rfl | exact ⟨_, _, _, _, _, _, _, _, _, _, _, _, _, _, _, by k_is, by decide +kernel⟩)
    (case a22 => first | k_is | k_exc | rfl | exact ⟨_, _, _, _, _, _, _, _, _, _, _, _, _, _, _, by k_is, by decide +kernel⟩)
    (case l22 => first | k_is | k_exc | rfl | exact ⟨_, _, _, _, _, _, _, _, _, _, _, _, _, _, _, by k_is, by decide +kernel⟩)
    (case c22 => first | k_is | k_exc | rfl | exact ⟨_, _, _, _, _, _, _, _, _, _, _, _, _, _, _, by k_is, by decide +kernel⟩)
    (case k22 => first | k_is | k_exc | rfl | exact ⟨_, _, _, _, _, _, _, _, _, _, _, _, _, _, _, by k_is, by decide +kernel⟩)
    (case a23 => first | k_is | k_exc | rfl | exact ⟨_, _, _, _, _, _, _, _, _, _, _, _, _, _, _, by k_is, by decide +kernel⟩)
    (case l23 => first | k_is | k_exc | rfl | exact ⟨_, _, _, _, _, _, _, _, _, _, _, _, _, _, _, by k_is, by decide +kernel⟩)
    (case c23 => first | k_is | k_exc | rfl | exact ⟨_, _, _, _, _, _, _, _, _, _, _, _, _, _, _, by k_is, by decide +kernel⟩)
    (case k23 => first | k_is | k_exc | rfl | exact ⟨_, _, _, _, _, _, _, _, _, _, _, _, _, _, _, by k_is, by decide +kernel⟩)
    (case z_ValueError => first | k_is | k_exc | rfl | exact ⟨_, _, _, _, _, _, _, _, _, _, _, _, _, _, _, by k_is, by decide +kernel⟩)
    (case z_abs => first | k_is | k_exc | rfl | exact ⟨_, _, _, _, _, _, _, _, _, _, _, _, _, _, _, by k_is, by decide +kernel⟩)
    (case z_all => first | k_is | k_exc | rfl | exact ⟨_, _, _, _, _, _, _, _, _, _, _, _, _, _, _, by k_is, by decide +kernel⟩)
    (case z_enumerate => first | k_is | k_exc | rfl | exact ⟨_, _, _, _, _, _, _, _, _, _, _, _, _, _, _, by k_is, by decide +kernel⟩)
    (case z_int => first | k_is | k_exc | rfl | exact ⟨_, _, _, _, _, _, _, _, _, _, _, _, _, _, _, by k_is, by decide +kernel⟩)
    (case z_isinstance => first | k_is | k_exc | rfl | exact ⟨_, _, _, _, _, _, _, _, _, _, _, _, _, _, _, by k_is, by decide +kernel⟩)
    (case z_len => first | k_is | k_exc | rfl | exact ⟨_, _, _, _, _, _, _, _, _, _, _, _, _, _, _, by k_is, by decide +kernel⟩)
    (case z_list => first | k_is | k_exc | rfl | exact ⟨_, _, _, _, _, _, _, _, _, _, _, _, _, _, _, by k_is, by decide +kernel⟩)
    (case z_max => first | k_is | k_exc | rfl | exact ⟨_, _, _, _, _, _, _, _, _, _, _, _, _, _, _, by k_is, by decide +kernel⟩)
    (case z_range => first | k_is | k_exc | rfl | exact ⟨_, _, _, _, _, _, _, _, _, _, _, _, _, _, _, by k_is, by decide +kernel⟩)
    (case z_str => first | k_is | k_exc | rfl | exact ⟨_, _, _, _, _, _, _, _, _, _, _, _, _, _, _, by k_is, by decide +kernel⟩)
    (case z_sum => first | k_is | k_exc | rfl | exact ⟨_, _, _, _, _, _, _, _, _, _, _, _, _, _, _, by k_is, by decide +kernel⟩)
    (case z_tuple => first | k_is | k_exc | rfl | exact ⟨_, _, _, _, _, _, _, _, _, _, _, _, _, _, _, by k_is, by decide +kernel⟩)
    (case y_LETTERS => first | k_is | k_exc | rfl | exact ⟨_, _, _, _, _, _, _, _, _, _, _, _, _, _, _, by k_is, by decide +kernel⟩)
    (case y_LONGEST => first | k_is | k_exc | rfl | exact ⟨_, _, _, _, _, _, _, _, _, _, _, _, _, _, _, by k_is, by decide +kernel⟩)
    (case y_LONGEST_HOLE => first | k_is | k_exc | rfl | exact ⟨_, _, _, _, _, _, _, _, _, _, _, _, _, _, _, by k_is, by decide +kernel⟩)
    (case y_MOST_DEEP => first | k_is | k_exc | rfl | exact ⟨_, _, _, _, _, _, _, _, _, _, _, _, _, _, _, by k_is, by decide +kernel⟩)
    (case y_MOST_PARTS => first | k_is | k_exc | rfl | exact ⟨_, _, _, _, _, _, _, _, _, _, _, _, _, _, _, by k_is, by decide +kernel⟩)
    (case y_MOST_SIZE => first | k_is | k_exc | rfl | exact ⟨_, _, _, _, _, _, _, _, _, _, _, _, _, _, _, by k_is, by decide +kernel⟩)
    (case oc_NoText => first | k_is | k_exc | rfl | exact ⟨_, _, _, _, _, _, _, _, _, _, _, _, _, _, _, by k_is, by decide +kernel⟩)
    (case os_NoText => first | k_is | k_exc | rfl | exact ⟨_, _, _, _, _, _, _, _, _, _, _, _, _, _, _, by k_is, by decide +kernel⟩)
    (case oe_NoText => first | k_is | k_exc | rfl | exact ⟨_, _, _, _, _, _, _, _, _, _, _, _, _, _, _, by k_is, by decide +kernel⟩)
    (case ot_NoText => first | k_is | k_exc | rfl | exact ⟨_, _, _, _, _, _, _, _, _, _, _, _, _, _, _, by k_is, by decide +kernel⟩)
    (case ok_NoText => first | k_is | k_exc | rfl | exact ⟨_, _, _, _, _, _, _, _, _, _, _, _, _, _, _, by k_is, by decide +kernel⟩)
    (case on_NoText => first | k_is | k_exc | rfl | exact ⟨_, _, _, _, _, _, _, _, _, _, _, _, _, _, _, by k_is, by decide +kernel⟩)
    (case oi_NoText => first | k_is | k_exc | rfl | exact ⟨_, _, _, _, _, _, _, _, _, _, _, _, _, _, _, by k_is, by decide +kernel⟩)
    (case oj_NoText => first | k_is | k_exc | rfl | exact ⟨_, _, _, _, _, _, _, _, _, _, _, _, _, _, _, by k_is, by decide +kernel⟩)
    (case ol_NoText => first | k_is | k_exc | rfl | exact ⟨_, _, _, _, _, _, _, _, _, _, _, _, _, _, _, by k_is, by decide +kernel⟩)
    (case om_NoText => first | k_is | k_exc | rfl | exact ⟨_, _, _, _, _, _, _, _, _, _, _, _, _, _, _, by k_is, by decide +kernel⟩)
    (case op_NoText => first | k_is | k_exc | rfl | exact ⟨_, _, _, _, _, _, _, _, _, _, _, _, _, _, _, by k_is, by decide +kernel⟩)
    (case hn => first | k_is | k_exc | rfl | exact ⟨_, _, _, _, _, _, _, _, _, _, _, _, _, _, _, by k_is, by decide +kernel⟩)
    (case ht => first | k_is | k_exc | rfl | exact ⟨_, _, _, _, _, _, _, _, _, _, _, _, _, _, _, by k_is, by decide +kernel⟩)
    (case ehg_NoText => first | k_is | k_exc | rfl | exact ⟨_, _, _, _, _, _, _, _, _, _, _, _, _, _, _, by k_is, by decide +kernel⟩)
    (case ehk_NoText => first | k_is | k_exc | rfl | exact ⟨_, _, _, _, _, _, _, _, _, _, _, _, _, _, _, by k_is, by decide +kernel⟩)
    (case ehs_NoText => first | k_is | k_exc | rfl | exact ⟨_, _, _, _, _, _, _, _, _, _, _, _, _, _, _, by k_is, by decide +kernel⟩)
    (case ehd_NoText => first | k_is | k_exc | rfl | exact ⟨_, _, _, _, _, _, _, _, _, _, _, _, _, _, _, by k_is, by decide +kernel⟩)
    (case eha_NoText => first | k_is | k_exc | rfl | exact ⟨_, _, _, _, _, _, _, _, _, _, _, _, _, _, _, by k_is, by decide +kernel⟩)
    (case ehm_NoText => first | k_is | k_exc | rfl | exact ⟨_, _, _, _, _, _, _, _, _, _, _, _, _, _, _, by k_is, by decide +kernel⟩)
    (case q_m_NoText_MatchError => first | k_is | k_exc | rfl | exact ⟨_, _, _, _, _, _, _, _, _, _, _, _, _, _, _, by k_is, by decide +kernel⟩)
    (case q_i_NoText_BadPattern => first | k_is | k_exc | rfl | exact ⟨_, _, _, _, _, _, _, _, _, _, _, _, _, _, _, by k_is, by decide +kernel⟩)
    (case q_i_NoText_BadTerm => first | k_is | k_exc | rfl | exact ⟨_, _, _, _, _, _, _, _, _, _, _, _, _, _, _, by k_is, by decide +kernel⟩)
    (case q_i_NoText_NoText => first | k_is | k_exc | rfl | exact ⟨_, _, _, _, _, _, _, _, _, _, _, _, _, _, _, by k_is, by decide +kernel⟩)
    (case q_v_NoText => first | k_is | k_exc | rfl | exact ⟨_, _, _, _, _, _, _, _, _, _, _, _, _, _, _, by k_is, by decide +kernel⟩)
    (case q_z_BadPattern => first | k_is | k_exc | rfl | exact ⟨_, _, _, _, _, _, _, _, _, _, _, _, _, _, _, by k_is, by decide +kernel⟩)
    (case q_z_BadTerm => first | k_is | k_exc | rfl | exact ⟨_, _, _, _, _, _, _, _, _, _, _, _, _, _, _, by k_is, by decide +kernel⟩)
    (case q_z_NoText => first | k_is | k_exc | rfl | exact ⟨_, _, _, _, _, _, _, _, _, _, _, _, _, _, _, by k_is, by decide +kernel⟩)

